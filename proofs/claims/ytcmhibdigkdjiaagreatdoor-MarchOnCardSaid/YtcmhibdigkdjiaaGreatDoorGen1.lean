import Derived.Test.YtcmhibdigkdjiaaGreatDoorMod
import Derived.Test.YtcmhibdigkdjiaaGreatDoorSC
import Derived.Test.YtcmhibdigkdjiaaGreatDoorBld
import Derived.Test.YtcmhibdigkdjiaaGreatDoorLib
import Derived.Test.YtcmhibdigkdjiaaGreatDoorChecked
set_option maxRecDepth 100000
set_option maxHeartbeats 4000000
namespace Go.Proofs.YtcmhibdigkdjiaaGreatDoor
open Go Go.RowKit
theorem ownK : ownKnob Tryz.prog.godebug = none := by kernel_rfl
theorem laidOutK : laidOutB Tryz.prog = true := by kernel_rfl
abbrev L_S_u32 (xs : List Nat) : Ly := sli 1 (xs.map u32)
abbrev L_retrospectref09_Frac (x : M_retrospectref09_Frac) : Ly := .agg [bl x.Neg, L_S_u32 x.N, L_S_u32 x.D]
theorem if_L_retrospectref09_Frac {a0_ a1_ a2_} : IF (.agg [bl a0_, sli 1 a1_, sli 1 a2_]) := if_agg (ifs_cons if_bl (ifs_cons if_sli (ifs_cons if_sli (ifs_nil))))
abbrev L_retrospectref24_Inst (x : M_retrospectref24_Inst) : Ly := .agg [i64 x.Op, i64 x.A, i64 x.B, L_retrospectref09_Frac x.N]
theorem if_L_retrospectref24_Inst {a0_ a1_ a2_ a3_0_ a3_1_ a3_2_} : IF (.agg [i64 a0_, i64 a1_, i64 a2_, .agg [bl a3_0_, sli 1 a3_1_, sli 1 a3_2_]]) := if_agg (ifs_cons if_i64 (ifs_cons if_i64 (ifs_cons if_i64 (ifs_cons (if_agg (ifs_cons if_bl (ifs_cons if_sli (ifs_cons if_sli (ifs_nil))))) (ifs_nil)))))
abbrev L_S_retrospectref24_Inst (xs : List M_retrospectref24_Inst) : Ly := sli 6 (xs.map L_retrospectref24_Inst)
abbrev L_S_i64 (xs : List Int) : Ly := sli 1 (xs.map i64)
abbrev L_retrospectref24_Tape (x : M_retrospectref24_Tape) : Ly := .agg [L_S_retrospectref24_Inst x.Code, L_S_i64 x.Outs, i64 x.Dim, i64 x.Par]
theorem if_L_retrospectref24_Tape {a0_ a1_ a2_ a3_} : IF (.agg [sli 6 a0_, sli 1 a1_, i64 a2_, i64 a3_]) := if_agg (ifs_cons if_sli (ifs_cons if_sli (ifs_cons if_i64 (ifs_cons if_i64 (ifs_nil)))))
abbrev L_S_retrospectref09_Frac (xs : List M_retrospectref09_Frac) : Ly := sli 3 (xs.map L_retrospectref09_Frac)
abbrev L_S_S_retrospectref09_Frac (xs : List (List M_retrospectref09_Frac)) : Ly := sli 1 (xs.map L_S_retrospectref09_Frac)
abbrev L_retrospectref30_Scheme (x : M_retrospectref30_Scheme) : Ly := .agg [str x.Name, L_S_retrospectref09_Frac x.C, L_S_S_retrospectref09_Frac x.A, L_S_retrospectref09_Frac x.B, L_S_retrospectref09_Frac x.E]
theorem if_L_retrospectref30_Scheme {a0_ a1_ a2_ a3_ a4_} : IF (.agg [str a0_, sli 3 a1_, sli 1 a2_, sli 3 a3_, sli 3 a4_]) := if_agg (ifs_cons if_str (ifs_cons if_sli (ifs_cons if_sli (ifs_cons if_sli (ifs_cons if_sli (ifs_nil))))))
abbrev L_retrospectref33_Problem (x : M_retrospectref33_Problem) : Ly := .agg [L_retrospectref24_Tape x.Tape, L_retrospectref30_Scheme x.Scheme, L_S_retrospectref09_Frac x.P, i64 x.Bits]
theorem if_L_retrospectref33_Problem {a0_0_ a0_1_ a0_2_ a0_3_ a1_0_ a1_1_ a1_2_ a1_3_ a1_4_ a2_ a3_} : IF (.agg [.agg [sli 6 a0_0_, sli 1 a0_1_, i64 a0_2_, i64 a0_3_], .agg [str a1_0_, sli 3 a1_1_, sli 1 a1_2_, sli 3 a1_3_, sli 3 a1_4_], sli 3 a2_, i64 a3_]) := if_agg (ifs_cons (if_agg (ifs_cons if_sli (ifs_cons if_sli (ifs_cons if_i64 (ifs_cons if_i64 (ifs_nil)))))) (ifs_cons (if_agg (ifs_cons if_str (ifs_cons if_sli (ifs_cons if_sli (ifs_cons if_sli (ifs_cons if_sli (ifs_nil))))))) (ifs_cons if_sli (ifs_cons if_i64 (ifs_nil)))))
abbrev L_retrospectlaw33_From (x : M_retrospectlaw33_From) : Ly := .agg [L_retrospectref09_Frac x.T, L_retrospectref09_Frac x.H, L_S_retrospectref09_Frac x.Y]
theorem if_L_retrospectlaw33_From {a0_0_ a0_1_ a0_2_ a1_0_ a1_1_ a1_2_ a2_} : IF (.agg [.agg [bl a0_0_, sli 1 a0_1_, sli 1 a0_2_], .agg [bl a1_0_, sli 1 a1_1_, sli 1 a1_2_], sli 3 a2_]) := if_agg (ifs_cons (if_agg (ifs_cons if_bl (ifs_cons if_sli (ifs_cons if_sli (ifs_nil))))) (ifs_cons (if_agg (ifs_cons if_bl (ifs_cons if_sli (ifs_cons if_sli (ifs_nil))))) (ifs_cons if_sli (ifs_nil))))
abbrev L_whole_Whole (x : M_whole_Whole) : Ly := .agg [bl x.Neg, L_S_u32 x.Abs]
theorem if_L_whole_Whole {a0_ a1_} : IF (.agg [bl a0_, sli 1 a1_]) := if_agg (ifs_cons if_bl (ifs_cons if_sli (ifs_nil)))
abbrev L_frac_Frac (x : M_frac_Frac) : Ly := .agg [L_whole_Whole x.Num, L_S_u32 x.Den]
theorem if_L_frac_Frac {a0_0_ a0_1_ a1_} : IF (.agg [.agg [bl a0_0_, sli 1 a0_1_], sli 1 a1_]) := if_agg (ifs_cons (if_agg (ifs_cons if_bl (ifs_cons if_sli (ifs_nil)))) (ifs_cons if_sli (ifs_nil)))
abbrev L_S_frac_Frac (xs : List M_frac_Frac) : Ly := sli 3 (xs.map L_frac_Frac)
abbrev L_S_S_frac_Frac (xs : List (List M_frac_Frac)) : Ly := sli 1 (xs.map L_S_frac_Frac)
abbrev L_scheme_Scheme (x : M_scheme_Scheme) : Ly := .agg [str x.Name, L_S_frac_Frac x.C, L_S_S_frac_Frac x.A, L_S_frac_Frac x.B, L_S_frac_Frac x.E]
theorem if_L_scheme_Scheme {a0_ a1_ a2_ a3_ a4_} : IF (.agg [str a0_, sli 3 a1_, sli 1 a2_, sli 3 a3_, sli 3 a4_]) := if_agg (ifs_cons if_str (ifs_cons if_sli (ifs_cons if_sli (ifs_cons if_sli (ifs_cons if_sli (ifs_nil))))))
abbrev L_A6_string (x : M_A6_string) : Ly := .agg [str x.a0, str x.a1, str x.a2, str x.a3, str x.a4, str x.a5]
theorem if_L_A6_string {a0_ a1_ a2_ a3_ a4_ a5_} : IF (.agg [str a0_, str a1_, str a2_, str a3_, str a4_, str a5_]) := if_agg (ifs_cons if_str (ifs_cons if_str (ifs_cons if_str (ifs_cons if_str (ifs_cons if_str (ifs_cons if_str (ifs_nil)))))))
abbrev L_api_Fault (x : M_api_Fault) : Ly := .agg [i64 x.Kind, i64 x.Step, i64 x.Stage, i64 x.At]
theorem if_L_api_Fault {a0_ a1_ a2_ a3_} : IF (.agg [i64 a0_, i64 a1_, i64 a2_, i64 a3_]) := if_agg (ifs_cons if_i64 (ifs_cons if_i64 (ifs_cons if_i64 (ifs_cons if_i64 (ifs_nil)))))
abbrev L_scheme_reader (x : M_scheme_reader) : Ly := .agg [str x.rest, i64 x.at_, bl x.over]
theorem if_L_scheme_reader {a0_ a1_ a2_} : IF (.agg [str a0_, i64 a1_, bl a2_]) := if_agg (ifs_cons if_str (ifs_cons if_i64 (ifs_cons if_bl (ifs_nil))))
abbrev L_lex_Word (x : M_lex_Word) : Ly := .agg [i64 x.Kind, str x.Text, i64 x.At]
theorem if_L_lex_Word {a0_ a1_ a2_} : IF (.agg [i64 a0_, str a1_, i64 a2_]) := if_agg (ifs_cons if_i64 (ifs_cons if_str (ifs_cons if_i64 (ifs_nil))))
abbrev L_S_S_u32 (xs : List (List Nat)) : Ly := sli 1 (xs.map L_S_u32)
abbrev L_S_string (xs : List (List UInt8)) : Ly := sli 1 (xs.map str)
abbrev L_tape_Inst (x : M_tape_Inst) : Ly := .agg [i64 x.Op, i64 x.A, i64 x.B, L_frac_Frac x.N]
theorem if_L_tape_Inst {a0_ a1_ a2_ a3_0_0_ a3_0_1_ a3_1_} : IF (.agg [i64 a0_, i64 a1_, i64 a2_, .agg [.agg [bl a3_0_0_, sli 1 a3_0_1_], sli 1 a3_1_]]) := if_agg (ifs_cons if_i64 (ifs_cons if_i64 (ifs_cons if_i64 (ifs_cons (if_agg (ifs_cons (if_agg (ifs_cons if_bl (ifs_cons if_sli (ifs_nil)))) (ifs_cons if_sli (ifs_nil)))) (ifs_nil)))))
abbrev L_S_tape_Inst (xs : List M_tape_Inst) : Ly := sli 6 (xs.map L_tape_Inst)
abbrev L_tape_Tape (x : M_tape_Tape) : Ly := .agg [L_S_tape_Inst x.Code, L_S_i64 x.Outs, i64 x.Dim, i64 x.Par]
theorem if_L_tape_Tape {a0_ a1_ a2_ a3_} : IF (.agg [sli 6 a0_, sli 1 a1_, i64 a2_, i64 a3_]) := if_agg (ifs_cons if_sli (ifs_cons if_sli (ifs_cons if_i64 (ifs_cons if_i64 (ifs_nil)))))
abbrev L_step_Problem (x : M_step_Problem) : Ly := .agg [L_tape_Tape x.Tape, L_scheme_Scheme x.Scheme, L_S_frac_Frac x.P, i64 x.Bits]
theorem if_L_step_Problem {a0_0_ a0_1_ a0_2_ a0_3_ a1_0_ a1_1_ a1_2_ a1_3_ a1_4_ a2_ a3_} : IF (.agg [.agg [sli 6 a0_0_, sli 1 a0_1_, i64 a0_2_, i64 a0_3_], .agg [str a1_0_, sli 3 a1_1_, sli 1 a1_2_, sli 3 a1_3_, sli 3 a1_4_], sli 3 a2_, i64 a3_]) := if_agg (ifs_cons (if_agg (ifs_cons if_sli (ifs_cons if_sli (ifs_cons if_i64 (ifs_cons if_i64 (ifs_nil)))))) (ifs_cons (if_agg (ifs_cons if_str (ifs_cons if_sli (ifs_cons if_sli (ifs_cons if_sli (ifs_cons if_sli (ifs_nil))))))) (ifs_cons if_sli (ifs_cons if_i64 (ifs_nil)))))
abbrev L_step_Made (x : M_step_Made) : Ly := .agg [L_S_S_frac_Frac x.Ys, L_S_S_frac_Frac x.Ks, L_S_frac_Frac x.Next, L_S_frac_Frac x.Err]
theorem if_L_step_Made {a0_ a1_ a2_ a3_} : IF (.agg [sli 1 a0_, sli 1 a1_, sli 3 a2_, sli 3 a3_]) := if_agg (ifs_cons if_sli (ifs_cons if_sli (ifs_cons if_sli (ifs_cons if_sli (ifs_nil)))))
abbrev L_tape_numbers (x : M_tape_numbers) : Ly := .agg [i64 x.op, i64 x.a, i64 x.b]
theorem if_L_tape_numbers {a0_ a1_ a2_} : IF (.agg [i64 a0_, i64 a1_, i64 a2_]) := if_agg (ifs_cons if_i64 (ifs_cons if_i64 (ifs_cons if_i64 (ifs_nil))))
abbrev L_gauge_Count (x : M_gauge_Count) : Ly := .agg [i64 x.Seen, i64 x.Peak]
theorem if_L_gauge_Count {a0_ a1_} : IF (.agg [i64 a0_, i64 a1_]) := if_agg (ifs_cons if_i64 (ifs_cons if_i64 (ifs_nil)))
abbrev L_gauge_Gauge (x : M_gauge_Gauge) : Ly := .agg [L_gauge_Count x.Count, i64 x.limit]
theorem if_L_gauge_Gauge {a0_0_ a0_1_ a1_} : IF (.agg [.agg [i64 a0_0_, i64 a0_1_], i64 a1_]) := if_agg (ifs_cons (if_agg (ifs_cons if_i64 (ifs_cons if_i64 (ifs_nil)))) (ifs_cons if_i64 (ifs_nil)))
abbrev L_eval_Point (x : M_eval_Point) : Ly := .agg [L_frac_Frac x.T, L_S_frac_Frac x.Y, L_S_frac_Frac x.P]
theorem if_L_eval_Point {a0_0_0_ a0_0_1_ a0_1_ a1_ a2_} : IF (.agg [.agg [.agg [bl a0_0_0_, sli 1 a0_0_1_], sli 1 a0_1_], sli 3 a1_, sli 3 a2_]) := if_agg (ifs_cons (if_agg (ifs_cons (if_agg (ifs_cons if_bl (ifs_cons if_sli (ifs_nil)))) (ifs_cons if_sli (ifs_nil)))) (ifs_cons if_sli (ifs_cons if_sli (ifs_nil))))
abbrev L_run_Inputs_frac_Frac_ (x : M_run_Inputs_frac_Frac_) : Ly := .agg [L_frac_Frac x.T, L_S_frac_Frac x.Y, L_S_frac_Frac x.P]
theorem if_L_run_Inputs_frac_Frac_ {a0_0_0_ a0_0_1_ a0_1_ a1_ a2_} : IF (.agg [.agg [.agg [bl a0_0_0_, sli 1 a0_0_1_], sli 1 a0_1_], sli 3 a1_, sli 3 a2_]) := if_agg (ifs_cons (if_agg (ifs_cons (if_agg (ifs_cons if_bl (ifs_cons if_sli (ifs_nil)))) (ifs_cons if_sli (ifs_nil)))) (ifs_cons if_sli (ifs_cons if_sli (ifs_nil))))
abbrev L_A9_u8 (x : M_A9_u8) : Ly := .agg [u8 x.a0, u8 x.a1, u8 x.a2, u8 x.a3, u8 x.a4, u8 x.a5, u8 x.a6, u8 x.a7, u8 x.a8]
theorem if_L_A9_u8 {a0_ a1_ a2_ a3_ a4_ a5_ a6_ a7_ a8_} : IF (.agg [u8 a0_, u8 a1_, u8 a2_, u8 a3_, u8 a4_, u8 a5_, u8 a6_, u8 a7_, u8 a8_]) := if_agg (ifs_cons if_u8 (ifs_cons if_u8 (ifs_cons if_u8 (ifs_cons if_u8 (ifs_cons if_u8 (ifs_cons if_u8 (ifs_cons if_u8 (ifs_cons if_u8 (ifs_cons if_u8 (ifs_nil))))))))))
abbrev L_past_Try (x : M_past_Try) : Ly := .agg [L_frac_Frac x.T, L_frac_Frac x.Want, L_frac_Frac x.H, L_frac_Frac x.Err, L_S_frac_Frac x.Y, bl x.Ok]
theorem if_L_past_Try {a0_0_0_ a0_0_1_ a0_1_ a1_0_0_ a1_0_1_ a1_1_ a2_0_0_ a2_0_1_ a2_1_ a3_0_0_ a3_0_1_ a3_1_ a4_ a5_} : IF (.agg [.agg [.agg [bl a0_0_0_, sli 1 a0_0_1_], sli 1 a0_1_], .agg [.agg [bl a1_0_0_, sli 1 a1_0_1_], sli 1 a1_1_], .agg [.agg [bl a2_0_0_, sli 1 a2_0_1_], sli 1 a2_1_], .agg [.agg [bl a3_0_0_, sli 1 a3_0_1_], sli 1 a3_1_], sli 3 a4_, bl a5_]) := if_agg (ifs_cons (if_agg (ifs_cons (if_agg (ifs_cons if_bl (ifs_cons if_sli (ifs_nil)))) (ifs_cons if_sli (ifs_nil)))) (ifs_cons (if_agg (ifs_cons (if_agg (ifs_cons if_bl (ifs_cons if_sli (ifs_nil)))) (ifs_cons if_sli (ifs_nil)))) (ifs_cons (if_agg (ifs_cons (if_agg (ifs_cons if_bl (ifs_cons if_sli (ifs_nil)))) (ifs_cons if_sli (ifs_nil)))) (ifs_cons (if_agg (ifs_cons (if_agg (ifs_cons if_bl (ifs_cons if_sli (ifs_nil)))) (ifs_cons if_sli (ifs_nil)))) (ifs_cons if_sli (ifs_cons if_bl (ifs_nil)))))))
abbrev L_S_past_Try (xs : List M_past_Try) : Ly := sli 14 (xs.map L_past_Try)
abbrev L_past_History (x : M_past_History) : Ly := .agg [L_S_past_Try x.Tries, L_frac_Frac x.T, L_S_frac_Frac x.Y]
theorem if_L_past_History {a0_ a1_0_0_ a1_0_1_ a1_1_ a2_} : IF (.agg [sli 14 a0_, .agg [.agg [bl a1_0_0_, sli 1 a1_0_1_], sli 1 a1_1_], sli 3 a2_]) := if_agg (ifs_cons if_sli (ifs_cons (if_agg (ifs_cons (if_agg (ifs_cons if_bl (ifs_cons if_sli (ifs_nil)))) (ifs_cons if_sli (ifs_nil)))) (ifs_cons if_sli (ifs_nil))))
instance ti_31 : CTy Tryz.prog 31 11 208 (.agg #[.slice none 0 0, .slice none 0 0, .int .i64 0, .int .i64 0, .string ⟨#[]⟩, .slice none 0 0, .slice none 0 0, .slice none 0 0, .slice none 0 0, .slice none 0 0, .int .i64 0]) := ⟨tyI (by kernel_rfl)⟩
instance sh_31 : CSh Tryz.prog 31 true 11 := ⟨shp Tryz.underlying31 rfl ti_31.h⟩
instance ti_25 : CTy Tryz.prog 25 4 64 (.agg #[.slice none 0 0, .slice none 0 0, .int .i64 0, .int .i64 0]) := ⟨tyI (by kernel_rfl)⟩
instance fd_31_0 : CFd Tryz.prog 31 0 0 := ⟨fdA Tryz.underlying31 rfl rfl ti_25.h rfl⟩
instance sh_25 : CSh Tryz.prog 25 true 4 := ⟨shp Tryz.underlying25 rfl ti_25.h⟩
instance ti_22 : CTy Tryz.prog 22 1 24 (.slice none 0 0) := ⟨tyI (by kernel_rfl)⟩
instance fd_25_0 : CFd Tryz.prog 25 0 0 := ⟨fdA Tryz.underlying25 rfl rfl ti_22.h rfl⟩
instance : CUn Tryz.prog 22 (.slice 116) := ⟨Tryz.underlying22⟩
instance sh_22 : CSh Tryz.prog 22 false 1 := ⟨shp Tryz.underlying22 rfl ti_22.h⟩
instance ti_116 : CTy Tryz.prog 116 6 80 (.agg #[.int .i64 0, .int .i64 0, .int .i64 0, .bool false, .slice none 0 0, .slice none 0 0]) := ⟨tyI (by kernel_rfl)⟩
instance ti_34 : CTy Tryz.prog 34 3 56 (.agg #[.bool false, .slice none 0 0, .slice none 0 0]) := ⟨tyI (by kernel_rfl)⟩
instance fd_116_3 : CFd Tryz.prog 116 3 3 := ⟨fdA Tryz.underlying116 rfl rfl ti_34.h rfl⟩
instance sh_34 : CSh Tryz.prog 34 true 3 := ⟨shp Tryz.underlying34 rfl ti_34.h⟩
instance ti_32 : CTy Tryz.prog 32 1 24 (.slice none 0 0) := ⟨tyI (by kernel_rfl)⟩
instance fd_34_1 : CFd Tryz.prog 34 1 1 := ⟨fdA Tryz.underlying34 rfl rfl ti_32.h rfl⟩
instance : CUn Tryz.prog 32 (.slice 139) := ⟨Tryz.underlying32⟩
instance sh_32 : CSh Tryz.prog 32 false 1 := ⟨shp Tryz.underlying32 rfl ti_32.h⟩
instance fd_34_2 : CFd Tryz.prog 34 2 2 := ⟨fdA Tryz.underlying34 rfl rfl ti_32.h rfl⟩
instance ti_23 : CTy Tryz.prog 23 1 24 (.slice none 0 0) := ⟨tyI (by kernel_rfl)⟩
instance fd_25_1 : CFd Tryz.prog 25 1 1 := ⟨fdA Tryz.underlying25 rfl rfl ti_23.h rfl⟩
instance : CUn Tryz.prog 23 (.slice 3) := ⟨Tryz.underlying23⟩
instance sh_23 : CSh Tryz.prog 23 false 1 := ⟨shp Tryz.underlying23 rfl ti_23.h⟩
instance ti_29 : CTy Tryz.prog 29 5 112 (.agg #[.string ⟨#[]⟩, .slice none 0 0, .slice none 0 0, .slice none 0 0, .slice none 0 0]) := ⟨tyI (by kernel_rfl)⟩
instance fd_31_1 : CFd Tryz.prog 31 1 4 := ⟨fdA Tryz.underlying31 rfl rfl ti_29.h rfl⟩
instance sh_29 : CSh Tryz.prog 29 true 5 := ⟨shp Tryz.underlying29 rfl ti_29.h⟩
instance ti_9 : CTy Tryz.prog 9 1 16 (.string ⟨#[]⟩) := ⟨tyI (by kernel_rfl)⟩
instance fd_29_0 : CFd Tryz.prog 29 0 0 := ⟨fdA Tryz.underlying29 rfl rfl ti_9.h rfl⟩
instance : CUn Tryz.prog 9 (.string) := ⟨Tryz.underlying9⟩
instance sh_9 : CSh Tryz.prog 9 false 1 := ⟨shp Tryz.underlying9 rfl ti_9.h⟩
instance ti_27 : CTy Tryz.prog 27 1 24 (.slice none 0 0) := ⟨tyI (by kernel_rfl)⟩
instance fd_29_2 : CFd Tryz.prog 29 2 2 := ⟨fdA Tryz.underlying29 rfl rfl ti_27.h rfl⟩
instance : CUn Tryz.prog 27 (.slice 26) := ⟨Tryz.underlying27⟩
instance sh_27 : CSh Tryz.prog 27 false 1 := ⟨shp Tryz.underlying27 rfl ti_27.h⟩
instance ti_26 : CTy Tryz.prog 26 1 24 (.slice none 0 0) := ⟨tyI (by kernel_rfl)⟩
instance fd_29_3 : CFd Tryz.prog 29 3 3 := ⟨fdA Tryz.underlying29 rfl rfl ti_26.h rfl⟩
instance : CUn Tryz.prog 26 (.slice 34) := ⟨Tryz.underlying26⟩
instance sh_26 : CSh Tryz.prog 26 false 1 := ⟨shp Tryz.underlying26 rfl ti_26.h⟩
instance fd_29_1 : CFd Tryz.prog 29 1 1 := ⟨fdA Tryz.underlying29 rfl rfl ti_26.h rfl⟩
instance fd_29_4 : CFd Tryz.prog 29 4 4 := ⟨fdA Tryz.underlying29 rfl rfl ti_26.h rfl⟩
instance fd_31_2 : CFd Tryz.prog 31 2 9 := ⟨fdA Tryz.underlying31 rfl rfl ti_26.h rfl⟩
instance ti_36 : CTy Tryz.prog 36 7 136 (.agg #[.bool false, .slice none 0 0, .slice none 0 0, .bool false, .slice none 0 0, .slice none 0 0, .slice none 0 0]) := ⟨tyI (by kernel_rfl)⟩
instance sh_36 : CSh Tryz.prog 36 true 7 := ⟨shp Tryz.underlying36 rfl ti_36.h⟩
instance fd_36_0 : CFd Tryz.prog 36 0 0 := ⟨fdA Tryz.underlying36 rfl rfl ti_34.h rfl⟩
instance fd_36_1 : CFd Tryz.prog 36 1 3 := ⟨fdA Tryz.underlying36 rfl rfl ti_34.h rfl⟩
instance fd_36_2 : CFd Tryz.prog 36 2 6 := ⟨fdA Tryz.underlying36 rfl rfl ti_26.h rfl⟩
instance ti_46 : CTy Tryz.prog 46 5 112 (.agg #[.string ⟨#[]⟩, .slice none 0 0, .slice none 0 0, .slice none 0 0, .slice none 0 0]) := ⟨tyI (by kernel_rfl)⟩
theorem zr_scheme_Scheme : Zr (L_scheme_Scheme (⟨[], [], [], [], []⟩ : M_scheme_Scheme)) [.string ⟨#[]⟩, .slice none 0 0, .slice none 0 0, .slice none 0 0, .slice none 0 0] := zr_agg (zrs_cons (c1 := [.string ⟨#[]⟩]) zr_str (zrs_cons (c1 := [.slice none 0 0]) (zr_sli (k := 3)) (zrs_cons (c1 := [.slice none 0 0]) (zr_sli (k := 1)) (zrs_cons (c1 := [.slice none 0 0]) (zr_sli (k := 3)) (zrs_cons (c1 := [.slice none 0 0]) (zr_sli (k := 3)) (zrs_nil))))))
instance : CZy Tryz.prog 46 (L_scheme_Scheme (⟨[], [], [], [], []⟩ : M_scheme_Scheme)) := ⟨_, _, _, ti_46.h, zr_scheme_Scheme⟩
instance ti_117 : CTy Tryz.prog 117 6 96 (.agg #[.string ⟨#[]⟩, .string ⟨#[]⟩, .string ⟨#[]⟩, .string ⟨#[]⟩, .string ⟨#[]⟩, .string ⟨#[]⟩]) := ⟨tyI (by kernel_rfl)⟩
theorem zr_A6_string : Zr (L_A6_string (⟨[], [], [], [], [], []⟩ : M_A6_string)) [.string ⟨#[]⟩, .string ⟨#[]⟩, .string ⟨#[]⟩, .string ⟨#[]⟩, .string ⟨#[]⟩, .string ⟨#[]⟩] := zr_agg (zrs_cons (c1 := [.string ⟨#[]⟩]) zr_str (zrs_cons (c1 := [.string ⟨#[]⟩]) zr_str (zrs_cons (c1 := [.string ⟨#[]⟩]) zr_str (zrs_cons (c1 := [.string ⟨#[]⟩]) zr_str (zrs_cons (c1 := [.string ⟨#[]⟩]) zr_str (zrs_cons (c1 := [.string ⟨#[]⟩]) zr_str (zrs_nil)))))))
instance : CZy Tryz.prog 117 (L_A6_string (⟨[], [], [], [], [], []⟩ : M_A6_string)) := ⟨_, _, _, ti_117.h, zr_A6_string⟩
instance : CUn Tryz.prog 117 (.array 6 9) := ⟨Tryz.underlying117⟩
instance sh_117 : CSh Tryz.prog 117 true 6 := ⟨shp Tryz.underlying117 rfl ti_117.h⟩
instance ti_59 : CTy Tryz.prog 59 4 32 (.agg #[.int .i64 0, .int .i64 0, .int .i64 0, .int .i64 0]) := ⟨tyI (by kernel_rfl)⟩
theorem zr_api_Fault : Zr (L_api_Fault (⟨0, 0, 0, 0⟩ : M_api_Fault)) [.int .i64 0, .int .i64 0, .int .i64 0, .int .i64 0] := zr_agg (zrs_cons (c1 := [.int .i64 0]) zr_i64 (zrs_cons (c1 := [.int .i64 0]) zr_i64 (zrs_cons (c1 := [.int .i64 0]) zr_i64 (zrs_cons (c1 := [.int .i64 0]) zr_i64 (zrs_nil)))))
instance : CZy Tryz.prog 59 (L_api_Fault (⟨0, 0, 0, 0⟩ : M_api_Fault)) := ⟨_, _, _, ti_59.h, zr_api_Fault⟩
instance pl_46 : CPl Tryz.prog 46 [(0, 1), (1, 1), (2, 1), (3, 1), (4, 1)] := ⟨⟨_, Tryz.underlying46, by kernel_rfl⟩⟩
instance pl_59 : CPl Tryz.prog 59 [(0, 1), (1, 1), (2, 1), (3, 1)] := ⟨⟨_, Tryz.underlying59, by kernel_rfl⟩⟩
instance sh_46 : CSh Tryz.prog 46 true 5 := ⟨shp Tryz.underlying46 rfl ti_46.h⟩
instance sh_59 : CSh Tryz.prog 59 true 4 := ⟨shp Tryz.underlying59 rfl ti_59.h⟩
instance ti_188 : CTy Tryz.prog 188 3 32 (.agg #[.string ⟨#[]⟩, .int .i64 0, .bool false]) := ⟨tyI (by kernel_rfl)⟩
instance pl_188 : CPl Tryz.prog 188 [(0, 1), (1, 1), (2, 1)] := ⟨⟨_, Tryz.underlying188, by kernel_rfl⟩⟩
theorem zr_scheme_reader : Zr (L_scheme_reader (⟨[], 0, false⟩ : M_scheme_reader)) [.string ⟨#[]⟩, .int .i64 0, .bool false] := zr_agg (zrs_cons (c1 := [.string ⟨#[]⟩]) zr_str (zrs_cons (c1 := [.int .i64 0]) zr_i64 (zrs_cons (c1 := [.bool false]) zr_bl (zrs_nil))))
instance ti_4 : CTy Tryz.prog 4 1 1 (.bool false) := ⟨tyI (by kernel_rfl)⟩
instance fd_188_2 : CFd Tryz.prog 188 2 2 := ⟨fdA Tryz.underlying188 rfl rfl ti_4.h rfl⟩
instance : CUn Tryz.prog 4 (.bool) := ⟨Tryz.underlying4⟩
instance sh_4 : CSh Tryz.prog 4 false 1 := ⟨shp Tryz.underlying4 rfl ti_4.h⟩
instance ti_3 : CTy Tryz.prog 3 1 8 (.int .i64 0) := ⟨tyI (by kernel_rfl)⟩
instance fd_188_1 : CFd Tryz.prog 188 1 1 := ⟨fdA Tryz.underlying188 rfl rfl ti_3.h rfl⟩
instance : CUn Tryz.prog 3 (.int .i64) := ⟨Tryz.underlying3⟩
instance sh_3 : CSh Tryz.prog 3 false 1 := ⟨shp Tryz.underlying3 rfl ti_3.h⟩
theorem fol : Tryz.prog.follows .mixedOrders = true := by kernel_rfl
instance fd_188_0 : CFd Tryz.prog 188 0 0 := ⟨fdA Tryz.underlying188 rfl rfl ti_9.h rfl⟩
instance fd_46_0 : CFd Tryz.prog 46 0 0 := ⟨fdA Tryz.underlying46 rfl rfl ti_9.h rfl⟩
instance ti_193 : CTy Tryz.prog 193 3 32 (.agg #[.int .i64 0, .string ⟨#[]⟩, .int .i64 0]) := ⟨tyI (by kernel_rfl)⟩
instance pl_193 : CPl Tryz.prog 193 [(0, 1), (1, 1), (2, 1)] := ⟨⟨_, Tryz.underlying193, by kernel_rfl⟩⟩
theorem zr_lex_Word : Zr (L_lex_Word (⟨0, [], 0⟩ : M_lex_Word)) [.int .i64 0, .string ⟨#[]⟩, .int .i64 0] := zr_agg (zrs_cons (c1 := [.int .i64 0]) zr_i64 (zrs_cons (c1 := [.string ⟨#[]⟩]) zr_str (zrs_cons (c1 := [.int .i64 0]) zr_i64 (zrs_nil))))
instance fd_193_1 : CFd Tryz.prog 193 1 1 := ⟨fdA Tryz.underlying193 rfl rfl ti_9.h rfl⟩
instance fd_193_0 : CFd Tryz.prog 193 0 0 := ⟨fdA Tryz.underlying193 rfl rfl ti_3.h rfl⟩
instance : CUn Tryz.prog 21 (.int .i32) := ⟨Tryz.underlying21⟩
instance : CUn Tryz.prog 5 (.int .u8) := ⟨Tryz.underlying5⟩
instance ti_54 : CTy Tryz.prog 54 3 56 (.agg #[.bool false, .slice none 0 0, .slice none 0 0]) := ⟨tyI (by kernel_rfl)⟩
theorem zr_whole_Whole : Zr (L_whole_Whole (⟨false, []⟩ : M_whole_Whole)) [.bool false, .slice none 0 0] := zr_agg (zrs_cons (c1 := [.bool false]) zr_bl (zrs_cons (c1 := [.slice none 0 0]) (zr_sli (k := 1)) (zrs_nil)))
theorem zr_frac_Frac : Zr (L_frac_Frac (⟨(⟨false, []⟩ : M_whole_Whole), []⟩ : M_frac_Frac)) [.bool false, .slice none 0 0, .slice none 0 0] := zr_agg (zrs_cons (c1 := [.bool false, .slice none 0 0]) zr_whole_Whole (zrs_cons (c1 := [.slice none 0 0]) (zr_sli (k := 1)) (zrs_nil)))
instance : CZy Tryz.prog 54 (L_frac_Frac (⟨(⟨false, []⟩ : M_whole_Whole), []⟩ : M_frac_Frac)) := ⟨_, _, _, ti_54.h, zr_frac_Frac⟩
instance ti_52 : CTy Tryz.prog 52 2 32 (.agg #[.bool false, .slice none 0 0]) := ⟨tyI (by kernel_rfl)⟩
instance : CZy Tryz.prog 52 (L_whole_Whole (⟨false, []⟩ : M_whole_Whole)) := ⟨_, _, _, ti_52.h, zr_whole_Whole⟩
instance : CUn Tryz.prog 139 (.int .u32) := ⟨Tryz.underlying139⟩
instance ti_139 : CTy Tryz.prog 139 1 4 (.int .u32 0) := ⟨tyI (by kernel_rfl)⟩
instance sh_139 : CSh Tryz.prog 139 false 1 := ⟨shp Tryz.underlying139 rfl ti_139.h⟩
instance : CUn Tryz.prog 97 (.int .u64) := ⟨Tryz.underlying97⟩
theorem eq_59_2 : EqF Tryz.prog 2 59 (fun x : M_api_Fault => .agg [i64 x.Kind, i64 x.Step, i64 x.Stage, i64 x.At]) eqb_api_Fault :=
  eqf_struct Tryz.underlying59 (by kernel_rfl) (eqfs_cons rfl rfl sh_3.h (fun _ => rfl) (fun _ => rfl) (eqf_comp (fun x : M_api_Fault => x.Kind) (eqf_i64 (n := 0) Tryz.underlying3)) (eqfs_cons rfl rfl sh_3.h (fun _ => rfl) (fun _ => rfl) (eqf_comp (fun x : M_api_Fault => x.Step) (eqf_i64 (n := 0) Tryz.underlying3)) (eqfs_cons rfl rfl sh_3.h (fun _ => rfl) (fun _ => rfl) (eqf_comp (fun x : M_api_Fault => x.Stage) (eqf_i64 (n := 0) Tryz.underlying3)) (eqfs_cons rfl rfl sh_3.h (fun _ => rfl) (fun _ => rfl) (eqf_comp (fun x : M_api_Fault => x.At) (eqf_i64 (n := 0) Tryz.underlying3)) (eqfs_nil)))))
theorem eg_59 : Tryz.prog.eqGuardType Tryz.prog.depth 59 = false := by kernel_rfl
instance fd_59_3 : CFd Tryz.prog 59 3 3 := ⟨fdA Tryz.underlying59 rfl rfl ti_3.h rfl⟩
instance pl_52 : CPl Tryz.prog 52 [(0, 1), (1, 1)] := ⟨⟨_, Tryz.underlying52, by kernel_rfl⟩⟩
instance sh_52 : CSh Tryz.prog 52 true 2 := ⟨shp Tryz.underlying52 rfl ti_52.h⟩
instance pl_54 : CPl Tryz.prog 54 [(0, 2), (2, 1)] := ⟨⟨_, Tryz.underlying54, by kernel_rfl⟩⟩
instance sh_54 : CSh Tryz.prog 54 true 3 := ⟨shp Tryz.underlying54 rfl ti_54.h⟩
instance fd_52_1 : CFd Tryz.prog 52 1 1 := ⟨fdA Tryz.underlying52 rfl rfl ti_32.h rfl⟩
instance fd_52_0 : CFd Tryz.prog 52 0 0 := ⟨fdA Tryz.underlying52 rfl rfl ti_4.h rfl⟩
instance : CUn Tryz.prog 210 (.slice 32) := ⟨Tryz.underlying210⟩
instance : CUn Tryz.prog 123 (.slice 9) := ⟨Tryz.underlying123⟩
instance : CUn Tryz.prog 43 (.slice 54) := ⟨Tryz.underlying43⟩
instance ti_43 : CTy Tryz.prog 43 1 24 (.slice none 0 0) := ⟨tyI (by kernel_rfl)⟩
instance fd_46_1 : CFd Tryz.prog 46 1 1 := ⟨fdA Tryz.underlying46 rfl rfl ti_43.h rfl⟩
instance sh_43 : CSh Tryz.prog 43 false 1 := ⟨shp Tryz.underlying43 rfl ti_43.h⟩
instance ti_44 : CTy Tryz.prog 44 1 24 (.slice none 0 0) := ⟨tyI (by kernel_rfl)⟩
instance fd_46_2 : CFd Tryz.prog 46 2 2 := ⟨fdA Tryz.underlying46 rfl rfl ti_44.h rfl⟩
instance : CUn Tryz.prog 44 (.slice 43) := ⟨Tryz.underlying44⟩
instance sh_44 : CSh Tryz.prog 44 false 1 := ⟨shp Tryz.underlying44 rfl ti_44.h⟩
instance fd_46_3 : CFd Tryz.prog 46 3 3 := ⟨fdA Tryz.underlying46 rfl rfl ti_43.h rfl⟩
instance fd_46_4 : CFd Tryz.prog 46 4 4 := ⟨fdA Tryz.underlying46 rfl rfl ti_43.h rfl⟩
instance fd_54_1 : CFd Tryz.prog 54 1 2 := ⟨fdA Tryz.underlying54 rfl rfl ti_32.h rfl⟩
instance fd_54_0 : CFd Tryz.prog 54 0 0 := ⟨fdA Tryz.underlying54 rfl rfl ti_52.h rfl⟩
instance ti_42 : CTy Tryz.prog 42 4 64 (.agg #[.slice none 0 0, .slice none 0 0, .int .i64 0, .int .i64 0]) := ⟨tyI (by kernel_rfl)⟩
theorem zr_tape_Tape : Zr (L_tape_Tape (⟨[], [], 0, 0⟩ : M_tape_Tape)) [.slice none 0 0, .slice none 0 0, .int .i64 0, .int .i64 0] := zr_agg (zrs_cons (c1 := [.slice none 0 0]) (zr_sli (k := 6)) (zrs_cons (c1 := [.slice none 0 0]) (zr_sli (k := 1)) (zrs_cons (c1 := [.int .i64 0]) zr_i64 (zrs_cons (c1 := [.int .i64 0]) zr_i64 (zrs_nil)))))
instance : CZy Tryz.prog 42 (L_tape_Tape (⟨[], [], 0, 0⟩ : M_tape_Tape)) := ⟨_, _, _, ti_42.h, zr_tape_Tape⟩
instance ti_108 : CTy Tryz.prog 108 6 80 (.agg #[.int .i64 0, .int .i64 0, .int .i64 0, .bool false, .slice none 0 0, .slice none 0 0]) := ⟨tyI (by kernel_rfl)⟩
instance pl_108 : CPl Tryz.prog 108 [(0, 1), (1, 1), (2, 1), (3, 3)] := ⟨⟨_, Tryz.underlying108, by kernel_rfl⟩⟩
theorem zr_tape_Inst : Zr (L_tape_Inst (⟨0, 0, 0, (⟨(⟨false, []⟩ : M_whole_Whole), []⟩ : M_frac_Frac)⟩ : M_tape_Inst)) [.int .i64 0, .int .i64 0, .int .i64 0, .bool false, .slice none 0 0, .slice none 0 0] := zr_agg (zrs_cons (c1 := [.int .i64 0]) zr_i64 (zrs_cons (c1 := [.int .i64 0]) zr_i64 (zrs_cons (c1 := [.int .i64 0]) zr_i64 (zrs_cons (c1 := [.bool false, .slice none 0 0, .slice none 0 0]) zr_frac_Frac (zrs_nil)))))
instance : CUn Tryz.prog 40 (.slice 108) := ⟨Tryz.underlying40⟩
instance pl_42 : CPl Tryz.prog 42 [(0, 1), (1, 1), (2, 1), (3, 1)] := ⟨⟨_, Tryz.underlying42, by kernel_rfl⟩⟩
instance sh_42 : CSh Tryz.prog 42 true 4 := ⟨shp Tryz.underlying42 rfl ti_42.h⟩
instance ti_48 : CTy Tryz.prog 48 11 208 (.agg #[.slice none 0 0, .slice none 0 0, .int .i64 0, .int .i64 0, .string ⟨#[]⟩, .slice none 0 0, .slice none 0 0, .slice none 0 0, .slice none 0 0, .slice none 0 0, .int .i64 0]) := ⟨tyI (by kernel_rfl)⟩
instance pl_48 : CPl Tryz.prog 48 [(0, 4), (4, 5), (9, 1), (10, 1)] := ⟨⟨_, Tryz.underlying48, by kernel_rfl⟩⟩
theorem zr_step_Problem : Zr (L_step_Problem (⟨(⟨[], [], 0, 0⟩ : M_tape_Tape), (⟨[], [], [], [], []⟩ : M_scheme_Scheme), [], 0⟩ : M_step_Problem)) [.slice none 0 0, .slice none 0 0, .int .i64 0, .int .i64 0, .string ⟨#[]⟩, .slice none 0 0, .slice none 0 0, .slice none 0 0, .slice none 0 0, .slice none 0 0, .int .i64 0] := zr_agg (zrs_cons (c1 := [.slice none 0 0, .slice none 0 0, .int .i64 0, .int .i64 0]) zr_tape_Tape (zrs_cons (c1 := [.string ⟨#[]⟩, .slice none 0 0, .slice none 0 0, .slice none 0 0, .slice none 0 0]) zr_scheme_Scheme (zrs_cons (c1 := [.slice none 0 0]) (zr_sli (k := 3)) (zrs_cons (c1 := [.int .i64 0]) zr_i64 (zrs_nil)))))
instance ti_57 : CTy Tryz.prog 57 4 96 (.agg #[.slice none 0 0, .slice none 0 0, .slice none 0 0, .slice none 0 0]) := ⟨tyI (by kernel_rfl)⟩
theorem zr_step_Made : Zr (L_step_Made (⟨[], [], [], []⟩ : M_step_Made)) [.slice none 0 0, .slice none 0 0, .slice none 0 0, .slice none 0 0] := zr_agg (zrs_cons (c1 := [.slice none 0 0]) (zr_sli (k := 1)) (zrs_cons (c1 := [.slice none 0 0]) (zr_sli (k := 1)) (zrs_cons (c1 := [.slice none 0 0]) (zr_sli (k := 3)) (zrs_cons (c1 := [.slice none 0 0]) (zr_sli (k := 3)) (zrs_nil)))))
instance : CZy Tryz.prog 57 (L_step_Made (⟨[], [], [], []⟩ : M_step_Made)) := ⟨_, _, _, ti_57.h, zr_step_Made⟩
instance sh_48 : CSh Tryz.prog 48 true 11 := ⟨shp Tryz.underlying48 rfl ti_48.h⟩
instance fd_48_0 : CFd Tryz.prog 48 0 0 := ⟨fdA Tryz.underlying48 rfl rfl ti_42.h rfl⟩
instance fd_42_2 : CFd Tryz.prog 42 2 2 := ⟨fdA Tryz.underlying42 rfl rfl ti_3.h rfl⟩
instance fd_42_3 : CFd Tryz.prog 42 3 3 := ⟨fdA Tryz.underlying42 rfl rfl ti_3.h rfl⟩
instance fd_42_1 : CFd Tryz.prog 42 1 1 := ⟨fdA Tryz.underlying42 rfl rfl ti_23.h rfl⟩
instance ti_40 : CTy Tryz.prog 40 1 24 (.slice none 0 0) := ⟨tyI (by kernel_rfl)⟩
instance fd_42_0 : CFd Tryz.prog 42 0 0 := ⟨fdA Tryz.underlying42 rfl rfl ti_40.h rfl⟩
instance sh_40 : CSh Tryz.prog 40 false 1 := ⟨shp Tryz.underlying40 rfl ti_40.h⟩
instance sh_108 : CSh Tryz.prog 108 true 6 := ⟨shp Tryz.underlying108 rfl ti_108.h⟩
instance : CZy Tryz.prog 108 (L_tape_Inst (⟨0, 0, 0, (⟨(⟨false, []⟩ : M_whole_Whole), []⟩ : M_frac_Frac)⟩ : M_tape_Inst)) := ⟨_, _, _, ti_108.h, zr_tape_Inst⟩
instance fd_108_0 : CFd Tryz.prog 108 0 0 := ⟨fdA Tryz.underlying108 rfl rfl ti_3.h rfl⟩
instance ti_241 : CTy Tryz.prog 241 3 24 (.agg #[.int .i64 0, .int .i64 0, .int .i64 0]) := ⟨tyI (by kernel_rfl)⟩
theorem zr_tape_numbers : Zr (L_tape_numbers (⟨0, 0, 0⟩ : M_tape_numbers)) [.int .i64 0, .int .i64 0, .int .i64 0] := zr_agg (zrs_cons (c1 := [.int .i64 0]) zr_i64 (zrs_cons (c1 := [.int .i64 0]) zr_i64 (zrs_cons (c1 := [.int .i64 0]) zr_i64 (zrs_nil))))
instance : CZy Tryz.prog 241 (L_tape_numbers (⟨0, 0, 0⟩ : M_tape_numbers)) := ⟨_, _, _, ti_241.h, zr_tape_numbers⟩
instance fd_108_1 : CFd Tryz.prog 108 1 1 := ⟨fdA Tryz.underlying108 rfl rfl ti_3.h rfl⟩
instance fd_108_2 : CFd Tryz.prog 108 2 2 := ⟨fdA Tryz.underlying108 rfl rfl ti_3.h rfl⟩
instance pl_241 : CPl Tryz.prog 241 [(0, 1), (1, 1), (2, 1)] := ⟨⟨_, Tryz.underlying241, by kernel_rfl⟩⟩
instance sh_241 : CSh Tryz.prog 241 true 3 := ⟨shp Tryz.underlying241 rfl ti_241.h⟩
theorem eq_241_2 : EqF Tryz.prog 2 241 (fun x : M_tape_numbers => .agg [i64 x.op, i64 x.a, i64 x.b]) eqb_tape_numbers :=
  eqf_struct Tryz.underlying241 (by kernel_rfl) (eqfs_cons rfl rfl sh_3.h (fun _ => rfl) (fun _ => rfl) (eqf_comp (fun x : M_tape_numbers => x.op) (eqf_i64 (n := 0) Tryz.underlying3)) (eqfs_cons rfl rfl sh_3.h (fun _ => rfl) (fun _ => rfl) (eqf_comp (fun x : M_tape_numbers => x.a) (eqf_i64 (n := 0) Tryz.underlying3)) (eqfs_cons rfl rfl sh_3.h (fun _ => rfl) (fun _ => rfl) (eqf_comp (fun x : M_tape_numbers => x.b) (eqf_i64 (n := 0) Tryz.underlying3)) (eqfs_nil))))
theorem eg_241 : Tryz.prog.eqGuardType Tryz.prog.depth 241 = false := by kernel_rfl
instance fd_108_3 : CFd Tryz.prog 108 3 3 := ⟨fdA Tryz.underlying108 rfl rfl ti_54.h rfl⟩
instance fd_48_1 : CFd Tryz.prog 48 1 4 := ⟨fdA Tryz.underlying48 rfl rfl ti_46.h rfl⟩
instance fd_48_2 : CFd Tryz.prog 48 2 9 := ⟨fdA Tryz.underlying48 rfl rfl ti_43.h rfl⟩
instance pl_57 : CPl Tryz.prog 57 [(0, 1), (1, 1), (2, 1), (3, 1)] := ⟨⟨_, Tryz.underlying57, by kernel_rfl⟩⟩
instance sh_57 : CSh Tryz.prog 57 true 4 := ⟨shp Tryz.underlying57 rfl ti_57.h⟩
instance fd_48_3 : CFd Tryz.prog 48 3 10 := ⟨fdA Tryz.underlying48 rfl rfl ti_3.h rfl⟩
instance ti_132 : CTy Tryz.prog 132 3 24 (.agg #[.int .i64 0, .int .i64 0, .int .i64 0]) := ⟨tyI (by kernel_rfl)⟩
instance pl_132 : CPl Tryz.prog 132 [(0, 2), (2, 1)] := ⟨⟨_, Tryz.underlying132, by kernel_rfl⟩⟩
theorem zr_gauge_Count : Zr (L_gauge_Count (⟨0, 0⟩ : M_gauge_Count)) [.int .i64 0, .int .i64 0] := zr_agg (zrs_cons (c1 := [.int .i64 0]) zr_i64 (zrs_cons (c1 := [.int .i64 0]) zr_i64 (zrs_nil)))
theorem zr_gauge_Gauge : Zr (L_gauge_Gauge (⟨(⟨0, 0⟩ : M_gauge_Count), 0⟩ : M_gauge_Gauge)) [.int .i64 0, .int .i64 0, .int .i64 0] := zr_agg (zrs_cons (c1 := [.int .i64 0, .int .i64 0]) zr_gauge_Count (zrs_cons (c1 := [.int .i64 0]) zr_i64 (zrs_nil)))
instance ti_93 : CTy Tryz.prog 93 23 448 (.agg #[.slice none 0 0, .slice none 0 0, .int .i64 0, .int .i64 0, .string ⟨#[]⟩, .slice none 0 0, .slice none 0 0, .slice none 0 0, .slice none 0 0, .slice none 0 0, .int .i64 0, .bool false, .slice none 0 0, .slice none 0 0, .bool false, .slice none 0 0, .slice none 0 0, .slice none 0 0, .pointer none, .slice none 0 0, .slice none 0 0, .slice none 0 0, .slice none 0 0]) := ⟨tyI (by kernel_rfl)⟩
instance pl_93 : CPl Tryz.prog 93 [(0, 11), (11, 3), (14, 3), (17, 1), (18, 1), (19, 4)] := ⟨⟨_, Tryz.underlying93, by kernel_rfl⟩⟩
instance fd_93_0 : CFd Tryz.prog 93 0 0 := ⟨fdA Tryz.underlying93 rfl rfl ti_48.h rfl⟩
instance fd_93_3 : CFd Tryz.prog 93 3 17 := ⟨fdA Tryz.underlying93 rfl rfl ti_43.h rfl⟩
instance fd_93_5 : CFd Tryz.prog 93 5 19 := ⟨fdA Tryz.underlying93 rfl rfl ti_57.h rfl⟩
instance fd_57_1 : CFd Tryz.prog 57 1 1 := ⟨fdA Tryz.underlying57 rfl rfl ti_44.h rfl⟩
instance fd_93_2 : CFd Tryz.prog 93 2 14 := ⟨fdA Tryz.underlying93 rfl rfl ti_54.h rfl⟩
instance ti_90 : CTy Tryz.prog 90 1 8 (.pointer none) := ⟨tyI (by kernel_rfl)⟩
instance fd_93_4 : CFd Tryz.prog 93 4 18 := ⟨fdA Tryz.underlying93 rfl rfl ti_90.h rfl⟩
instance sh_90 : CSh Tryz.prog 90 false 1 := ⟨shp Tryz.underlying90 rfl ti_90.h⟩
instance ti_130 : CTy Tryz.prog 130 2 16 (.agg #[.int .i64 0, .int .i64 0]) := ⟨tyI (by kernel_rfl)⟩
instance fd_132_0 : CFd Tryz.prog 132 0 0 := ⟨fdA Tryz.underlying132 rfl rfl ti_130.h rfl⟩
instance fd_130_0 : CFd Tryz.prog 130 0 0 := ⟨fdA Tryz.underlying130 rfl rfl ti_3.h rfl⟩
instance fd_130_1 : CFd Tryz.prog 130 1 1 := ⟨fdA Tryz.underlying130 rfl rfl ti_3.h rfl⟩
instance fd_132_1 : CFd Tryz.prog 132 1 2 := ⟨fdA Tryz.underlying132 rfl rfl ti_3.h rfl⟩
instance fd_93_1 : CFd Tryz.prog 93 1 11 := ⟨fdA Tryz.underlying93 rfl rfl ti_54.h rfl⟩
instance ti_105 : CTy Tryz.prog 105 5 104 (.agg #[.bool false, .slice none 0 0, .slice none 0 0, .slice none 0 0, .slice none 0 0]) := ⟨tyI (by kernel_rfl)⟩
theorem zr_eval_Point : Zr (L_eval_Point (⟨(⟨(⟨false, []⟩ : M_whole_Whole), []⟩ : M_frac_Frac), [], []⟩ : M_eval_Point)) [.bool false, .slice none 0 0, .slice none 0 0, .slice none 0 0, .slice none 0 0] := zr_agg (zrs_cons (c1 := [.bool false, .slice none 0 0, .slice none 0 0]) zr_frac_Frac (zrs_cons (c1 := [.slice none 0 0]) (zr_sli (k := 3)) (zrs_cons (c1 := [.slice none 0 0]) (zr_sli (k := 3)) (zrs_nil))))
instance : CZy Tryz.prog 105 (L_eval_Point (⟨(⟨(⟨false, []⟩ : M_whole_Whole), []⟩ : M_frac_Frac), [], []⟩ : M_eval_Point)) := ⟨_, _, _, ti_105.h, zr_eval_Point⟩
instance pl_105 : CPl Tryz.prog 105 [(0, 3), (3, 1), (4, 1)] := ⟨⟨_, Tryz.underlying105, by kernel_rfl⟩⟩
instance sh_105 : CSh Tryz.prog 105 true 5 := ⟨shp Tryz.underlying105 rfl ti_105.h⟩
instance fd_105_0 : CFd Tryz.prog 105 0 0 := ⟨fdA Tryz.underlying105 rfl rfl ti_54.h rfl⟩
instance fd_105_1 : CFd Tryz.prog 105 1 3 := ⟨fdA Tryz.underlying105 rfl rfl ti_43.h rfl⟩
instance fd_105_2 : CFd Tryz.prog 105 2 4 := ⟨fdA Tryz.underlying105 rfl rfl ti_43.h rfl⟩
instance ti_174 : CTy Tryz.prog 174 1 8 (.agg #[.pointer none]) := ⟨tyI (by kernel_rfl)⟩
instance pl_174 : CPl Tryz.prog 174 [(0, 1)] := ⟨⟨_, Tryz.underlying174, by kernel_rfl⟩⟩
instance ti_176 : CTy Tryz.prog 176 1 8 (.agg #[.pointer none]) := ⟨tyI (by kernel_rfl)⟩
instance pl_176 : CPl Tryz.prog 176 [(0, 1)] := ⟨⟨_, Tryz.underlying176, by kernel_rfl⟩⟩
instance sh_176 : CSh Tryz.prog 176 true 1 := ⟨shp Tryz.underlying176 rfl ti_176.h⟩
instance ti_178 : CTy Tryz.prog 178 5 104 (.agg #[.bool false, .slice none 0 0, .slice none 0 0, .slice none 0 0, .slice none 0 0]) := ⟨tyI (by kernel_rfl)⟩
instance pl_178 : CPl Tryz.prog 178 [(0, 3), (3, 1), (4, 1)] := ⟨⟨_, Tryz.underlying178, by kernel_rfl⟩⟩
theorem zr_run_Inputs_frac_Frac_ : Zr (L_run_Inputs_frac_Frac_ (⟨(⟨(⟨false, []⟩ : M_whole_Whole), []⟩ : M_frac_Frac), [], []⟩ : M_run_Inputs_frac_Frac_)) [.bool false, .slice none 0 0, .slice none 0 0, .slice none 0 0, .slice none 0 0] := zr_agg (zrs_cons (c1 := [.bool false, .slice none 0 0, .slice none 0 0]) zr_frac_Frac (zrs_cons (c1 := [.slice none 0 0]) (zr_sli (k := 3)) (zrs_cons (c1 := [.slice none 0 0]) (zr_sli (k := 3)) (zrs_nil))))
instance fd_178_1 : CFd Tryz.prog 178 1 3 := ⟨fdA Tryz.underlying178 rfl rfl ti_43.h rfl⟩
instance fd_178_2 : CFd Tryz.prog 178 2 4 := ⟨fdA Tryz.underlying178 rfl rfl ti_43.h rfl⟩
instance sh_178 : CSh Tryz.prog 178 true 5 := ⟨shp Tryz.underlying178 rfl ti_178.h⟩
instance fd_176_0 : CFd Tryz.prog 176 0 0 := ⟨fdA Tryz.underlying176 rfl rfl ti_174.h rfl⟩
instance sh_174 : CSh Tryz.prog 174 true 1 := ⟨shp Tryz.underlying174 rfl ti_174.h⟩
theorem me_174_Neg : MethF Tryz.prog 174 "Neg" 224 := ⟨by kernel_rfl, _, Tryz.underlying174⟩
theorem me_174_Pow : MethF Tryz.prog 174 "Pow" 226 := ⟨by kernel_rfl, _, Tryz.underlying174⟩
theorem me_174_Add : MethF Tryz.prog 174 "Add" 221 := ⟨by kernel_rfl, _, Tryz.underlying174⟩
theorem me_174_Sub : MethF Tryz.prog 174 "Sub" 228 := ⟨by kernel_rfl, _, Tryz.underlying174⟩
theorem me_174_Mul : MethF Tryz.prog 174 "Mul" 223 := ⟨by kernel_rfl, _, Tryz.underlying174⟩
theorem me_174_Quo : MethF Tryz.prog 174 "Quo" 227 := ⟨by kernel_rfl, _, Tryz.underlying174⟩
theorem me_174_Of : MethF Tryz.prog 174 "Of" 225 := ⟨by kernel_rfl, _, Tryz.underlying174⟩
instance fd_178_0 : CFd Tryz.prog 178 0 0 := ⟨fdA Tryz.underlying178 rfl rfl ti_54.h rfl⟩
theorem me_174_Fits : MethF Tryz.prog 174 "Fits" 222 := ⟨by kernel_rfl, _, Tryz.underlying174⟩
instance fd_174_0 : CFd Tryz.prog 174 0 0 := ⟨fdA Tryz.underlying174 rfl rfl ti_90.h rfl⟩
instance fd_59_2 : CFd Tryz.prog 59 2 2 := ⟨fdA Tryz.underlying59 rfl rfl ti_3.h rfl⟩
instance fd_57_0 : CFd Tryz.prog 57 0 0 := ⟨fdA Tryz.underlying57 rfl rfl ti_44.h rfl⟩
instance fd_57_2 : CFd Tryz.prog 57 2 2 := ⟨fdA Tryz.underlying57 rfl rfl ti_43.h rfl⟩
instance fd_57_3 : CFd Tryz.prog 57 3 3 := ⟨fdA Tryz.underlying57 rfl rfl ti_43.h rfl⟩
instance ti_229 : CTy Tryz.prog 229 9 9 (.agg #[.int .u8 0, .int .u8 0, .int .u8 0, .int .u8 0, .int .u8 0, .int .u8 0, .int .u8 0, .int .u8 0, .int .u8 0]) := ⟨tyI (by kernel_rfl)⟩
theorem zr_A9_u8 : Zr (L_A9_u8 (⟨0, 0, 0, 0, 0, 0, 0, 0, 0⟩ : M_A9_u8)) [.int .u8 0, .int .u8 0, .int .u8 0, .int .u8 0, .int .u8 0, .int .u8 0, .int .u8 0, .int .u8 0, .int .u8 0] := zr_agg (zrs_cons (c1 := [.int .u8 0]) zr_u8 (zrs_cons (c1 := [.int .u8 0]) zr_u8 (zrs_cons (c1 := [.int .u8 0]) zr_u8 (zrs_cons (c1 := [.int .u8 0]) zr_u8 (zrs_cons (c1 := [.int .u8 0]) zr_u8 (zrs_cons (c1 := [.int .u8 0]) zr_u8 (zrs_cons (c1 := [.int .u8 0]) zr_u8 (zrs_cons (c1 := [.int .u8 0]) zr_u8 (zrs_cons (c1 := [.int .u8 0]) zr_u8 (zrs_nil))))))))))
instance : CZy Tryz.prog 229 (L_A9_u8 (⟨0, 0, 0, 0, 0, 0, 0, 0, 0⟩ : M_A9_u8)) := ⟨_, _, _, ti_229.h, zr_A9_u8⟩
instance ti_5 : CTy Tryz.prog 5 1 1 (.int .u8 0) := ⟨tyI (by kernel_rfl)⟩
instance : CUn Tryz.prog 229 (.array 9 5) := ⟨Tryz.underlying229⟩
instance sh_5 : CSh Tryz.prog 5 false 1 := ⟨shp Tryz.underlying5 rfl ti_5.h⟩
theorem ofl_ok_A9_u8 : ∀ l : List Nat, l.length = 9 → (.agg (l.map u8) : Ly) = L_A9_u8 (ofl_A9_u8 l)
  | [a0, a1, a2, a3, a4, a5, a6, a7, a8], _ => rfl
  | [], h => by simp at h
  | [_], h => by simp at h
  | [_, _], h => by simp at h
  | [_, _, _], h => by simp at h
  | [_, _, _, _], h => by simp at h
  | [_, _, _, _, _], h => by simp at h
  | [_, _, _, _, _, _], h => by simp at h
  | [_, _, _, _, _, _, _], h => by simp at h
  | [_, _, _, _, _, _, _, _], h => by simp at h
  | _ :: _ :: _ :: _ :: _ :: _ :: _ :: _ :: _ :: _ :: _, h => by simp at h
instance : CUn Tryz.prog 155 (.slice 5) := ⟨Tryz.underlying155⟩
instance ti_157 : CTy Tryz.prog 157 2 32 (.agg #[.pointer none, .slice none 0 0]) := ⟨tyI (by kernel_rfl)⟩
instance : CZy Tryz.prog 48 (L_step_Problem (⟨(⟨[], [], 0, 0⟩ : M_tape_Tape), (⟨[], [], [], [], []⟩ : M_scheme_Scheme), [], 0⟩ : M_step_Problem)) := ⟨_, _, _, ti_48.h, zr_step_Problem⟩
instance fd_25_2 : CFd Tryz.prog 25 2 2 := ⟨fdA Tryz.underlying25 rfl rfl ti_3.h rfl⟩
instance fd_25_3 : CFd Tryz.prog 25 3 3 := ⟨fdA Tryz.underlying25 rfl rfl ti_3.h rfl⟩
instance sh_116 : CSh Tryz.prog 116 true 6 := ⟨shp Tryz.underlying116 rfl ti_116.h⟩
theorem zr_retrospectref09_Frac : Zr (L_retrospectref09_Frac (⟨false, [], []⟩ : M_retrospectref09_Frac)) [.bool false, .slice none 0 0, .slice none 0 0] := zr_agg (zrs_cons (c1 := [.bool false]) zr_bl (zrs_cons (c1 := [.slice none 0 0]) (zr_sli (k := 1)) (zrs_cons (c1 := [.slice none 0 0]) (zr_sli (k := 1)) (zrs_nil))))
theorem zr_retrospectref24_Inst : Zr (L_retrospectref24_Inst (⟨0, 0, 0, (⟨false, [], []⟩ : M_retrospectref09_Frac)⟩ : M_retrospectref24_Inst)) [.int .i64 0, .int .i64 0, .int .i64 0, .bool false, .slice none 0 0, .slice none 0 0] := zr_agg (zrs_cons (c1 := [.int .i64 0]) zr_i64 (zrs_cons (c1 := [.int .i64 0]) zr_i64 (zrs_cons (c1 := [.int .i64 0]) zr_i64 (zrs_cons (c1 := [.bool false, .slice none 0 0, .slice none 0 0]) zr_retrospectref09_Frac (zrs_nil)))))
instance : CZy Tryz.prog 116 (L_retrospectref24_Inst (⟨0, 0, 0, (⟨false, [], []⟩ : M_retrospectref09_Frac)⟩ : M_retrospectref24_Inst)) := ⟨_, _, _, ti_116.h, zr_retrospectref24_Inst⟩
instance fd_116_0 : CFd Tryz.prog 116 0 0 := ⟨fdA Tryz.underlying116 rfl rfl ti_3.h rfl⟩
instance fd_116_1 : CFd Tryz.prog 116 1 1 := ⟨fdA Tryz.underlying116 rfl rfl ti_3.h rfl⟩
instance fd_116_2 : CFd Tryz.prog 116 2 2 := ⟨fdA Tryz.underlying116 rfl rfl ti_3.h rfl⟩
instance fd_34_0 : CFd Tryz.prog 34 0 0 := ⟨fdA Tryz.underlying34 rfl rfl ti_4.h rfl⟩
instance fd_31_3 : CFd Tryz.prog 31 3 10 := ⟨fdA Tryz.underlying31 rfl rfl ti_3.h rfl⟩
instance ti_72 : CTy Tryz.prog 72 5 104 (.agg #[.slice none 0 0, .bool false, .slice none 0 0, .slice none 0 0, .slice none 0 0]) := ⟨tyI (by kernel_rfl)⟩
theorem zr_past_History : Zr (L_past_History (⟨[], (⟨(⟨false, []⟩ : M_whole_Whole), []⟩ : M_frac_Frac), []⟩ : M_past_History)) [.slice none 0 0, .bool false, .slice none 0 0, .slice none 0 0, .slice none 0 0] := zr_agg (zrs_cons (c1 := [.slice none 0 0]) (zr_sli (k := 14)) (zrs_cons (c1 := [.bool false, .slice none 0 0, .slice none 0 0]) zr_frac_Frac (zrs_cons (c1 := [.slice none 0 0]) (zr_sli (k := 3)) (zrs_nil))))
instance : CZy Tryz.prog 72 (L_past_History (⟨[], (⟨(⟨false, []⟩ : M_whole_Whole), []⟩ : M_frac_Frac), []⟩ : M_past_History)) := ⟨_, _, _, ti_72.h, zr_past_History⟩
instance pl_72 : CPl Tryz.prog 72 [(0, 1), (1, 3), (4, 1)] := ⟨⟨_, Tryz.underlying72, by kernel_rfl⟩⟩
instance sh_72 : CSh Tryz.prog 72 true 5 := ⟨shp Tryz.underlying72 rfl ti_72.h⟩
instance fd_72_1 : CFd Tryz.prog 72 1 1 := ⟨fdA Tryz.underlying72 rfl rfl ti_54.h rfl⟩
instance fd_72_2 : CFd Tryz.prog 72 2 4 := ⟨fdA Tryz.underlying72 rfl rfl ti_43.h rfl⟩
instance fd_59_1 : CFd Tryz.prog 59 1 1 := ⟨fdA Tryz.underlying59 rfl rfl ti_3.h rfl⟩
instance ti_70 : CTy Tryz.prog 70 1 24 (.slice none 0 0) := ⟨tyI (by kernel_rfl)⟩
instance fd_72_0 : CFd Tryz.prog 72 0 0 := ⟨fdA Tryz.underlying72 rfl rfl ti_70.h rfl⟩
instance : CUn Tryz.prog 70 (.slice 112) := ⟨Tryz.underlying70⟩
instance sh_70 : CSh Tryz.prog 70 false 1 := ⟨shp Tryz.underlying70 rfl ti_70.h⟩
instance ti_112 : CTy Tryz.prog 112 14 256 (.agg #[.bool false, .slice none 0 0, .slice none 0 0, .bool false, .slice none 0 0, .slice none 0 0, .bool false, .slice none 0 0, .slice none 0 0, .bool false, .slice none 0 0, .slice none 0 0, .slice none 0 0, .bool false]) := ⟨tyI (by kernel_rfl)⟩
instance pl_112 : CPl Tryz.prog 112 [(0, 3), (3, 3), (6, 3), (9, 3), (12, 1), (13, 1)] := ⟨⟨_, Tryz.underlying112, by kernel_rfl⟩⟩
theorem zr_past_Try : Zr (L_past_Try (⟨(⟨(⟨false, []⟩ : M_whole_Whole), []⟩ : M_frac_Frac), (⟨(⟨false, []⟩ : M_whole_Whole), []⟩ : M_frac_Frac), (⟨(⟨false, []⟩ : M_whole_Whole), []⟩ : M_frac_Frac), (⟨(⟨false, []⟩ : M_whole_Whole), []⟩ : M_frac_Frac), [], false⟩ : M_past_Try)) [.bool false, .slice none 0 0, .slice none 0 0, .bool false, .slice none 0 0, .slice none 0 0, .bool false, .slice none 0 0, .slice none 0 0, .bool false, .slice none 0 0, .slice none 0 0, .slice none 0 0, .bool false] := zr_agg (zrs_cons (c1 := [.bool false, .slice none 0 0, .slice none 0 0]) zr_frac_Frac (zrs_cons (c1 := [.bool false, .slice none 0 0, .slice none 0 0]) zr_frac_Frac (zrs_cons (c1 := [.bool false, .slice none 0 0, .slice none 0 0]) zr_frac_Frac (zrs_cons (c1 := [.bool false, .slice none 0 0, .slice none 0 0]) zr_frac_Frac (zrs_cons (c1 := [.slice none 0 0]) (zr_sli (k := 3)) (zrs_cons (c1 := [.bool false]) zr_bl (zrs_nil)))))))
instance fd_59_0 : CFd Tryz.prog 59 0 0 := ⟨fdA Tryz.underlying59 rfl rfl ti_3.h rfl⟩
theorem c_retrospectref09_Long {x0} {x1} : ∀ r, m_retrospectref09_Long x0 x1 = some r → FnOk Tryz.prog 23 [L_retrospectref09_Frac x0, i64 x1] [] (bl r) [] := by
 unfold m_retrospectref09_Long
 refine fs Tryz.func23 fun w S0 γ hγ => ?_
 refine z [2] ?_
 refine o (bx' 100) ?_
 refine z [31, 1] ?_
 refine sjq (fun s3 => [(4, bl s3)]) (fun s3 => []) ?_ ?_
 · intro j1 hj2
   refine z [6, 33, 36, 39, 30, 47, 30] ?_
   refine sifd 10 rfl ?_ ?_
   · refine z [23, 23, 23, 23, 23, 38, 31, 1] ?_
     exact sj (hj2 _) (eR [])
   refine z [22, 22, 22, 22, 22, 37, 31, 1] ?_
   exact sj (hj2 _) (eR [])
 intro s3
 refine z [8] ?_
 exact rt []
theorem c_retrospectref24_Long {n : Nat} {x0} {x1} {x2} : ∀ r, m_retrospectref24_Long n x0 x1 x2 = some r → FnOk Tryz.prog 21 [L_retrospectref24_Tape x0, i64 x1, i64 x2] [] (bl r) [] := by
 unfold m_retrospectref24_Long
 refine fs Tryz.func21 fun w S0 γ hγ => ?_
 refine z [2] ?_
 refine o (bx' 100) ?_
 refine z [31, 1, 5, 2, 31, 1, 7] ?_
 refine sloopE 0 Lp.go (fun s19 => [(1, i64 x1), (2, i64 x2), (3, .own 100), (6, bl false), (7, i64 s19)]) (fun s19 => [(100, .bx 25 (L_retrospectref24_Tape x0))]) (fun t17 => [(1, i64 x1), (3, .own 100), (6, bl false)]) (fun t17 => [(100, .bx 25 (L_retrospectref24_Tape x0))]) (eR [(100, 100)]) ?_ ?_
 · intro hj18 s19
   refine z [5] ?_
   refine sjq (fun s22 => [(1, i64 x1), (2, i64 x2), (3, .own 100), (6, bl false), (7, i64 s19), (17, bl s22)]) (fun s22 => [(100, .bx 25 (L_retrospectref24_Tape x0))]) ?_ ?_
   · intro j20 hj21
     refine z [6, 30, 33, 36, 39, 46, 30] ?_
     refine sifd 13 rfl ?_ ?_
     · refine z [22, 22, 22, 38, 1] ?_
       exact sj (hj21 _) (eR [(100, 100)])
     refine z [23, 23, 23, 37, 1] ?_
     exact sj (hj21 _) (eR [(100, 100)])
   intro s22
   refine c ?_ ?_
   · refine z [9, 4, 5, 7, 2, 33, 36, 30] ?_
     refine b fun y23 h24 => ?_
     refine z [43, 92, 42, 30] ?_
     refine cb (ca c_retrospectref09_Long) fun r25 => ?_
     refine z [1] ?_
     refine c ?_ ?_
     · refine z [2, 31, 1, 8, 12, 10] ?_
       refine sU ?_
       refine z [12, 10] ?_
       exact rt []
     refine z [9, 11, 4, 6, 30, 40, 31, 3] ?_
     exact sgo (eR [(100, 100)])
   refine z [14, 15] ?_
   exact su (sj (hj18 _) (eR [(100, 100)]))
 intro t17
 refine slpk ?_
 refine z [13, 4] ?_
 refine sjq (fun s29 => [(6, bl s29)]) (fun s29 => []) ?_ ?_
 · intro j27 hj28
   refine z [6, 33, 36, 39, 30, 47, 30] ?_
   refine sifd 33 rfl ?_ ?_
   · refine z [23, 23, 23, 23, 23, 38, 31, 1] ?_
     exact sj (hj28 _) (eR [])
   refine z [22, 22, 22, 22, 22, 37, 31, 1] ?_
   exact sj (hj28 _) (eR [])
 intro s29
 refine z [8] ?_
 exact rt []
theorem c_retrospectref11_Long {n : Nat} {x0} {x1} {x2} : ∀ r, m_retrospectref11_Long n x0 x1 x2 = some r → FnOk Tryz.prog 17 [sli 3 (List.map L_retrospectref09_Frac x0), i64 x1, i64 x2] [] (bl r) [] := by
 unfold m_retrospectref11_Long
 refine fs Tryz.func17 fun w S0 γ hγ => ?_
 refine z [2, 31, 1, 5, 2, 31, 1, 7] ?_
 refine sloopE 0 Lp.go (fun s19 => [(0, sli 3 (List.map L_retrospectref09_Frac x0)), (1, i64 x1), (2, i64 x2), (6, bl false), (7, i64 s19)]) (fun s19 => []) (fun t17 => [(0, sli 3 (List.map L_retrospectref09_Frac x0)), (1, i64 x1), (6, bl false)]) (fun t17 => []) eI ?_ ?_
 · intro hj18 s19
   refine z [5] ?_
   refine sjq (fun s22 => [(0, sli 3 (List.map L_retrospectref09_Frac x0)), (1, i64 x1), (2, i64 x2), (6, bl false), (7, i64 s19), (16, bl s22)]) (fun s22 => []) ?_ ?_
   · intro j20 hj21
     refine z [6, 30, 30, 39, 46, 30] ?_
     refine sifd 12 rfl ?_ ?_
     · refine z [22, 22, 22, 38, 1] ?_
       exact sj (hj21 _) eI
     refine z [23, 23, 23, 37, 1] ?_
     exact sj (hj21 _) eI
   intro s22
   refine c ?_ ?_
   · refine z [9, 4, 5, 7, 2, 30, 30] ?_
     refine b fun y23 h24 => ?_
     refine z [43, 42, 30] ?_
     refine cb (ca c_retrospectref09_Long) fun r25 => ?_
     refine z [1] ?_
     refine c ?_ ?_
     · refine z [2, 31, 1, 8, 12, 10] ?_
       refine sU ?_
       refine z [12, 10] ?_
       exact rt []
     refine z [9, 11, 4, 6, 30, 40, 31, 3] ?_
     exact sgo eI
   refine z [14, 15] ?_
   exact su (sj (hj18 _) eI)
 intro t17
 refine slpk ?_
 refine z [13, 4, 2, 30, 39, 30, 47, 31, 1, 8] ?_
 exact rt []
theorem c_retrospectref30_Long {n : Nat} {x0} {x1} {x2} : ∀ r, m_retrospectref30_Long n x0 x1 x2 = some r → FnOk Tryz.prog 22 [L_retrospectref30_Scheme x0, i64 x1, i64 x2] [] (bl r) [] := by
 unfold m_retrospectref30_Long
 refine fs Tryz.func22 fun w S0 γ hγ => ?_
 refine z [2] ?_
 refine o (bx' 100) ?_
 refine z [31, 1, 5] ?_
 refine sjq (fun s9 => [(1, i64 x1), (2, i64 x2), (3, .own 100), (6, bl false), (39, bl s9)]) (fun s9 => [(100, .bx 29 (L_retrospectref30_Scheme x0))]) ?_ ?_
 · intro j7 hj8
   refine z [6, 33, 36, 54, 47, 30] ?_
   refine sifd 12 rfl ?_ ?_
   · refine z [23, 23, 23, 23, 23, 38, 30, 23, 23, 23, 23, 23, 38, 30, 23, 23, 23, 23, 23, 38, 30, 23, 23, 23, 23, 23, 38, 1] ?_
     exact sj (hj8 _) (eR [(100, 100)])
   refine z [22, 22, 22, 22, 22, 37, 30] ?_
   refine sifd 19 rfl ?_ ?_
   · refine z [23, 23, 23, 23, 23, 38, 30, 23, 23, 23, 23, 23, 38, 30, 23, 23, 23, 23, 23, 38, 1] ?_
     exact sj (hj8 _) (eR [(100, 100)])
   refine z [22, 22, 22, 22] ?_
   refine b fun r10 h11 => ?_
   refine og' (c0 (c_retrospectref11_Long _ h11)) ?_
   refine z [37, 30] ?_
   refine sifd 26 rfl ?_ ?_
   · refine z [23, 23, 23, 23, 23, 38, 30, 23, 23, 23, 23, 23, 38, 1] ?_
     exact sj (hj8 _) (eR [(100, 100)])
   refine z [22, 22, 22, 22] ?_
   refine b fun r12 h13 => ?_
   refine og' (c0 (c_retrospectref11_Long _ h13)) ?_
   refine z [37, 30] ?_
   refine sifd 33 rfl ?_ ?_
   · refine z [23, 23, 23, 23, 23, 38, 1] ?_
     exact sj (hj8 _) (eR [(100, 100)])
   refine z [22, 22, 22, 22] ?_
   refine b fun r14 h15 => ?_
   refine og' (c0 (c_retrospectref11_Long _ h15)) ?_
   refine z [37, 1] ?_
   exact sj (hj8 _) (eR [(100, 100)])
 intro s9
 refine c ?_ ?_
 · refine z [2, 31, 1, 8, 10] ?_
   exact rt []
 refine z [9, 4, 5, 2, 31, 1, 7] ?_
 refine sloopE 0 Lp.go (fun s28 => [(1, i64 x1), (2, i64 x2), (3, .own 100), (6, bl false), (7, i64 s28)]) (fun s28 => [(100, .bx 29 (L_retrospectref30_Scheme x0))]) (fun t26 => [(6, bl false)]) (fun t26 => []) (eR [(100, 100)]) ?_ ?_
 · intro hj27 s28
   refine z [5, 2, 30, 33, 36, 39, 46, 1] ?_
   refine c ?_ ?_
   · refine z [9, 4, 5, 7, 2, 33, 36, 30] ?_
     refine b fun y29 h30 => ?_
     refine z [43, 42, 30, 30] ?_
     refine cb (ca c_retrospectref11_Long) fun r31 => ?_
     refine z [1] ?_
     refine c ?_ ?_
     · refine z [2, 31, 1, 8, 12, 10] ?_
       refine sU ?_
       refine z [12, 10] ?_
       exact rt []
     refine z [9, 11, 4, 6, 30, 40, 31, 3] ?_
     exact sgo (eR [(100, 100)])
   refine z [14, 15] ?_
   exact su (sj (hj27 _) (eR []))
 intro t26
 refine slpk ?_
 refine z [13, 4, 2, 31, 1, 8] ?_
 exact rt []
theorem c_retrospectref33_Long {n : Nat} {x0} {x1} {x2} {x3} : ∀ r, m_retrospectref33_Long n x0 x1 x2 x3 = some r → FnOk Tryz.prog 5 [L_retrospectref33_Problem x0, i64 x1, i64 x2, i64 x3] [] (bl r) [] := by
 unfold m_retrospectref33_Long
 refine fs Tryz.func5 fun w S0 γ hγ => ?_
 refine z [2] ?_
 refine o (bx' 100) ?_
 refine z [31, 1] ?_
 refine sjq (fun s9 => [(8, bl s9)]) (fun s9 => []) ?_ ?_
 · intro j7 hj8
   refine z [6, 33, 36, 30, 30] ?_
   refine cb (ca c_retrospectref24_Long) fun r10 => ?_
   refine z [30] ?_
   refine sifd 14 rfl ?_ ?_
   · refine z [23, 23, 23, 23, 38, 30, 23, 23, 23, 23, 38, 31, 1] ?_
     exact sj (hj8 _) (eR [])
   refine z [22, 22, 22] ?_
   refine b fun r12 h13 => ?_
   refine og' (c0 (c_retrospectref30_Long _ h13)) ?_
   refine z [37, 30] ?_
   refine sifd 20 rfl ?_ ?_
   · refine z [23, 23, 23, 23, 38, 31, 1] ?_
     exact sj (hj8 _) (eR [])
   refine z [22, 22, 22] ?_
   refine b fun r14 h15 => ?_
   refine og' (c0 (c_retrospectref11_Long _ h15)) ?_
   refine z [37, 31, 1] ?_
   exact sj (hj8 _) (eR [])
 intro s9
 refine z [8] ?_
 exact rt []
theorem c_retrospectlaw33_Long {n : Nat} {x0} : ∀ r, m_retrospectlaw33_Long n x0 = some r → FnOk Tryz.prog 6 [L_retrospectlaw33_From x0] [] (bl r) [] := by
 unfold m_retrospectlaw33_Long
 refine fs Tryz.func6 fun w S0 γ hγ => ?_
 refine z [2] ?_
 refine o (bx' 100) ?_
 refine z [31, 1] ?_
 refine sjq (fun s9 => [(2, bl s9)]) (fun s9 => []) ?_ ?_
 · intro j7 hj8
   refine z [6, 33, 36] ?_
   refine cb (ca c_retrospectref09_Long) fun r10 => ?_
   refine z [30] ?_
   refine sifd 6 rfl ?_ ?_
   · refine z [23, 23, 23, 38, 30, 23, 23, 23, 38, 31, 1] ?_
     exact sj (hj8 _) (eR [])
   refine z [22, 22] ?_
   refine b fun r12 h13 => ?_
   refine og' (c0 (c_retrospectref09_Long _ h13)) ?_
   refine z [37, 30] ?_
   refine sifd 11 rfl ?_ ?_
   · refine z [23, 23, 23, 38, 31, 1] ?_
     exact sj (hj8 _) (eR [])
   refine z [22, 22] ?_
   refine b fun r14 h15 => ?_
   refine og' (c0 (c_retrospectref11_Long _ h15)) ?_
   refine z [37, 31, 1] ?_
   exact sj (hj8 _) (eR [])
 intro s9
 refine z [8] ?_
 exact rt []
theorem c_stock_texts  : ∀ r, m_stock_texts  = some r → FnOk Tryz.prog 46 [] [] (L_A6_string r) [] := by
 unfold m_stock_texts
 refine fs Tryz.func46 fun w S0 γ hγ => ?_
 refine z [2] ?_
 refine o (al' 100) ?_
 refine z [1, 2] ?_
 refine s1 (bldA (l := [str ([101, 117, 108, 101, 114, 10, 48, 124, 10, 98, 32, 49] : List UInt8), str ([104, 101, 117, 110, 10, 48, 124, 10, 49, 124, 49, 10, 98, 32, 49, 47, 50, 44, 49, 47, 50, 10, 101, 32, 49, 44, 48] : List UInt8), str ([109, 105, 100, 112, 111, 105, 110, 116, 10, 48, 124, 10, 49, 47, 50, 124, 49, 47, 50, 10, 98, 32, 48, 44, 49, 10, 101, 32, 49, 44, 48] : List UInt8), str ([114, 107, 52, 10, 48, 124, 10, 49, 47, 50, 124, 49, 47, 50, 10, 49, 47, 50, 124, 48, 44, 49, 47, 50, 10, 49, 124, 48, 44, 48, 44, 49, 10, 98, 32, 49, 47, 54, 44, 49, 47, 51, 44, 49, 47, 51, 44, 49, 47, 54] : List UInt8), str ([98, 115, 50, 51, 10, 48, 124, 10, 49, 47, 50, 124, 49, 47, 50, 10, 51, 47, 52, 124, 48, 44, 51, 47, 52, 10, 49, 124, 50, 47, 57, 44, 49, 47, 51, 44, 52, 47, 57, 10, 98, 32, 50, 47, 57, 44, 49, 47, 51, 44, 52, 47, 57, 44, 48, 10, 101, 32, 55, 47, 50, 52, 44, 49, 47, 52, 44, 49, 47, 51, 44, 49, 47, 56] : List UInt8), str ([100, 112, 52, 53, 10, 48, 124, 10, 49, 47, 53, 124, 49, 47, 53, 10, 51, 47, 49, 48, 124, 51, 47, 52, 48, 44, 57, 47, 52, 48, 10, 52, 47, 53, 124, 52, 52, 47, 52, 53, 44, 45, 53, 54, 47, 49, 53, 44, 51, 50, 47, 57, 10, 56, 47, 57, 124, 49, 57, 51, 55, 50, 47, 54, 53, 54, 49, 44, 45, 50, 53, 51, 54, 48, 47, 50, 49, 56, 55, 44, 54, 52, 52, 52, 56, 47, 54, 53, 54, 49, 44, 45, 50, 49, 50, 47, 55, 50, 57, 10, 49, 124, 57, 48, 49, 55, 47, 51, 49, 54, 56, 44, 45, 51, 53, 53, 47, 51, 51, 44, 52, 54, 55, 51, 50, 47, 53, 50, 52, 55, 44, 52, 57, 47, 49, 55, 54, 44, 45, 53, 49, 48, 51, 47, 49, 56, 54, 53, 54, 10, 49, 124, 51, 53, 47, 51, 56, 52, 44, 48, 44, 53, 48, 48, 47, 49, 49, 49, 51, 44, 49, 50, 53, 47, 49, 57, 50, 44, 45, 50, 49, 56, 55, 47, 54, 55, 56, 52, 44, 49, 49, 47, 56, 52, 10, 98, 32, 51, 53, 47, 51, 56, 52, 44, 48, 44, 53, 48, 48, 47, 49, 49, 49, 51, 44, 49, 50, 53, 47, 49, 57, 50, 44, 45, 50, 49, 56, 55, 47, 54, 55, 56, 52, 44, 49, 49, 47, 56, 52, 44, 48, 10, 101, 32, 53, 49, 55, 57, 47, 53, 55, 54, 48, 48, 44, 48, 44, 55, 53, 55, 49, 47, 49, 54, 54, 57, 53, 44, 51, 57, 51, 47, 54, 52, 48, 44, 45, 57, 50, 48, 57, 55, 47, 51, 51, 57, 50, 48, 48, 44, 49, 56, 55, 47, 50, 49, 48, 48, 44, 49, 47, 52, 48] : List UInt8)]) Tryz.underlying117 ti_117.h ti_9.h zr_A6_string rfl ⟨_, _, _, (kS (s := [101, 117, 108, 101, 114, 10, 48, 124, 10, 98, 32, 49]) rfl), rfl, rfl, rfl, rfl, rfl, ⟨_, _, _, (kS (s := [104, 101, 117, 110, 10, 48, 124, 10, 49, 124, 49, 10, 98, 32, 49, 47, 50, 44, 49, 47, 50, 10, 101, 32, 49, 44, 48]) rfl), rfl, rfl, rfl, rfl, rfl, ⟨_, _, _, (kS (s := [109, 105, 100, 112, 111, 105, 110, 116, 10, 48, 124, 10, 49, 47, 50, 124, 49, 47, 50, 10, 98, 32, 48, 44, 49, 10, 101, 32, 49, 44, 48]) rfl), rfl, rfl, rfl, rfl, rfl, ⟨_, _, _, (kS (s := [114, 107, 52, 10, 48, 124, 10, 49, 47, 50, 124, 49, 47, 50, 10, 49, 47, 50, 124, 48, 44, 49, 47, 50, 10, 49, 124, 48, 44, 48, 44, 49, 10, 98, 32, 49, 47, 54, 44, 49, 47, 51, 44, 49, 47, 51, 44, 49, 47, 54]) rfl), rfl, rfl, rfl, rfl, rfl, ⟨_, _, _, (kS (s := [98, 115, 50, 51, 10, 48, 124, 10, 49, 47, 50, 124, 49, 47, 50, 10, 51, 47, 52, 124, 48, 44, 51, 47, 52, 10, 49, 124, 50, 47, 57, 44, 49, 47, 51, 44, 52, 47, 57, 10, 98, 32, 50, 47, 57, 44, 49, 47, 51, 44, 52, 47, 57, 44, 48, 10, 101, 32, 55, 47, 50, 52, 44, 49, 47, 52, 44, 49, 47, 51, 44, 49, 47, 56]) rfl), rfl, rfl, rfl, rfl, rfl, ⟨_, _, _, (kS (s := [100, 112, 52, 53, 10, 48, 124, 10, 49, 47, 53, 124, 49, 47, 53, 10, 51, 47, 49, 48, 124, 51, 47, 52, 48, 44, 57, 47, 52, 48, 10, 52, 47, 53, 124, 52, 52, 47, 52, 53, 44, 45, 53, 54, 47, 49, 53, 44, 51, 50, 47, 57, 10, 56, 47, 57, 124, 49, 57, 51, 55, 50, 47, 54, 53, 54, 49, 44, 45, 50, 53, 51, 54, 48, 47, 50, 49, 56, 55, 44, 54, 52, 52, 52, 56, 47, 54, 53, 54, 49, 44, 45, 50, 49, 50, 47, 55, 50, 57, 10, 49, 124, 57, 48, 49, 55, 47, 51, 49, 54, 56, 44, 45, 51, 53, 53, 47, 51, 51, 44, 52, 54, 55, 51, 50, 47, 53, 50, 52, 55, 44, 52, 57, 47, 49, 55, 54, 44, 45, 53, 49, 48, 51, 47, 49, 56, 54, 53, 54, 10, 49, 124, 51, 53, 47, 51, 56, 52, 44, 48, 44, 53, 48, 48, 47, 49, 49, 49, 51, 44, 49, 50, 53, 47, 49, 57, 50, 44, 45, 50, 49, 56, 55, 47, 54, 55, 56, 52, 44, 49, 49, 47, 56, 52, 10, 98, 32, 51, 53, 47, 51, 56, 52, 44, 48, 44, 53, 48, 48, 47, 49, 49, 49, 51, 44, 49, 50, 53, 47, 49, 57, 50, 44, 45, 50, 49, 56, 55, 47, 54, 55, 56, 52, 44, 49, 49, 47, 56, 52, 44, 48, 10, 101, 32, 53, 49, 55, 57, 47, 53, 55, 54, 48, 48, 44, 48, 44, 55, 53, 55, 49, 47, 49, 54, 54, 57, 53, 44, 51, 57, 51, 47, 54, 52, 48, 44, 45, 57, 50, 48, 57, 55, 47, 51, 51, 57, 50, 48, 48, 44, 49, 56, 55, 47, 50, 49, 48, 48, 44, 49, 47, 52, 48]) rfl), rfl, rfl, rfl, rfl, rfl, rfl⟩⟩⟩⟩⟩⟩ rfl) ?_
 refine z [34, 1, 8] ?_
 exact rt []
theorem c_stock_name {x0} : ∀ r, m_stock_name x0 = some r → FnOk Tryz.prog 47 [str x0] [] (str r) [] := by
 unfold m_stock_name
 refine fs Tryz.func47 fun w S0 γ hγ => ?_
 refine z [2, 31, 1, 2, 30] ?_
 refine cb (ca c_strings_Cut) fun r1 => ?_
 refine z [30, 35, 35, 35, 31, 31, 31, 1, 2, 30, 31, 1, 8] ?_
 exact rt []
theorem c___scheme_reader__line {x0} : ∀ r, m___scheme_reader__line x0 = some r → FnOk Tryz.prog 97 [.own 0] [(0, .bx 188 (L_scheme_reader x0))] (.tup [str r.1, i64 r.2.1, bl r.2.2.1]) [(0, .bx 188 (L_scheme_reader r.2.2.2))] := by
 unfold m___scheme_reader__line
 refine fs Tryz.func97 fun w S0 γ hγ => ?_
 refine z [2, 31, 31, 31, 1, 5, 2, 30, 48, 33, 36, 1] ?_
 refine c ?_ ?_
 · refine z [5] ?_
   refine sd ?_
   refine zd [[], [0], [0], [0], [], [], []] ?_
   refine de fol ?_
   refine z [4, 8, 10] ?_
   exact rt [(0, 0)]
 refine z [9, 4, 2, 30, 48, 33, 36, 31, 1, 2, 30, 48, 33, 36] ?_
 refine cb (ca c_strings_Cut) fun r1 => ?_
 refine z [30, 35, 35, 35, 31, 31, 31, 1, 2, 30, 30, 30, 30, 44, 48, 33] ?_
 refine o (stP (L_scheme_reader (⟨r1.2.1, x0.at_, x0.over⟩ : M_scheme_reader)) [0]) ?_
 refine z [48, 33] ?_
 refine o (stP (L_scheme_reader (⟨r1.2.1, x0.at_, !r1.2.2⟩ : M_scheme_reader)) [2]) ?_
 refine z [1, 2, 30, 48, 33, 36, 30, 54, 40, 48, 33] ?_
 refine o (stP (L_scheme_reader (⟨r1.2.1, wrap64 (x0.at_ + (r1.1.length : Int)), !r1.2.2⟩ : M_scheme_reader)) [1]) ?_
 refine z [1] ?_
 refine sjq (fun s5 => [(2, str ([] : List UInt8)), (3, i64 (0 : Int)), (4, bl false), (5, i64 x0.at_), (6, str r1.1)]) (fun s5 => [(0, .bx 188 (L_scheme_reader s5))]) ?_ ?_
 · intro j3 hj4
   refine z [2, 30, 1] ?_
   refine c ?_ ?_
   · refine z [6, 30, 48, 33, 36, 40, 48, 33] ?_
     refine o (stP (L_scheme_reader (⟨r1.2.1, wrap64 ((wrap64 (x0.at_ + (r1.1.length : Int))) + (1 : Int)), !r1.2.2⟩ : M_scheme_reader)) [1]) ?_
     refine z [1] ?_
     exact sj (hj4 _) (eR [(0, 0)])
   refine z [9, 4] ?_
   exact sj (hj4 _) (eR [(0, 0)])
 intro s5
 refine z [2, 30, 30, 31, 31, 31, 1, 8] ?_
 exact rt [(0, 0)]
theorem c_lex_digit {x0} : ∀ r, m_lex_digit x0 = some r → FnOk Tryz.prog 162 [u8 x0] [] (bl r) [] := by
 unfold m_lex_digit
 refine fs Tryz.func162 fun w S0 γ hγ => ?_
 refine z [2, 31, 1] ?_
 refine sjq (fun s3 => [(2, bl s3)]) (fun s3 => []) ?_ ?_
 · intro j1 hj2
   refine z [6, 30, 71, 30] ?_
   refine sifd 5 rfl ?_ ?_
   · refine z [22, 22, 38, 31, 1] ?_
     exact sj (hj2 _) eI
   refine z [23, 23, 37, 31, 1] ?_
   exact sj (hj2 _) eI
 intro s3
 refine z [8] ?_
 exact rt []
theorem c_lex_letter {x0} : ∀ r, m_lex_letter x0 = some r → FnOk Tryz.prog 163 [u8 x0] [] (bl r) [] := by
 unfold m_lex_letter
 refine fs Tryz.func163 fun w S0 γ hγ => ?_
 refine z [2, 31, 1] ?_
 refine sjq (fun s3 => [(2, bl s3)]) (fun s3 => []) ?_ ?_
 · intro j1 hj2
   refine z [6, 30, 71, 30] ?_
   refine sifd 5 rfl ?_ ?_
   · refine z [22, 22, 38, 30] ?_
     refine sifd 9 rfl ?_ ?_
     · refine z [23, 23, 23, 24, 24, 23, 38, 30, 23, 23, 38, 31, 1] ?_
       exact sj (hj2 _) eI
     refine z [22, 22, 22] ?_
     refine sifd 12 rfl ?_ ?_
     · refine z [22, 22, 22, 37, 30] ?_
       refine sifd 17 rfl ?_ ?_
       · refine z [23, 23, 38, 31, 1] ?_
         exact sj (hj2 _) eI
       refine z [22, 22, 37, 31, 1] ?_
       exact sj (hj2 _) eI
     refine z [23, 23, 22, 37, 30, 22, 22, 37, 31, 1] ?_
     exact sj (hj2 _) eI
   refine z [23, 23, 37, 30, 22, 22, 22] ?_
   refine sifd 12 rfl ?_ ?_
   · refine z [22, 22, 22, 37, 30] ?_
     refine sifd 17 rfl ?_ ?_
     · refine z [23, 23, 38, 31, 1] ?_
       exact sj (hj2 _) eI
     refine z [22, 22, 37, 31, 1] ?_
     exact sj (hj2 _) eI
   refine z [23, 23, 22, 37, 30, 22, 22, 37, 31, 1] ?_
   exact sj (hj2 _) eI
 intro s3
 refine z [8] ?_
 exact rt []
theorem c_lex_sign {n : Nat} {x0} : ∀ r, m_lex_sign n x0 = some r → FnOk Tryz.prog 164 [u8 x0] [] (bl r) [] := by
 unfold m_lex_sign
 refine fs Tryz.func164 fun w S0 γ hγ => ?_
 refine z [2, 31, 1, 5, 2] ?_
 refine so (rngS (y := 100) Tryz.underlying9 (kS (s := [43, 45, 42, 47, 94, 40, 41, 91, 93, 44, 59, 61]) rfl) rfl rfl) ?_
 refine z [1, 7] ?_
 refine sloopE 0 Lp.go (fun s9 => [(0, u8 x0), (2, bl false), (5, .own 100)]) (fun s9 => [(100, .ob (sIt ([43, 45, 42, 47, 94, 40, 41, 91, 93, 44, 59, 61] : List UInt8) s9))]) (fun t7 => [(2, bl false)]) (fun t7 => []) (eR [(100, 100)]) ?_ ?_
 · intro hj8 s9
   refine z [2] ?_
   refine sif (fun hb10 => ?_) (fun hb10 => ?_)
   · refine so (nxtT hb10 rfl rfl rfl rfl) ?_
     refine z [35, 1, 5] ?_
     refine scT rfl ?_
     refine z [9, 4, 7, 2, 35] ?_
     refine sbn (F := i32) 8 rfl fun z11 => ?_
     refine z [31, 1, 2, 30, 83, 30, 66, 1] ?_
     refine c ?_ ?_
     · refine z [2, 31, 1, 8, 12] ?_
       refine sU ?_
       refine z [12, 10] ?_
       exact rt []
     refine z [9, 11] ?_
     exact sgo (eR [(100, 100)])
   · refine s1 (nxtF hb10 rfl rfl rfl) ?_
     refine z [35, 1, 5] ?_
     refine scF rfl ?_
     refine z [14, 15] ?_
     exact su (sj (hj8 _) (eR []))
 intro t7
 refine slpk ?_
 refine z [13, 4, 2, 31, 1, 8] ?_
 exact rt []
theorem c_lex_kind {n : Nat} {x0} : ∀ r, m_lex_kind n x0 = some r → FnOk Tryz.prog 127 [u8 x0] [] (i64 r) [] := by
 unfold m_lex_kind
 refine fs Tryz.func127 fun w S0 γ hγ => ?_
 refine z [2, 31, 1, 5, 7, 2, 30] ?_
 refine cb (ca c_lex_digit) fun r1 => ?_
 refine z [31, 1] ?_
 refine c ?_ ?_
 · refine z [2, 31, 1, 8, 12, 10] ?_
   exact rt []
 refine z [2, 30] ?_
 refine cb (ca c_lex_letter) fun r3 => ?_
 refine z [31, 1] ?_
 refine c ?_ ?_
 · refine z [2, 31, 1, 8, 12, 10] ?_
   exact rt []
 refine z [2, 30] ?_
 refine cb (ca c_lex_sign) fun r5 => ?_
 refine z [31, 1] ?_
 refine c ?_ ?_
 · refine z [2, 31, 1, 8, 12, 10] ?_
   exact rt []
 refine z [9, 11, 4, 2, 31, 1, 8] ?_
 exact rt []
theorem c_lex_goes {x0} {x1} : ∀ r, m_lex_goes x0 x1 = some r → FnOk Tryz.prog 165 [i64 x0, u8 x1] [] (bl r) [] := by
 unfold m_lex_goes
 refine fs Tryz.func165 fun w S0 γ hγ => ?_
 refine z [2, 31, 1] ?_
 refine sjq (fun s13 => [(4, bl s13)]) (fun s13 => []) ?_ ?_
 · intro j11 hj12
   refine z [6, 30, 41, 30] ?_
   refine sifd 7 rfl ?_ ?_
   · refine z [22] ?_
     refine b fun r14 h15 => ?_
     refine og' (c0 (c_lex_digit _ h15)) ?_
     refine z [38, 30] ?_
     refine sifd 11 rfl ?_ ?_
     · refine z [23, 23, 23, 24, 24, 24, 24, 24, 24, 23, 38, 31, 1] ?_
       exact sj (hj12 _) eI
     refine z [22, 22, 22] ?_
     refine sifd 14 rfl ?_ ?_
     · refine z [22] ?_
       refine b fun r16 h17 => ?_
       refine og' (c0 (c_lex_letter _ h17)) ?_
       refine z [22] ?_
       refine sifd 17 rfl ?_ ?_
       · refine z [23, 23, 22, 22, 37, 31, 1] ?_
         exact sj (hj12 _) eI
       refine z [22] ?_
       refine b fun r18 h19 => ?_
       refine og' (c0 (c_lex_digit _ h19)) ?_
       refine z [22, 22, 37, 31, 1] ?_
       exact sj (hj12 _) eI
     refine z [23, 23, 23, 24, 24, 23, 22, 37, 31, 1] ?_
     exact sj (hj12 _) eI
   refine z [23, 23, 37, 30, 22, 22, 22] ?_
   refine sifd 14 rfl ?_ ?_
   · refine z [22] ?_
     refine b fun r20 h21 => ?_
     refine og' (c0 (c_lex_letter _ h21)) ?_
     refine z [22] ?_
     refine sifd 17 rfl ?_ ?_
     · refine z [23, 23, 22, 22, 37, 31, 1] ?_
       exact sj (hj12 _) eI
     refine z [22] ?_
     refine b fun r22 h23 => ?_
     refine og' (c0 (c_lex_digit _ h23)) ?_
     refine z [22, 22, 37, 31, 1] ?_
     exact sj (hj12 _) eI
   refine z [23, 23, 23, 24, 24, 23, 22, 37, 31, 1] ?_
   exact sj (hj12 _) eI
 intro s13
 refine z [8] ?_
 exact rt []
theorem c_lex_first {n : Nat} {x0} {x1} : ∀ r, m_lex_first n x0 x1 = some r → FnOk Tryz.prog 128 [str x0, i64 x1] [] (i64 r) [] := by
 unfold m_lex_first
 refine fs Tryz.func128 fun w S0 γ hγ => ?_
 refine z [2, 31, 1, 2, 31, 1, 5, 7] ?_
 refine sloopE 0 (fun t => t) (fun s27 => [(0, str x0), (1, i64 x1), (4, i64 (0 : Int)), (5, i64 s27)]) (fun s27 => []) (fun t25 => [(4, i64 (0 : Int)), (5, i64 t25)]) (fun t25 => []) eI ?_ ?_
 · intro hj26 s27
   refine z [5] ?_
   refine sjq (fun s34 => [(0, str x0), (1, i64 x1), (4, i64 (0 : Int)), (5, i64 s27), (16, bl s34)]) (fun s34 => []) ?_ ?_
   · intro j32 hj33
     refine z [6, 30, 30, 54, 46, 30] ?_
     refine sifd 10 rfl ?_ ?_
     · refine z [22, 22, 22] ?_
       refine b fun y35 h36 => ?_
       refine z [22] ?_
       refine b fun r37 h38 => ?_
       refine og' (c0 (c_lex_goes _ h38)) ?_
       refine z [38, 1] ?_
       exact sj (hj33 _) eI
     refine z [23, 23, 23, 23, 23, 37, 1] ?_
     exact sj (hj33 _) eI
   intro s34
   refine c ?_ ?_
   · refine z [9, 4, 7, 6, 30, 40, 31, 3, 11] ?_
     exact sgo eI
   refine z [14, 15] ?_
   exact su (sj (hj26 _) eI)
 intro t25
 refine z [13, 4, 2, 30, 31, 1, 8] ?_
 exact rt []
theorem c_lex_most {x0} : ∀ r, m_lex_most x0 = some r → FnOk Tryz.prog 129 [i64 x0] [] (i64 r) [] := by
 unfold m_lex_most
 refine fs Tryz.func129 fun w S0 γ hγ => ?_
 refine z [2, 31, 1, 5, 2, 30, 1, 7, 2, 41, 31, 1] ?_
 refine c ?_ ?_
 · refine z [2, 31, 1, 8, 12, 10] ?_
   exact rt []
 refine z [2, 41, 31, 1] ?_
 refine c ?_ ?_
 · refine z [2, 31, 1, 8, 12, 10] ?_
   exact rt []
 refine z [9, 11, 4, 2, 31, 1, 8] ?_
 exact rt []
theorem c_lex_Right {n : Nat} {x0} : ∀ r, m_lex_Right n x0 = some r → FnOk Tryz.prog 98 [L_lex_Word x0] [] (bl r) [] := by
 unfold m_lex_Right
 refine fs Tryz.func98 fun w S0 γ hγ => ?_
 refine z [2] ?_
 refine o (bx' 100) ?_
 refine z [31, 1, 5] ?_
 refine sjq (fun s9 => [(1, .own 100), (2, bl false), (19, bl s9)]) (fun s9 => [(100, .bx 193 (L_lex_Word x0))]) ?_ ?_
 · intro j7 hj8
   refine sif (fun hb10 => ?_) (fun hb10 => ?_)
   · refine sd ?_
     refine zd [[100], [100], []] ?_
     refine dd [] (fun _ _ _ _ => obk hb10 ops) ?_
     refine zd [[], [], [], [], [], [], [], [], [], [], [], [], []] ?_
     refine de fol ?_
     refine z [4] ?_
     exact sj (hj8 _) (eR [(100, 100)])
   refine sif (fun hb11 => ?_) (fun hb11 => ?_)
   · refine sd ?_
     refine zd [[100], [100], []] ?_
     refine dd [] (fun _ _ _ _ => obk hb10 ops) ?_
     refine zd [[100], [100], [], []] ?_
     refine dd [] (fun _ _ _ _ => obk hb11 ops) ?_
     refine zd [[], [], [], [], [], [], [], []] ?_
     refine de fol ?_
     refine z [4] ?_
     exact sj (hj8 _) (eR [(100, 100)])
   refine b fun y12 h13 => ?_
   refine b fun r14 h15 => ?_
   refine sd ?_
   refine zd [[100], [100], []] ?_
   refine dd [] (fun _ _ _ _ => obk hb10 ops) ?_
   refine zd [[100], [100], [], []] ?_
   refine dd [] (fun _ _ _ _ => obk hb11 ops) ?_
   refine zd [[100], [100], []] ?_
   refine dG [] (fun _ _ _ _ => c0 (c_lex_kind _ h15)) ?_
   refine zd [[100], [100], [], []] ?_
   refine de fol ?_
   refine z [4] ?_
   exact sj (hj8 _) (eR [(100, 100)])
 intro s9
 refine c ?_ ?_
 · refine z [2, 31, 1, 8, 10] ?_
   exact rt []
 refine z [9, 4] ?_
 refine sjq (fun s23 => [(2, bl s23)]) (fun s23 => []) ?_ ?_
 · intro j21 hj22
   refine b fun r24 h25 => ?_
   refine sif (fun hb26 => ?_) (fun hb26 => ?_)
   · refine b fun r27 h28 => ?_
     refine sd ?_
     refine zd [[100], [100], [100], [100]] ?_
     refine dd [] (fun _ _ _ _ => c0 (c_lex_first _ h25)) ?_
     refine zd [[100], [100], [], []] ?_
     refine dd [] (fun _ _ _ _ => obk hb26 ops) ?_
     refine zd [[100], [100], [], [100], [100]] ?_
     refine dG [] (fun _ _ _ _ => c0 (c_lex_most _ h28)) ?_
     refine zd [[], [], []] ?_
     refine de fol ?_
     refine z [4] ?_
     exact sj (hj22 _) (eR [])
   refine sd ?_
   refine zd [[100], [100], [100], [100]] ?_
   refine dd [] (fun _ _ _ _ => c0 (c_lex_first _ h25)) ?_
   refine zd [[100], [100], [], []] ?_
   refine dd [] (fun _ _ _ _ => obk hb26 ops) ?_
   refine zd [[], [], [], [], [], [], [], [], []] ?_
   refine de fol ?_
   refine z [4] ?_
   exact sj (hj22 _) (eR [])
 intro s23
 refine z [8] ?_
 exact rt []
theorem c___scheme_reader__back {x0} {x1} {x2} : ∀ r, m___scheme_reader__back x0 x1 x2 = some r → FnOk Tryz.prog 131 [.own 0, str x1, i64 x2] [(0, .bx 188 (L_scheme_reader x0))] (.tup []) [(0, .bx 188 (L_scheme_reader r))] := by
 unfold m___scheme_reader__back
 refine fs Tryz.func131 fun w S0 γ hγ => ?_
 refine z [6, 30, 30, 30, 30, 30] ?_
 refine b fun y1 h2 => ?_
 refine s1 (slS h2 Tryz.underlying9 rfl rfl (bnd rfl) bnd0) ?_
 refine z [30, 48, 33] ?_
 refine o (stP (L_scheme_reader (⟨y1, x0.at_, x0.over⟩ : M_scheme_reader)) [0]) ?_
 refine z [48, 33] ?_
 refine o (stP (L_scheme_reader (⟨y1, x2, x0.over⟩ : M_scheme_reader)) [1]) ?_
 refine z [48, 33] ?_
 refine o (stP (L_scheme_reader (⟨y1, x2, false⟩ : M_scheme_reader)) [2]) ?_
 refine z [3] ?_
 exact rt [(0, 0)]
theorem c_internal_stringslite_HasPrefix {x0} {x1} : ∀ r, m_internal_stringslite_HasPrefix x0 x1 = some r → FnOk Tryz.prog 185 [str x0, str x1] [] (bl r) [] := by
 unfold m_internal_stringslite_HasPrefix
 refine fs Tryz.func185 fun w S0 γ hγ => ?_
 refine z [2, 31, 1] ?_
 refine sjq (fun s5 => [(4, bl s5)]) (fun s5 => []) ?_ ?_
 · intro j3 hj4
   refine z [6, 30, 54, 30, 54, 57, 30] ?_
   refine sifd 10 rfl ?_ ?_
   · refine z [22, 22, 22] ?_
     refine b fun y6 h7 => ?_
     refine sg 10 rfl rfl (slS h7 Tryz.underlying9 rfl rfl bnd0 (bnd rfl)) ?_
     refine z [22, 22, 38, 31, 1] ?_
     exact sj (hj4 _) eI
   refine z [23, 23, 23, 23, 23, 23, 37, 31, 1] ?_
   exact sj (hj4 _) eI
 intro s5
 refine z [8] ?_
 exact rt []
theorem c_internal_stringslite_CutPrefix {x0} {x1} : ∀ r, m_internal_stringslite_CutPrefix x0 x1 = some r → FnOk Tryz.prog 168 [str x0, str x1] [] (.tup [str r.1, bl r.2]) [] := by
 unfold m_internal_stringslite_CutPrefix
 refine fs Tryz.func168 fun w S0 γ hγ => ?_
 refine z [2, 31, 31, 1, 5, 2, 30, 30] ?_
 refine cb (ca c_internal_stringslite_HasPrefix) fun r1 => ?_
 refine z [44, 1] ?_
 refine c ?_ ?_
 · refine z [2, 30, 31, 31, 1, 8, 10] ?_
   exact rt []
 refine z [9, 4, 2, 30, 30, 54] ?_
 refine b fun y3 h4 => ?_
 refine s1 (slS h4 Tryz.underlying9 rfl rfl (bnd rfl) bnd0) ?_
 refine z [31, 31, 1, 8] ?_
 exact rt []
theorem c_strings_CutPrefix {x0} {x1} : ∀ r, m_strings_CutPrefix x0 x1 = some r → FnOk Tryz.prog 133 [str x0, str x1] [] (.tup [str r.1, bl r.2]) [] := by
 unfold m_strings_CutPrefix
 refine fs Tryz.func133 fun w S0 γ hγ => ?_
 refine z [2, 31, 31, 1, 2, 30, 30] ?_
 refine cb (ca c_internal_stringslite_CutPrefix) fun r1 => ?_
 refine z [35, 35, 31, 31, 1, 8] ?_
 exact rt []
theorem c_digits_wrong {n : Nat} {x0} : ∀ r, m_digits_wrong n x0 = some r → FnOk Tryz.prog 197 [str x0] [] (i64 r) [] := by
 unfold m_digits_wrong
 refine fs Tryz.func197 fun w S0 γ hγ => ?_
 refine z [2, 31, 1, 5, 2, 30, 54, 30, 1, 7] ?_
 refine sloopE 0 Lp.go (fun s27 => [(0, str x0), (2, i64 (0 : Int)), (5, i64 (x0.length : Int)), (6, i64 s27)]) (fun s27 => []) (fun t25 => [(0, str x0), (2, i64 (0 : Int))]) (fun t25 => []) eI ?_ ?_
 · intro hj26 s27
   refine z [2, 46, 1, 5] ?_
   refine c ?_ ?_
   · refine z [9, 4, 5, 7, 2, 30, 31, 1] ?_
     refine sjq (fun s34 => [(0, str x0), (2, i64 (0 : Int)), (3, i64 s27), (5, i64 (x0.length : Int)), (6, i64 s27), (22, bl s34)]) (fun s34 => []) ?_ ?_
     · intro j32 hj33
       refine z [6, 30, 30] ?_
       refine b fun y35 h36 => ?_
       refine z [90, 68, 30] ?_
       refine sifd 13 rfl ?_ ?_
       · refine z [23, 23, 23, 23, 38, 30, 23, 23, 38, 1] ?_
         exact sj (hj33 _) eI
       refine z [22, 22] ?_
       refine b fun y37 h38 => ?_
       refine z [22, 22, 37, 30] ?_
       refine sifd 19 rfl ?_ ?_
       · refine z [23, 23, 38, 1] ?_
         exact sj (hj33 _) eI
       refine z [22, 22, 37, 1] ?_
       exact sj (hj33 _) eI
     intro s34
     refine c ?_ ?_
     · refine z [2, 30, 31, 1, 8, 12, 10] ?_
       refine sU ?_
       refine z [12, 10] ?_
       exact rt []
     refine z [9, 11, 4, 6, 40, 30, 3] ?_
     exact sgo eI
   refine z [14, 15] ?_
   exact su (sj (hj26 _) eI)
 intro t25
 refine slpk ?_
 refine z [13, 4, 5, 2, 30, 72, 1] ?_
 refine c ?_ ?_
 · refine z [2, 31, 1, 8, 10] ?_
   exact rt []
 refine z [9, 4, 2, 31, 1, 8] ?_
 exact rt []
theorem c_limb_Mul {x0} {x1} {x2} {x3} : ∀ r, m_limb_Mul x0 x1 x2 x3 = some r → FnOk Tryz.prog 123 [u32 x0, u32 x1, u32 x2, u32 x3] [] (.tup [u32 r.1, u32 r.2]) [] := by
 unfold m_limb_Mul
 refine fs Tryz.func123 fun w S0 γ hγ => ?_
 refine z [2, 31, 31, 1, 2, 30, 59, 30, 59, 63, 30, 59, 61, 30, 59, 61] ?_
 refine sbn (F := u64) 21 rfl fun z1 => ?_
 refine z [31, 1, 2, 30] ?_
 refine s1 (shrU uk64 rfl rfl rfl (k64 (x := 32) rfl)) ?_
 refine z [60, 30, 60, 31, 31, 1, 8] ?_
 exact rt []
theorem c_prod_row {x0} {x1} {x2} {x3} {x4} : ∀ r, m_prod_row x0 x1 x2 x3 x4 = some r → FnOk Tryz.prog 93 [.own 0, i64 x1, sli 1 (List.map u32 x2), u32 x3, u32 x4] [(0, .sl 139 1 (List.map u32 x0))] (.tup []) [(0, .sl 139 1 (List.map u32 r))] := by
 unfold m_prod_row
 refine fs Tryz.func93 fun w S0 γ hγ => ?_
 refine z [5, 2, 30, 39, 30, 1, 7] ?_
 refine srN (fun s22 => [(0, .own 0), (1, i64 x1), (2, sli 1 (List.map u32 x2)), (3, u32 x3), (4, u32 s22.2), (12, sli 1 (List.map u32 x2))]) (fun s22 => [(0, .sl 139 1 (List.map u32 s22.1))]) (rE (eR [(0, 0)])) ?_ ?_
 · intro i23 x24 s22 hx25
   refine z [7, 2, 30, 43, 42, 31, 31, 1, 6, 30, 30, 30, 40, 30, 30, 30, 30, 30, 40] ?_
   refine b fun y26 h27 => ?_
   refine z [50, 51, 30] ?_
   refine cb (ca c_limb_Mul) fun r28 => ?_
   refine z [30, 35, 35, 31] ?_
   refine b fun y30 h31 => ?_
   refine z [50, 53, 3, 11] ?_
   exact sgo (eR [(0, 0)])
 intro s32
 refine z [13, 4, 6, 30, 30, 30, 39, 40, 30] ?_
 refine b fun y33 h34 => ?_
 refine z [50, 53, 3] ?_
 exact rt [(0, 0)]
theorem c_nat_trim {n : Nat} {x0} : ∀ r, m_nat_trim n x0 = some r → FnOk Tryz.prog 61 [sli 1 (List.map u32 x0)] [] (sli 1 (List.map u32 r)) [] := by
 unfold m_nat_trim
 refine fs Tryz.func61 fun w S0 γ hγ => ?_
 refine z [2] ?_
 refine s1 (asg rfl (kLm (k := 1) u32)) ?_
 refine z [1, 2, 30, 39, 31, 1, 5, 7] ?_
 refine sloopE 0 (fun t => t) (fun s19 => [(0, sli 1 (List.map u32 x0)), (2, sli 1 (List.map u32 ([] : List Nat))), (3, i64 s19)]) (fun s19 => []) (fun t17 => [(0, sli 1 (List.map u32 x0)), (2, sli 1 (List.map u32 ([] : List Nat))), (3, i64 t17)]) (fun t17 => []) eI ?_ ?_
 · intro hj18 s19
   refine z [5] ?_
   refine sjq (fun s24 => [(0, sli 1 (List.map u32 x0)), (2, sli 1 (List.map u32 ([] : List Nat))), (3, i64 s19), (15, bl s24)]) (fun s24 => []) ?_ ?_
   · intro j22 hj23
     refine z [6, 30, 47, 30] ?_
     refine sifd 8 rfl ?_ ?_
     · refine z [22, 22, 22] ?_
       refine b fun y25 h26 => ?_
       refine z [22, 22, 22, 38, 1] ?_
       exact sj (hj23 _) eI
     refine z [23, 23, 23, 23, 23, 23, 37, 1] ?_
     exact sj (hj23 _) eI
   intro s24
   refine c ?_ ?_
   · refine z [9, 4, 7, 6, 30, 49, 31, 3, 11] ?_
     exact sgo eI
   refine z [14, 15] ?_
   exact su (sj (hj18 _) eI)
 intro t17
 refine z [13, 4, 2, 30, 30] ?_
 refine b fun y27 h28 => ?_
 refine s1 (slR (f := u32) h28 Tryz.underlying32 ti_139.h rfl rfl bnd0 (bnd rfl)) ?_
 refine z [31, 1, 8] ?_
 exact rt []
theorem c_nat_fresh {x0} {x1} : ∀ r, m_nat_fresh x0 x1 = some r → FnOk Tryz.prog 124 [sli 1 (List.map u32 x0), i64 x1] [] (.own 50) [(50, .sl 139 1 (List.map u32 r))] := by
 unfold m_nat_fresh
 refine fs Tryz.func124 fun w S0 γ hγ => ?_
 refine z [2] ?_
 refine s1 (asg rfl (kLm (k := 1) u32)) ?_
 refine z [1, 2, 30, 39, 30, 40] ?_
 refine b fun y1 h2 => ?_
 refine so (mks (y := 100) (f := u32) h2 Tryz.underlying32 ti_139.h zr_u32 rfl rfl rfl rfl rfl rfl) ?_
 refine z [31, 1, 2, 30, 30] ?_
 refine so (cpy (f := u32) rfl Tryz.underlying32 ti_139.h rfl rfl (.inl rfl) rfl) ?_
 refine z [1, 2, 30, 31, 1, 8] ?_
 exact rt [(50, 100)]
theorem c_nat_Norm {n : Nat} {x0} : ∀ r, m_nat_Norm n x0 = some r → FnOk Tryz.prog 94 [sli 1 (List.map u32 x0)] [] (.own 50) [(50, .sl 139 1 (List.map u32 r))] := by
 unfold m_nat_Norm
 refine fs Tryz.func94 fun w S0 γ hγ => ?_
 refine z [2] ?_
 refine s1 (asg rfl (kLm (k := 1) u32)) ?_
 refine z [1, 2, 30] ?_
 refine cb (ca c_nat_trim) fun r1 => ?_
 refine b fun r3 h4 => ?_
 refine o (cG (c_nat_fresh _ h4) [] [(100, 50)] []) ?_
 refine z [31, 1, 8] ?_
 exact rt [(50, 100)]
theorem c_prod_Word {n : Nat} {x0} {x1} {x2} : ∀ r, m_prod_Word n x0 x1 x2 = some r → FnOk Tryz.prog 198 [sli 1 (List.map u32 x0), u32 x1, u32 x2] [] (sli 1 (List.map u32 r)) [] := by
 unfold m_prod_Word
 refine fs Tryz.func198 fun w S0 γ hγ => ?_
 refine z [2] ?_
 refine s1 (asg rfl (kLm (k := 1) u32)) ?_
 refine z [1, 2, 30, 39, 40] ?_
 refine b fun y1 h2 => ?_
 refine so (mks (y := 100) (f := u32) h2 Tryz.underlying32 ti_139.h zr_u32 rfl rfl rfl rfl rfl rfl) ?_
 refine z [31, 1, 2, 30, 30, 30, 30] ?_
 refine b fun r3 h4 => ?_
 refine o (cG (c_prod_row _ h4) [100] [] []) ?_
 refine z [1, 2, 30] ?_
 refine b fun r5 h6 => ?_
 refine so (callL (em := [(101, .sl 139 1 (List.map u32 r5))]) (res' := .own 101) [100] [] [(101, 50)] [(101, 50)] rfl (c_nat_Norm _ h6) ⟨pls_map (f := u32) (fun _ => pl_u32) _, trivial⟩ (pl_own) ⟨.inr ⟨100, rfl, .inl ⟨rfl, .inl ⟨_, _, _, rfl, ifs_map (f := u32) (fun _ => if_u32) r3, rfl⟩⟩⟩, trivial⟩ (MiF.get (mi := []) trivial) trivial rfl ⟨rfl, trivial⟩ ⟨.inl rfl, trivial⟩ rfl ⟨.inl ⟨_, _, rfl, rfl, rc_sl (ifs_map (f := u32) (fun _ => if_u32) r5)⟩, trivial⟩ trivial ⟨⟨_, rfl⟩, trivial⟩ (rn_own rfl) rfl) ?_
 refine z [31, 1, 8] ?_
 refine fz 101 [6, 18] [] ?_
 exact rt []
theorem c_digits_Read {n : Nat} {x0} : ∀ r, m_digits_Read n x0 = some r → FnOk Tryz.prog 190 [str x0] [] (.tup [sli 1 (List.map u32 r.1), L_api_Fault r.2]) [] := by
 unfold m_digits_Read
 refine fs Tryz.func190 fun w S0 γ hγ => ?_
 refine z [2] ?_
 refine s1 (asg rfl (kLm (k := 1) u32)) ?_
 refine o (al' 100) ?_
 refine z [1, 5, 2, 30] ?_
 refine cb (ca c_digits_wrong) fun r1 => ?_
 refine z [31, 1, 2, 30, 57, 1] ?_
 refine c ?_ ?_
 · refine z [2, 30] ?_
   refine s1 (bld (l := [i64 (1 : Int), i64 0, i64 0, i64 r1]) pl_59.h ti_59.h zr_api_Fault ⟨_, _, _, (kI (x := 1) rfl), rfl, rfl, rfl, (szk (k := 1) rfl rfl), ⟨_, _, _, rfl, rfl, rfl, rfl, (szk (k := 1) rfl rfl), rfl⟩⟩ rfl) ?_
   refine s1 (asg rfl (kLm (k := 1) u32)) ?_
   refine z [34, 1, 8, 10] ?_
   exact rt []
 refine z [9, 4, 2] ?_
 refine s1 (asg rfl (kLm (k := 1) u32)) ?_
 refine z [1, 5, 2, 31, 1, 7] ?_
 refine sloopE 0 (fun t => t) (fun s49 => [(0, str x0), (2, sli 1 (List.map u32 ([] : List Nat))), (3, .own 100), (5, sli 1 (List.map u32 s49.1)), (6, i64 s49.2)]) (fun s49 => [(100, .bx 59 (L_api_Fault (⟨0, 0, 0, 0⟩ : M_api_Fault)))]) (fun t47 => [(2, sli 1 (List.map u32 ([] : List Nat))), (3, .own 100), (5, sli 1 (List.map u32 t47))]) (fun t47 => [(100, .bx 59 (L_api_Fault (⟨0, 0, 0, 0⟩ : M_api_Fault)))]) (eR [(100, 100)]) ?_ ?_
 · intro hj48 s49
   refine z [5, 2, 30, 30, 54, 46, 1] ?_
   refine c ?_ ?_
   · refine z [9, 4, 7, 2, 31, 31, 1, 5, 2, 31, 1, 7] ?_
     refine sloopE 2 (fun t => t) (fun s59 => [(0, str x0), (2, sli 1 (List.map u32 ([] : List Nat))), (3, .own 100), (5, sli 1 (List.map u32 s49.1)), (6, i64 s59.1), (7, u32 s59.2.1), (8, u32 s59.2.2.1), (9, i64 s59.2.2.2)]) (fun s59 => [(100, .bx 59 (L_api_Fault (⟨0, 0, 0, 0⟩ : M_api_Fault)))]) (fun t57 => [(0, str x0), (2, sli 1 (List.map u32 ([] : List Nat))), (3, .own 100), (5, sli 1 (List.map u32 s49.1)), (6, i64 t57.1), (7, u32 t57.2.1), (8, u32 t57.2.2)]) (fun t57 => [(100, .bx 59 (L_api_Fault (⟨0, 0, 0, 0⟩ : M_api_Fault)))]) (eR [(100, 100)]) ?_ ?_
     · intro hj58 s59
       refine z [5] ?_
       refine sjq (fun s62 => [(0, str x0), (2, sli 1 (List.map u32 ([] : List Nat))), (3, .own 100), (5, sli 1 (List.map u32 s49.1)), (6, i64 s59.1), (7, u32 s59.2.1), (8, u32 s59.2.2.1), (9, i64 s59.2.2.2), (27, bl s62)]) (fun s62 => [(100, .bx 59 (L_api_Fault (⟨0, 0, 0, 0⟩ : M_api_Fault)))]) ?_ ?_
       · intro j60 hj61
         refine z [6, 30, 46, 30] ?_
         refine sifd 22 rfl ?_ ?_
         · refine z [22, 22, 22, 22, 38, 1] ?_
           exact sj (hj61 _) (eR [(100, 100)])
         refine z [23, 23, 23, 23, 37, 1] ?_
         exact sj (hj61 _) (eR [(100, 100)])
       intro s62
       refine c ?_ ?_
       · refine z [9, 4, 5, 7, 2, 30, 63, 30, 30] ?_
         refine b fun y63 h64 => ?_
         refine z [90, 62, 59, 61] ?_
         refine sbn (F := u32) 37 rfl fun z65 => ?_
         refine z [31, 1, 2, 30, 63, 31, 1, 6, 30, 40, 31, 3, 11, 4, 6, 30, 40, 31, 3] ?_
         exact sgo (eR [(100, 100)])
       refine z [14, 15] ?_
       exact su (sj (hj58 _) (eR [(100, 100)]))
     intro t57
     refine z [13, 4, 6, 30, 30, 30] ?_
     refine cb (ca c_prod_Word) fun r66 => ?_
     refine z [31, 3, 11] ?_
     exact sgo (eR [(100, 100)])
   refine z [14, 15] ?_
   exact su (sj (hj48 _) (eR [(100, 100)]))
 intro t47
 refine z [13, 4, 2, 30] ?_
 refine s1 (bld (l := [i64 0, i64 0, i64 0, i64 0]) pl_59.h ti_59.h zr_api_Fault rfl rfl) ?_
 refine z [31, 34, 1, 8] ?_
 exact rt []
theorem c_whole_signed {x0} {x1} : ∀ r, m_whole_signed x0 x1 = some r → FnOk Tryz.prog 60 [bl x0, sli 1 (List.map u32 x1)] [] (L_whole_Whole r) [] := by
 unfold m_whole_signed
 refine fs Tryz.func60 fun w S0 γ hγ => ?_
 refine z [2] ?_
 refine o (al' 100) ?_
 refine z [1] ?_
 refine sjq (fun s3 => [(4, .own 100)]) (fun s3 => [(100, .bx 52 (L_whole_Whole s3))]) ?_ ?_
 · intro j1 hj2
   refine z [6, 30, 30] ?_
   refine sifd 6 rfl ?_ ?_
   · refine z [22, 22, 22, 38, 30] ?_
     refine s1 (bld (l := [bl (decide ((0 : Int) < (x1.length : Int))), sli 1 (List.map u32 x1)]) pl_52.h ti_52.h zr_whole_Whole ⟨_, _, _, rfl, rfl, rfl, rfl, (szk (k := 1) rfl rfl), ⟨_, _, _, rfl, rfl, rfl, rfl, (szk (k := 1) rfl rfl), rfl⟩⟩ rfl) ?_
     refine z [34, 1] ?_
     exact sj (hj2 _) (eR [(100, 100)])
   refine z [23, 23, 23, 37, 30] ?_
   refine s1 (bld (l := [bl false, sli 1 (List.map u32 x1)]) pl_52.h ti_52.h zr_whole_Whole ⟨_, _, _, rfl, rfl, rfl, rfl, (szk (k := 1) rfl rfl), ⟨_, _, _, rfl, rfl, rfl, rfl, (szk (k := 1) rfl rfl), rfl⟩⟩ rfl) ?_
   refine z [34, 1] ?_
   exact sj (hj2 _) (eR [(100, 100)])
 intro s3
 refine z [8] ?_
 exact rt []
theorem c_whole_Read {n : Nat} {x0} : ∀ r, m_whole_Read n x0 = some r → FnOk Tryz.prog 180 [str x0] [] (.tup [L_whole_Whole r.1, L_api_Fault r.2]) [] := by
 unfold m_whole_Read
 refine fs Tryz.func180 fun w S0 γ hγ => ?_
 refine z [2] ?_
 refine o (al' 100) ?_
 refine o (al' 101) ?_
 refine z [1, 2, 30] ?_
 refine cb (ca c_strings_CutPrefix) fun r1 => ?_
 refine z [30, 35, 35, 31, 31, 1, 2, 30] ?_
 refine cb (ca c_digits_Read) fun r3 => ?_
 refine z [30, 35, 35] ?_
 refine o (al' 102) ?_
 refine z [31, 34, 1, 5, 2, 32] ?_
 refine s1 (bld (l := [i64 0, i64 0, i64 0, i64 0]) pl_59.h ti_59.h zr_api_Fault rfl rfl) ?_
 refine s1 (neA (p := (r3.2 : M_api_Fault)) (q := ((⟨0, 0, 0, 0⟩ : M_api_Fault) : M_api_Fault)) eq_59_2 rfl eg_59 rfl rfl rfl) ?_
 refine z [1] ?_
 refine c ?_ ?_
 · refine z [2, 33, 36, 30, 54, 30, 54, 49, 40, 33] ?_
   refine o (stP (L_api_Fault (⟨r3.2.Kind, r3.2.Step, r3.2.Stage, wrap64 (r3.2.At + (wrap64 ((x0.length : Int) - (r1.1.length : Int))))⟩ : M_api_Fault)) [3]) ?_
   refine z [1, 5] ?_
   refine sd ?_
   refine dx [] [] (fun st mm _ _ => og (bld (l := [bl false, sli 1 (List.map u32 [])]) pl_52.h ti_52.h zr_whole_Whole rfl rfl)) ?_
   refine zd [[102], [100], [101]] ?_
   refine de fol ?_
   refine z [4, 8, 10] ?_
   exact rt []
 refine z [9, 4, 2, 30, 30] ?_
 refine cb (ca c_whole_signed) fun r5 => ?_
 refine s1 (bld (l := [i64 0, i64 0, i64 0, i64 0]) pl_59.h ti_59.h zr_api_Fault rfl rfl) ?_
 refine z [34, 34, 1, 8] ?_
 exact rt []
theorem c_nat_Of {n : Nat} {x0} : ∀ r, m_nat_Of n x0 = some r → FnOk Tryz.prog 34 [u64 x0] [] (sli 1 (List.map u32 r)) [] := by
 unfold m_nat_Of
 refine fs Tryz.func34 fun w S0 γ hγ => ?_
 refine z [2] ?_
 refine s1 (asg rfl (kLm (k := 1) u32)) ?_
 refine z [1, 2, 30, 60, 30] ?_
 refine s1 (shrU uk64 rfl rfl rfl (k64 (x := 32) rfl)) ?_
 refine z [60] ?_
 refine so (bsl (y := 100) (ls := List.map u32 ([(x0 % 4294967296), ((x0 / 2 ^ 32) % 4294967296)] : List Nat)) Tryz.underlying32 ti_139.h rfl rfl rfl rfl rfl ⟨rfl, rfl, (by exact rfl), (by exact rfl), rfl, rfl, (by exact rfl), (by exact rfl), trivial⟩ rfl rfl) ?_
 refine fz 100 [8] [] ?_
 refine cb (ca c_nat_trim) fun r1 => ?_
 refine z [31, 1, 8] ?_
 exact rt []
theorem c_whole_Of {n : Nat} {x0} : ∀ r, m_whole_Of n x0 = some r → FnOk Tryz.prog 33 [i64 x0] [] (L_whole_Whole r) [] := by
 unfold m_whole_Of
 refine fs Tryz.func33 fun w S0 γ hγ => ?_
 refine z [2] ?_
 refine o (al' 100) ?_
 refine z [1, 5, 2, 30, 46, 1] ?_
 refine c ?_ ?_
 · refine z [2, 30, 83] ?_
   refine s1 (negU uk64 rfl rfl) ?_
   refine sbn (F := u64) 7 rfl fun z1 => ?_
   refine cb (ca c_nat_Of) fun r2 => ?_
   refine cb (ca c_whole_signed) fun r4 => ?_
   refine z [34, 1, 8, 10] ?_
   exact rt []
 refine z [9, 4, 2, 30, 83] ?_
 refine cb (ca c_nat_Of) fun r6 => ?_
 refine cb (ca c_whole_signed) fun r8 => ?_
 refine z [34, 1, 8] ?_
 exact rt []
theorem c_frac_Of {n : Nat} {x0} : ∀ r, m_frac_Of n x0 = some r → FnOk Tryz.prog 12 [i64 x0] [] (L_frac_Frac r) [] := by
 unfold m_frac_Of
 refine fs Tryz.func12 fun w S0 γ hγ => ?_
 refine z [2] ?_
 refine o (al' 100) ?_
 refine z [1, 2, 30] ?_
 refine cb (ca c_whole_Of) fun r1 => ?_
 refine cb (ca c_nat_Of) fun r3 => ?_
 refine s1 (bld (l := [L_whole_Whole r1, sli 1 (List.map u32 r3)]) pl_54.h ti_54.h zr_frac_Frac ⟨_, _, _, rfl, rfl, rfl, rfl, (szk (k := 2) rfl rfl), ⟨_, _, _, rfl, rfl, rfl, rfl, (szk (k := 1) rfl rfl), rfl⟩⟩ rfl) ?_
 refine z [34, 1, 8] ?_
 exact rt []
theorem c_nat_Zero {n : Nat} {x0} : ∀ r, m_nat_Zero n x0 = some r → FnOk Tryz.prog 62 [sli 1 (List.map u32 x0)] [] (bl r) [] := by
 unfold m_nat_Zero
 refine fs Tryz.func62 fun w S0 γ hγ => ?_
 refine z [2, 31, 1, 2, 30] ?_
 refine cb (ca c_nat_trim) fun r1 => ?_
 refine z [39, 41, 31, 1, 8] ?_
 exact rt []
theorem c_nat_Cmp {n : Nat} {x0} {x1} : ∀ r, m_nat_Cmp n x0 x1 = some r → FnOk Tryz.prog 75 [sli 1 (List.map u32 x0), sli 1 (List.map u32 x1)] [] (i64 r) [] := by
 unfold m_nat_Cmp
 refine fs Tryz.func75 fun w S0 γ hγ => ?_
 refine z [2, 31, 1, 2, 30] ?_
 refine cb (ca c_nat_trim) fun r1 => ?_
 refine z [30] ?_
 refine cb (ca c_nat_trim) fun r3 => ?_
 refine z [31, 31, 1, 5, 7, 2, 30, 39, 30, 39, 46, 31, 1] ?_
 refine c ?_ ?_
 · refine z [2, 31, 1, 8, 12, 10] ?_
   exact rt []
 refine z [2, 30, 39, 30, 39, 47, 31, 1] ?_
 refine c ?_ ?_
 · refine z [2, 31, 1, 8, 12, 10] ?_
   exact rt []
 refine z [9, 11, 4, 5, 2, 30, 39, 49, 31, 1, 7] ?_
 refine sloopE 1 Lp.go (fun s25 => [(0, sli 1 (List.map u32 r1)), (1, sli 1 (List.map u32 r3)), (4, i64 (0 : Int)), (5, i64 s25)]) (fun s25 => []) (fun t23 => [(4, i64 (0 : Int))]) (fun t23 => []) eI ?_ ?_
 · intro hj24 s25
   refine z [5, 2, 30, 57, 1] ?_
   refine c ?_ ?_
   · refine z [9, 4, 5, 7, 7, 5] ?_
     refine b fun y26 h27 => ?_
     refine b fun y28 h29 => ?_
     refine sd ?_
     refine zd [[], [], [], [], [], [], [], [], [], []] ?_
     refine de fol ?_
     refine z [4] ?_
     refine c ?_ ?_
     · refine z [2, 31, 1, 8, 12, 12, 10] ?_
       refine sU ?_
       refine z [12, 10] ?_
       exact rt []
     refine z [5] ?_
     refine b fun y30 h31 => ?_
     refine b fun y32 h33 => ?_
     refine sd ?_
     refine zd [[], [], [], [], [], [], [], [], [], []] ?_
     refine de fol ?_
     refine z [4] ?_
     refine c ?_ ?_
     · refine z [2, 31, 1, 8, 12, 12, 10] ?_
       refine sU ?_
       refine z [12, 10] ?_
       exact rt []
     refine z [9, 11, 11, 4, 6, 30, 49, 31, 3] ?_
     exact sgo eI
   refine z [14, 15] ?_
   exact su (sj (hj24 _) eI)
 intro t23
 refine slpk ?_
 refine z [13, 4, 2, 31, 1, 8] ?_
 exact rt []
theorem c_limb_Div {x0} {x1} {x2} : ∀ r, m_limb_Div x0 x1 x2 = some r → FnOk Tryz.prog 138 [u32 x0, u32 x1, u32 x2] [] (.tup [u32 r.1, u32 r.2.1, bl r.2.2]) [] := by
 unfold m_limb_Div
 refine fs Tryz.func138 fun w S0 γ hγ => ?_
 refine z [2, 31, 31, 31, 1, 5, 2, 30, 30, 71, 1] ?_
 refine c ?_ ?_
 · refine z [2, 31, 31, 31, 1, 8, 10] ?_
   exact rt []
 refine z [9, 4, 2, 30, 59] ?_
 refine s1 (shlU uk64 rfl rfl rfl (k64 (x := 32) rfl)) ?_
 refine z [30, 59, 64, 31, 1, 5] ?_
 refine b fun _ h1 => ?_
 refine b fun _ h2 => ?_
 refine sd ?_
 refine zd [[], [], []] ?_
 refine dx [19, 21] [] (fun st mm ⟨a19, a21, _⟩ _ => og (quoU uk64 (nzU h1) rfl (a19.trans rfl) (a21.trans rfl))) ?_
 refine zd [[], [], [], []] ?_
 refine dx [24, 26] [] (fun st mm ⟨a24, a26, _⟩ _ => og (remU uk64 (nzU h2) rfl (a24.trans rfl) (a26.trans rfl))) ?_
 refine zd [[], [], [], []] ?_
 refine de fol ?_
 refine z [4, 8] ?_
 exact rt []
theorem c_quot_Word {n : Nat} {x0} {x1} : ∀ r, m_quot_Word n x0 x1 = some r → FnOk Tryz.prog 105 [sli 1 (List.map u32 x0), u32 x1] [] (.tup [sli 1 (List.map u32 r.1), u32 r.2.1, bl r.2.2]) [] := by
 unfold m_quot_Word
 refine fs Tryz.func105 fun w S0 γ hγ => ?_
 refine z [2] ?_
 refine s1 (asg rfl (kLm (k := 1) u32)) ?_
 refine z [31, 31, 1, 5, 2, 30, 66, 1] ?_
 refine c ?_ ?_
 · refine z [2] ?_
   refine s1 (asg rfl (kLm (k := 1) u32)) ?_
   refine z [31, 31, 1, 8, 10] ?_
   exact rt []
 refine z [9, 4, 2, 30, 39] ?_
 refine b fun y1 h2 => ?_
 refine so (mks (y := 100) (f := u32) h2 Tryz.underlying32 ti_139.h zr_u32 rfl rfl rfl rfl rfl rfl) ?_
 refine z [31, 1, 5, 2, 30, 39, 49, 31, 1, 7] ?_
 refine sloopE 0 (fun t => t) (fun s20 => [(0, sli 1 (List.map u32 x0)), (1, u32 x1), (4, .own 100), (5, u32 s20.2.1), (6, bl false), (7, i64 s20.2.2)]) (fun s20 => [(100, .sl 139 1 (List.map u32 s20.1))]) (fun t18 => [(4, .own 100), (5, u32 t18.2), (6, bl false)]) (fun t18 => [(100, .sl 139 1 (List.map u32 t18.1))]) (eR [(100, 100)]) ?_ ?_
 · intro hj19 s20
   refine z [5, 2, 30, 57, 1] ?_
   refine c ?_ ?_
   · refine z [9, 4, 5, 7, 6, 30, 30, 30, 30, 30] ?_
     refine b fun y21 h22 => ?_
     refine z [43, 42, 30] ?_
     refine cb (ca c_limb_Div) fun r23 => ?_
     refine z [30, 35, 35, 35] ?_
     refine b fun y25 h26 => ?_
     refine z [50, 53, 31, 3, 11, 4, 6, 30, 49, 31, 3] ?_
     exact sgo (eR [(100, 100)])
   refine z [14, 15] ?_
   exact su (sj (hj19 _) (eR [(100, 100)]))
 intro t18
 refine z [13, 4, 2, 30] ?_
 refine b fun r27 h28 => ?_
 refine so (callL (em := [(101, .sl 139 1 (List.map u32 r27))]) (res' := .own 101) [100] [] [(101, 50)] [(101, 50)] rfl (c_nat_Norm _ h28) ⟨pls_map (f := u32) (fun _ => pl_u32) _, trivial⟩ (pl_own) ⟨.inr ⟨100, rfl, .inl ⟨rfl, .inl ⟨_, _, _, rfl, ifs_map (f := u32) (fun _ => if_u32) t18.1, rfl⟩⟩⟩, trivial⟩ (MiF.get (mi := []) trivial) trivial rfl ⟨rfl, trivial⟩ ⟨.inl rfl, trivial⟩ rfl ⟨.inl ⟨_, _, rfl, rfl, rc_sl (ifs_map (f := u32) (fun _ => if_u32) r27)⟩, trivial⟩ trivial ⟨⟨_, rfl⟩, trivial⟩ (rn_own rfl) rfl) ?_
 refine z [30, 31, 31, 31, 1, 8] ?_
 refine fz 101 [4, 35] [] ?_
 exact rt []
theorem c_limb_Len {n : Nat} {x0} : ∀ r, m_limb_Len n x0 = some r → FnOk Tryz.prog 152 [u32 x0] [] (i64 r) [] := by
 unfold m_limb_Len
 refine fs Tryz.func152 fun w S0 γ hγ => ?_
 refine z [2, 31, 1, 2, 31, 1, 5, 2, 31, 1, 7] ?_
 refine sloopE 0 (fun t => t) (fun s15 => [(0, u32 s15.1), (2, i64 (0 : Int)), (3, i64 s15.2.1), (4, i64 s15.2.2)]) (fun s15 => []) (fun t13 => [(0, u32 t13.1), (2, i64 (0 : Int)), (3, i64 t13.2)]) (fun t13 => []) eI ?_ ?_
 · intro hj14 s15
   refine z [5, 2, 30, 47, 1] ?_
   refine c ?_ ?_
   · refine z [9, 4] ?_
     refine sjq (fun s20 => [(0, u32 s20.1), (2, i64 (0 : Int)), (3, i64 s20.2), (4, i64 s15.2.2)]) (fun s20 => []) ?_ ?_
     · intro j18 hj19
       refine z [7, 2, 30, 30] ?_
       refine b fun _ h21 => ?_
       refine s1 (shrU uk32 (ge0 h21) rfl rfl rfl) ?_
       refine z [67, 1] ?_
       refine c ?_ ?_
       · refine z [2, 30, 30] ?_
         refine b fun _ h22 => ?_
         refine s1 (shrU uk32 (ge0 h22) rfl rfl rfl) ?_
         refine z [31, 1, 6, 30, 30, 40, 31, 3, 11, 4] ?_
         exact sj (hj19 _) eI
       refine z [9, 11, 4] ?_
       exact sj (hj19 _) eI
     intro s20
     refine z [6, 30, 78, 31, 3] ?_
     exact sgo eI
   refine z [14, 15] ?_
   exact su (sj (hj14 _) eI)
 intro t13
 refine z [13, 4, 2, 30, 30, 85, 40, 31, 1, 8] ?_
 exact rt []
theorem c_twos_Up {n : Nat} {x0} {x1} : ∀ r, m_twos_Up n x0 x1 = some r → FnOk Tryz.prog 153 [sli 1 (List.map u32 x0), i64 x1] [] (.own 50) [(50, .sl 139 1 (List.map u32 r))] := by
 unfold m_twos_Up
 refine fs Tryz.func153 fun w S0 γ hγ => ?_
 refine z [2] ?_
 refine s1 (asg rfl (kLm (k := 1) u32)) ?_
 refine z [1, 2, 30, 88, 89, 31, 1, 2, 30, 78, 30, 79, 31, 31, 1, 2, 30, 30, 39, 40] ?_
 refine sbn (F := i64) 21 rfl fun z1 => ?_
 refine z [40] ?_
 refine b fun y2 h3 => ?_
 refine so (mks (y := 100) (f := u32) h3 Tryz.underlying32 ti_139.h zr_u32 rfl rfl rfl rfl rfl rfl) ?_
 refine z [31, 1, 5, 2, 30, 39, 30, 1, 7] ?_
 refine srN (fun s35 => [(4, sli 1 (List.map u32 ([] : List Nat))), (5, i64 (wrap64 (Int.tdiv (min (max x1 (0 : Int)) (4096 : Int)) (32 : Int)))), (6, i64 (Int.tmod (min (max x1 (0 : Int)) (4096 : Int)) (32 : Int))), (7, .own 100), (24, sli 1 (List.map u32 x0))]) (fun s35 => [(100, .sl 139 1 (List.map u32 s35))]) (rE (eR [(100, 100)])) ?_ ?_
 · intro i36 x37 s35 hx38
   refine z [7, 2, 30, 43, 42, 31, 31, 1, 2, 30, 59, 30] ?_
   refine b fun _ h39 => ?_
   refine s1 (shlU uk64 (ge0 h39) rfl rfl rfl) ?_
   refine sbn (F := u64) 34 rfl fun z40 => ?_
   refine z [31, 1, 2, 30, 30, 30, 40] ?_
   refine sbn (F := i64) 38 rfl fun z41 => ?_
   refine b fun y42 h43 => ?_
   refine z [50, 51, 30, 60, 64] ?_
   refine b fun y44 h45 => ?_
   refine z [50, 53, 1, 6, 30, 30, 30, 40] ?_
   refine sbn (F := i64) 48 rfl fun z46 => ?_
   refine z [40, 30] ?_
   refine s1 (shrU uk64 rfl rfl rfl (k64 (x := 32) rfl)) ?_
   refine z [60] ?_
   refine b fun y47 h48 => ?_
   refine z [50, 53] ?_
   refine sbm (C := fun x => .sl 139 1 (List.map u32 x)) 100 rfl fun z49 => ?_
   refine z [3, 11] ?_
   exact sgo (eR [(100, 100)])
 intro s50
 refine z [13, 4, 2, 30] ?_
 refine b fun r51 h52 => ?_
 refine so (callL (em := [(101, .sl 139 1 (List.map u32 r51))]) (res' := .own 101) [100] [] [(101, 50)] [(101, 50)] rfl (c_nat_Norm _ h52) ⟨pls_map (f := u32) (fun _ => pl_u32) _, trivial⟩ (pl_own) ⟨.inr ⟨100, rfl, .inl ⟨rfl, .inl ⟨_, _, _, rfl, ifs_map (f := u32) (fun _ => if_u32) s50, rfl⟩⟩⟩, trivial⟩ (MiF.get (mi := []) trivial) trivial rfl ⟨rfl, trivial⟩ ⟨.inl rfl, trivial⟩ rfl ⟨.inl ⟨_, _, rfl, rfl, rc_sl (ifs_map (f := u32) (fun _ => if_u32) r51)⟩, trivial⟩ trivial ⟨⟨_, rfl⟩, trivial⟩ (rn_own rfl) rfl) ?_
 refine z [31, 1, 8] ?_
 exact rt [(50, 101)]
theorem c_limb_Add {x0} {x1} {x2} : ∀ r, m_limb_Add x0 x1 x2 = some r → FnOk Tryz.prog 156 [u32 x0, u32 x1, u32 x2] [] (.tup [u32 r.1, u32 r.2]) [] := by
 unfold m_limb_Add
 refine fs Tryz.func156 fun w S0 γ hγ => ?_
 refine z [2, 31, 31, 1, 2, 30, 30, 61, 31, 1] ?_
 refine sjq (fun s3 => [(2, u32 x2), (6, u32 ((x0 + x1) % 4294967296)), (7, u32 s3)]) (fun s3 => []) ?_ ?_
 · intro j1 hj2
   refine z [2, 30, 30, 68, 1] ?_
   refine c ?_ ?_
   · refine z [6, 30, 61, 31, 1] ?_
     exact sj (hj2 _) eI
   refine z [9, 4] ?_
   exact sj (hj2 _) eI
 intro s3
 refine z [2, 30, 30, 61, 31, 1] ?_
 refine sjq (fun s6 => [(6, u32 ((((x0 + x1) % 4294967296) + x2) % 4294967296)), (7, u32 s6)]) (fun s6 => []) ?_ ?_
 · intro j4 hj5
   refine z [2, 30, 30, 68, 1] ?_
   refine c ?_ ?_
   · refine z [6, 30, 61, 31, 1] ?_
     exact sj (hj5 _) eI
   refine z [9, 4] ?_
   exact sj (hj5 _) eI
 intro s6
 refine z [2, 30, 30, 31, 31, 1, 8] ?_
 exact rt []
theorem c_quot_guess {n : Nat} {x0} {x1} {x2} {x3} {x4} : ∀ r, m_quot_guess n x0 x1 x2 x3 x4 = some r → FnOk Tryz.prog 174 [u32 x0, u32 x1, u32 x2, u32 x3, u32 x4] [] (u32 r) [] := by
 unfold m_quot_guess
 refine fs Tryz.func174 fun w S0 γ hγ => ?_
 refine z [2, 31, 1, 16, 2, 30, 30, 30] ?_
 refine cb (ca c_limb_Div) fun r1 => ?_
 refine z [30, 35, 35, 35, 31, 31, 31, 1] ?_
 refine sjq (fun s10 => [(2, u32 x2), (3, u32 x3), (4, u32 x4), (10, u32 0), (11, u32 s10.1), (12, u32 s10.2)]) (fun s10 => []) ?_ ?_
 · intro j8 hj9
   refine z [2, 30, 44, 1] ?_
   refine c ?_ ?_
   · refine z [2, 31, 1, 2, 30, 30] ?_
     refine cb (ca c_limb_Add) fun r11 => ?_
     refine z [30, 35, 35, 31, 31, 1, 5] ?_
     refine sjq (fun s15 => [(2, u32 x2), (3, u32 x3), (4, u32 x4), (10, u32 0), (11, u32 4294967295), (12, u32 r1.2.1), (14, u32 r11.1), (42, bl s15)]) (fun s15 => []) ?_ ?_
     · intro j13 hj14
       refine z [6, 30, 30, 69, 30] ?_
       refine sifd 39 rfl ?_ ?_
       · refine z [23, 23, 38, 1] ?_
         exact sj (hj14 _) eI
       refine z [22, 22, 37, 1] ?_
       exact sj (hj14 _) eI
     intro s15
     refine c ?_ ?_
     · refine z [2, 30, 31, 1, 8, 10, 10, 18] ?_
       exact rt []
     refine z [9, 4, 6, 30, 31, 1] ?_
     exact sj (hj9 _) eI
   refine z [9, 4] ?_
   exact sj (hj9 _) eI
 intro s10
 refine z [5, 20, 4, 5, 7] ?_
 refine sloopE 0 (fun t => t) (fun s34 => [(2, u32 x2), (3, u32 x3), (4, u32 x4), (10, u32 0), (11, u32 s34.1), (12, u32 s34.2)]) (fun s34 => []) (fun t32 => [(10, u32 0), (11, u32 t32)]) (fun t32 => []) eI ?_ ?_
 · intro hj33 s34
   refine z [7, 2, 30, 30] ?_
   refine cb (ca c_limb_Mul) fun r35 => ?_
   refine z [30, 35, 35, 31, 31, 1, 5] ?_
   refine sjq (fun s39 => [(2, u32 x2), (3, u32 x3), (4, u32 x4), (10, u32 0), (11, u32 s34.1), (12, u32 s34.2), (63, bl s39)]) (fun s39 => []) ?_ ?_
   · intro j37 hj38
     refine z [6, 30, 30, 68, 30] ?_
     refine sifd 54 rfl ?_ ?_
     · refine z [23, 23, 23, 23, 24, 24, 24, 23, 38, 1] ?_
       exact sj (hj38 _) eI
     refine z [22, 22, 22, 22] ?_
     refine sifd 58 rfl ?_ ?_
     · refine z [22, 22, 22, 22, 37, 1] ?_
       exact sj (hj38 _) eI
     refine z [23, 23, 23, 22, 37, 1] ?_
     exact sj (hj38 _) eI
   intro s39
   refine c ?_ ?_
   · refine z [14, 15, 21] ?_
     exact su (sj (hj33 _) eI)
   refine z [9, 4, 2, 30, 62, 31, 1, 2, 30, 30] ?_
   refine cb (ca c_limb_Add) fun r40 => ?_
   refine z [30, 35, 35, 31, 31, 1, 5, 2, 30, 69, 1] ?_
   refine c ?_ ?_
   · refine z [14, 15, 21] ?_
     exact su (sj (hj33 _) eI)
   refine z [9, 4, 6, 30, 31, 3, 11] ?_
   exact sgo eI
 intro t32
 refine z [13, 4, 2, 30, 31, 1, 8, 18] ?_
 exact rt []
theorem c_limb_Sub {x0} {x1} {x2} : ∀ r, m_limb_Sub x0 x1 x2 = some r → FnOk Tryz.prog 157 [u32 x0, u32 x1, u32 x2] [] (.tup [u32 r.1, u32 r.2]) [] := by
 unfold m_limb_Sub
 refine fs Tryz.func157 fun w S0 γ hγ => ?_
 refine z [2, 31, 31, 1, 2, 30, 30, 62, 31, 1] ?_
 refine sjq (fun s3 => [(2, u32 x2), (6, u32 ((x0 + 4294967296 - x1) % 4294967296)), (7, u32 s3)]) (fun s3 => []) ?_ ?_
 · intro j1 hj2
   refine z [2, 30, 30, 68, 1] ?_
   refine c ?_ ?_
   · refine z [6, 30, 61, 31, 1] ?_
     exact sj (hj2 _) eI
   refine z [9, 4] ?_
   exact sj (hj2 _) eI
 intro s3
 refine sjq (fun s6 => [(2, u32 x2), (6, u32 ((x0 + 4294967296 - x1) % 4294967296)), (7, u32 s6)]) (fun s6 => []) ?_ ?_
 · intro j4 hj5
   refine z [2, 30, 30, 68, 1] ?_
   refine c ?_ ?_
   · refine z [6, 30, 61, 31, 1] ?_
     exact sj (hj5 _) eI
   refine z [9, 4] ?_
   exact sj (hj5 _) eI
 intro s6
 refine z [2, 30, 30, 62] ?_
 refine sbn (F := u32) 23 rfl fun z7 => ?_
 refine z [30, 31, 31, 1, 8] ?_
 exact rt []
theorem c_quot_take {x0} {x1} {x2} {x3} : ∀ r, m_quot_take x0 x1 x2 x3 = some r → FnOk Tryz.prog 175 [.own 0, i64 x1, sli 1 (List.map u32 x2), u32 x3] [(0, .sl 139 1 (List.map u32 x0))] (bl r.1) [(0, .sl 139 1 (List.map u32 r.2))] := by
 unfold m_quot_take
 refine fs Tryz.func175 fun w S0 γ hγ => ?_
 refine z [2, 31, 1, 2, 31, 31, 1, 5, 2, 30, 39, 30, 1, 7] ?_
 refine srN (fun s26 => [(0, .own 0), (1, i64 x1), (2, sli 1 (List.map u32 x2)), (3, u32 x3), (8, bl false), (9, u32 s26.2.1), (10, u32 s26.2.2), (15, sli 1 (List.map u32 x2))]) (fun s26 => [(0, .sl 139 1 (List.map u32 s26.1))]) (rE (eR [(0, 0)])) ?_ ?_
 · intro i27 x28 s26 hx29
   refine z [7, 2, 30, 43, 42, 31, 31, 1, 2, 31, 1, 2, 30, 30, 30] ?_
   refine cb (ca c_limb_Mul) fun r30 => ?_
   refine z [30, 35, 35, 31, 31, 1, 6, 30, 30, 30, 40, 30, 30, 30, 40] ?_
   refine b fun y32 h33 => ?_
   refine z [50, 51, 30, 30] ?_
   refine cb (ca c_limb_Sub) fun r34 => ?_
   refine z [30, 35, 35] ?_
   refine b fun y36 h37 => ?_
   refine z [50, 53, 31, 3, 11] ?_
   exact sgo (eR [(0, 0)])
 intro s38
 refine z [13, 4, 2, 30, 30, 39, 40, 31, 1, 2, 30, 30, 30, 30] ?_
 refine b fun y39 h40 => ?_
 refine z [50, 51, 30, 30] ?_
 refine cb (ca c_limb_Sub) fun r41 => ?_
 refine z [30, 35, 35] ?_
 refine b fun y43 h44 => ?_
 refine z [50, 53, 31, 1, 2, 30, 69, 31, 1, 8] ?_
 exact rt [(0, 0)]
theorem c_quot_give {x0} {x1} {x2} : ∀ r, m_quot_give x0 x1 x2 = some r → FnOk Tryz.prog 176 [.own 0, i64 x1, sli 1 (List.map u32 x2)] [(0, .sl 139 1 (List.map u32 x0))] (.tup []) [(0, .sl 139 1 (List.map u32 r))] := by
 unfold m_quot_give
 refine fs Tryz.func176 fun w S0 γ hγ => ?_
 refine z [2, 31, 1, 5, 2, 30, 39, 30, 1, 7] ?_
 refine srN (fun s22 => [(0, .own 0), (1, i64 x1), (2, sli 1 (List.map u32 x2)), (6, u32 s22.2), (9, sli 1 (List.map u32 x2))]) (fun s22 => [(0, .sl 139 1 (List.map u32 s22.1))]) (rE (eR [(0, 0)])) ?_ ?_
 · intro i23 x24 s22 hx25
   refine z [7, 2, 30, 43, 42, 31, 31, 1, 6, 30, 30, 30, 40, 30, 30, 30, 40] ?_
   refine b fun y26 h27 => ?_
   refine z [50, 51, 30, 30] ?_
   refine cb (ca c_limb_Add) fun r28 => ?_
   refine z [30, 35, 35] ?_
   refine b fun y30 h31 => ?_
   refine z [50, 53, 31, 3, 11] ?_
   exact sgo (eR [(0, 0)])
 intro s32
 refine z [13, 4, 6, 30, 30, 30, 39, 40] ?_
 refine b fun y33 h34 => ?_
 refine z [50, 51, 30, 61] ?_
 refine b fun y35 h36 => ?_
 refine z [50, 53] ?_
 refine sbm (C := fun x => .sl 139 1 (List.map u32 x)) 0 rfl fun z37 => ?_
 refine z [3] ?_
 exact rt [(0, 0)]
theorem c_quot_long {n : Nat} {x0} {x1} : ∀ r, m_quot_long n x0 x1 = some r → FnOk Tryz.prog 154 [.own 0, sli 1 (List.map u32 x1)] [(0, .sl 139 1 (List.map u32 x0))] (sli 1 (List.map u32 r.1)) [(0, .sl 139 1 (List.map u32 r.2))] := by
 unfold m_quot_long
 refine fs Tryz.func154 fun w S0 γ hγ => ?_
 refine z [2] ?_
 refine s1 (asg rfl (kLm (k := 1) u32)) ?_
 refine z [1, 2, 30, 39, 31, 1, 2, 30, 55, 30, 49] ?_
 refine b fun y1 h2 => ?_
 refine so (mks (y := 100) (f := u32) h2 Tryz.underlying32 ti_139.h zr_u32 rfl rfl rfl rfl rfl rfl) ?_
 refine z [31, 1, 5, 2, 30, 55, 49, 31, 1, 7] ?_
 refine sloopE 0 (fun t => t) (fun s60 => [(0, .own 0), (1, sli 1 (List.map u32 x1)), (4, sli 1 (List.map u32 ([] : List Nat))), (5, i64 (x1.length : Int)), (6, .own 100), (7, i64 s60.2.2)]) (fun s60 => [(0, .sl 139 1 (List.map u32 s60.1)), (100, .sl 139 1 (List.map u32 s60.2.1))]) (fun t58 => [(4, sli 1 (List.map u32 ([] : List Nat))), (6, .own 100)]) (fun t58 => [(0, .sl 139 1 (List.map u32 t58.1)), (100, .sl 139 1 (List.map u32 t58.2))]) (eR [(0, 0), (100, 100)]) ?_ ?_
 · intro hj59 s60
   refine z [5, 2, 30, 57, 1] ?_
   refine c ?_ ?_
   · refine z [9, 4, 5, 7, 5] ?_
     refine b fun y61 h62 => ?_
     refine b fun y63 h64 => ?_
     refine b fun y65 h66 => ?_
     refine b fun y67 h68 => ?_
     refine b fun y69 h70 => ?_
     refine b fun r71 h72 => ?_
     refine sd ?_
     refine zd [[], [], [], [], [0], [0], [], [], [], [], [], [0], [0], [], [], [], [], [], [0], [0], [], [], [], [], [], [], [], [], [], []] ?_
     refine dd [] (fun _ _ _ _ => c0 (c_quot_guess _ h72)) ?_
     refine zd [[]] ?_
     refine de fol ?_
     refine z [4] ?_
     refine sjq (fun s79 => [(0, .own 0), (1, sli 1 (List.map u32 x1)), (4, sli 1 (List.map u32 ([] : List Nat))), (5, i64 (x1.length : Int)), (6, .own 100), (7, i64 s60.2.2), (8, u32 s79.2)]) (fun s79 => [(0, .sl 139 1 (List.map u32 s79.1)), (100, .sl 139 1 (List.map u32 s60.2.1))]) ?_ ?_
     · intro j77 hj78
       refine z [2, 30, 30, 30, 30] ?_
       refine b fun r80 h81 => ?_
       refine o (cG (c_quot_take _ h81) [0] [] []) ?_
       refine z [1] ?_
       refine c ?_ ?_
       · refine z [2, 30, 62, 31, 1, 6, 30, 30, 30] ?_
         refine b fun r82 h83 => ?_
         refine o (cG (c_quot_give _ h83) [0] [] []) ?_
         refine z [1] ?_
         exact sj (hj78 _) (eR [(0, 0), (100, 100)])
       refine z [9, 4] ?_
       exact sj (hj78 _) (eR [(0, 0), (100, 100)])
     intro s79
     refine z [6, 30, 30, 30] ?_
     refine b fun y84 h85 => ?_
     refine z [50, 53, 3, 11, 4, 6, 30, 49, 31, 3] ?_
     exact sgo (eR [(0, 0), (100, 100)])
   refine z [14, 15] ?_
   exact su (sj (hj59 _) (eR [(0, 0), (100, 100)]))
 intro t58
 refine z [13, 4, 2, 30, 31, 1, 8] ?_
 refine fz 100 [4, 6, 69] [] ?_
 exact rt [(0, 0)]
theorem c_twos_Down {n : Nat} {x0} {x1} : ∀ r, m_twos_Down n x0 x1 = some r → FnOk Tryz.prog 155 [sli 1 (List.map u32 x0), i64 x1] [] (sli 1 (List.map u32 r)) [] := by
 unfold m_twos_Down
 refine fs Tryz.func155 fun w S0 γ hγ => ?_
 refine z [2] ?_
 refine s1 (asg rfl (kLm (k := 1) u32)) ?_
 refine z [1, 2, 30, 88, 31, 1, 2, 30, 78, 30, 79, 31, 31, 1, 5, 2, 30, 30, 39, 57] ?_
 refine sbn (F := bl) 19 rfl fun z1 => ?_
 refine z [1] ?_
 refine c ?_ ?_
 · refine z [2] ?_
   refine s1 (asg rfl (kLm (k := 1) u32)) ?_
   refine z [1, 8, 10] ?_
   exact rt []
 refine z [9, 4, 2, 30, 39, 30, 49] ?_
 refine sbn (F := i64) 23 rfl fun z2 => ?_
 refine b fun y3 h4 => ?_
 refine so (mks (y := 100) (f := u32) h4 Tryz.underlying32 ti_139.h zr_u32 rfl rfl rfl rfl rfl rfl) ?_
 refine z [31, 1, 5, 2, 30, 55, 30, 1, 7] ?_
 refine srN (fun s48 => [(0, sli 1 (List.map u32 x0)), (4, sli 1 (List.map u32 ([] : List Nat))), (5, i64 (wrap64 (Int.tdiv (max x1 (0 : Int)) (32 : Int)))), (6, i64 (Int.tmod (max x1 (0 : Int)) (32 : Int))), (7, .own 100)]) (fun s48 => [(100, .sl 139 1 (List.map u32 s48))]) (rE (eR [(100, 100)])) ?_ ?_
 · intro i49 x50 s48 hx51
   refine z [7, 2, 30, 31, 1, 2, 30, 30, 30, 40] ?_
   refine sbn (F := i64) 33 rfl fun z52 => ?_
   refine b fun y53 h54 => ?_
   refine z [43, 42, 59, 31, 1] ?_
   refine sjq (fun s61 => [(0, sli 1 (List.map u32 x0)), (4, sli 1 (List.map u32 ([] : List Nat))), (5, i64 (wrap64 (Int.tdiv (max x1 (0 : Int)) (32 : Int)))), (6, i64 (Int.tmod (max x1 (0 : Int)) (32 : Int))), (7, .own 100), (8, i64 (i49 : Int)), (9, u64 s61), (26, i64 (y3.length : Int)), (27, i64 (i49 : Int))]) (fun s61 => [(100, .sl 139 1 (List.map u32 s48))]) ?_ ?_
   · intro j59 hj60
     refine z [2, 30, 30, 40] ?_
     refine sbn (F := i64) 39 rfl fun z62 => ?_
     refine z [40, 30, 39, 46, 1] ?_
     refine c ?_ ?_
     · refine z [6, 30, 30, 30, 30, 40] ?_
       refine sbn (F := i64) 48 rfl fun z63 => ?_
       refine z [40] ?_
       refine b fun y64 h65 => ?_
       refine z [43, 42, 59] ?_
       refine s1 (shlU uk64 rfl rfl rfl (k64 (x := 32) rfl)) ?_
       refine z [64, 31, 1] ?_
       exact sj (hj60 _) (eR [(100, 100)])
     refine z [9, 4] ?_
     exact sj (hj60 _) (eR [(100, 100)])
   intro s61
   refine z [6, 30, 30, 30, 30] ?_
   refine b fun _ h66 => ?_
   refine s1 (shrU uk64 (ge0 h66) rfl rfl rfl) ?_
   refine sbn (F := u64) 59 rfl fun z67 => ?_
   refine z [60] ?_
   refine b fun y68 h69 => ?_
   refine z [50, 53, 3, 11] ?_
   exact sgo (eR [(100, 100)])
 intro s70
 refine z [13, 4, 2, 30] ?_
 refine b fun r71 h72 => ?_
 refine so (callL (em := [(101, .sl 139 1 (List.map u32 r71))]) (res' := .own 101) [100] [] [(101, 50)] [(101, 50)] rfl (c_nat_Norm _ h72) ⟨pls_map (f := u32) (fun _ => pl_u32) _, trivial⟩ (pl_own) ⟨.inr ⟨100, rfl, .inl ⟨rfl, .inl ⟨_, _, _, rfl, ifs_map (f := u32) (fun _ => if_u32) s70, rfl⟩⟩⟩, trivial⟩ (MiF.get (mi := []) trivial) trivial rfl ⟨rfl, trivial⟩ ⟨.inl rfl, trivial⟩ rfl ⟨.inl ⟨_, _, rfl, rfl, rc_sl (ifs_map (f := u32) (fun _ => if_u32) r71)⟩, trivial⟩ trivial ⟨⟨_, rfl⟩, trivial⟩ (rn_own rfl) rfl) ?_
 refine z [31, 1, 8] ?_
 refine fz 101 [4, 64] [] ?_
 exact rt []
theorem c_quot_Div {n : Nat} {x0} {x1} : ∀ r, m_quot_Div n x0 x1 = some r → FnOk Tryz.prog 120 [sli 1 (List.map u32 x0), sli 1 (List.map u32 x1)] [] (.tup [sli 1 (List.map u32 r.1), sli 1 (List.map u32 r.2.1), bl r.2.2]) [] := by
 unfold m_quot_Div
 refine fs Tryz.func120 fun w S0 γ hγ => ?_
 refine z [2] ?_
 refine s1 (asg rfl (kLm (k := 1) u32)) ?_
 refine s1 (asg rfl (kLm (k := 1) u32)) ?_
 refine z [31, 1, 2, 30] ?_
 refine b fun r1 h2 => ?_
 refine o (cG (c_nat_Norm _ h2) [] [(100, 50)] []) ?_
 refine z [31, 1, 5, 7, 2, 30, 55, 41, 31, 1] ?_
 refine c ?_ ?_
 · refine z [2] ?_
   refine s1 (asg rfl (kLm (k := 1) u32)) ?_
   refine s1 (asg rfl (kLm (k := 1) u32)) ?_
   refine z [31, 1, 8, 12, 10] ?_
   exact rt []
 refine z [2, 30, 30] ?_
 refine b fun r3 h4 => ?_
 refine s1 (callL (em := []) [100] [] [] [] rfl (c_nat_Cmp _ h4) trivial (pl_i64) ⟨.inl ⟨_, rfl, rn_id if_sli⟩, .inr ⟨100, rfl, .inl ⟨rfl, .inl ⟨_, _, _, rfl, ifs_map (f := u32) (fun _ => if_u32) r1, rfl⟩⟩⟩, trivial⟩ (fun _ _ h => by cases h) trivial rfl trivial trivial rfl trivial trivial trivial (rn_id (if_i64)) rfl) ?_
 refine z [46, 31, 1] ?_
 refine c ?_ ?_
 · refine z [2, 30] ?_
   refine b fun r5 h6 => ?_
   refine o (cG (c_nat_Norm _ h6) [] [(101, 50)] []) ?_
   refine s1 (asg rfl (kLm (k := 1) u32)) ?_
   refine z [31, 31, 1, 8, 12, 10] ?_
   refine fz 101 [5, 24] [] ?_
   exact rt []
 refine z [2, 30, 55, 41, 31, 1] ?_
 refine c ?_ ?_
 · refine z [2, 30, 30] ?_
   refine b fun y7 h8 => ?_
   refine z [50, 51] ?_
   refine cb (ca c_quot_Word) fun r9 => ?_
   refine z [30, 35, 35, 35, 31, 31, 31, 1, 2, 30, 30, 59] ?_
   refine cb (ca c_nat_Of) fun r11 => ?_
   refine z [31, 31, 31, 1, 8, 12, 10] ?_
   exact rt []
 refine z [9, 11, 4, 2, 30, 30, 55, 49] ?_
 refine b fun y13 h14 => ?_
 refine z [50, 51] ?_
 refine cb (ca c_limb_Len) fun r15 => ?_
 refine z [49, 31, 1, 2, 30, 30] ?_
 refine b fun r17 h18 => ?_
 refine o (cG (c_twos_Up _ h18) [] [(101, 50)] []) ?_
 refine so (bsl (y := 102) (ls := List.map u32 ([0] : List Nat)) Tryz.underlying32 ti_139.h rfl rfl rfl rfl rfl ⟨rfl, (k32 (x := 0) rfl), (by exact rfl), (by exact rfl), trivial⟩ rfl rfl) ?_
 refine b fun y19 h20 => ?_
 refine o (app' 103) ?_
 refine z [31, 1, 2, 30, 30, 30] ?_
 refine b fun r21 h22 => ?_
 refine so (callL (em := [(104, .sl 139 1 (List.map u32 r21))]) (res' := .own 104) [100] [] [(104, 50)] [(104, 50)] rfl (c_twos_Up _ h22) ⟨pls_map (f := u32) (fun _ => pl_u32) _, trivial⟩ (pl_own) ⟨.inr ⟨100, rfl, .inl ⟨rfl, .inl ⟨_, _, _, rfl, ifs_map (f := u32) (fun _ => if_u32) r1, rfl⟩⟩⟩, .inl ⟨_, rfl, rn_id if_i64⟩, trivial⟩ (MiF.get (mi := []) trivial) trivial rfl ⟨rfl, trivial⟩ ⟨.inl rfl, trivial⟩ rfl ⟨.inl ⟨_, _, rfl, rfl, rc_sl (ifs_map (f := u32) (fun _ => if_u32) r21)⟩, trivial⟩ trivial ⟨⟨_, rfl⟩, trivial⟩ (rn_own rfl) rfl) ?_
 refine fz 104 [58] [] ?_
 refine b fun r23 h24 => ?_
 refine o (cG (c_quot_long _ h24) [103] [] []) ?_
 refine z [31, 1, 2, 30] ?_
 refine b fun r25 h26 => ?_
 refine o (cG (c_nat_Norm _ h26) [] [(105, 50)] []) ?_
 refine z [30, 30] ?_
 refine fz 103 [11, 54, 55, 62] [] ?_
 refine cb (ca c_twos_Down) fun r27 => ?_
 refine z [31, 31, 31, 1, 8] ?_
 refine fz 105 [4, 61] [] ?_
 exact rt []
theorem c_nat_Small {n : Nat} {x0} : ∀ r, m_nat_Small n x0 = some r → FnOk Tryz.prog 150 [sli 1 (List.map u32 x0)] [] (.tup [u64 r.1, bl r.2]) [] := by
 unfold m_nat_Small
 refine fs Tryz.func150 fun w S0 γ hγ => ?_
 refine z [2, 31, 31, 1, 2, 30] ?_
 refine cb (ca c_nat_trim) fun r1 => ?_
 refine z [31, 1, 5, 2, 30, 39, 47, 1] ?_
 refine c ?_ ?_
 · refine z [2, 31, 31, 1, 8, 10] ?_
   exact rt []
 refine z [9, 4, 2, 31, 1, 5, 2, 30, 39, 30, 1, 7] ?_
 refine srN (fun s16 => [(2, u64 0), (3, bl false), (4, u64 s16), (12, sli 1 (List.map u32 r1))]) (fun s16 => []) (rE eI) ?_ ?_
 · intro i17 x18 s16 hx19
   refine z [7, 2, 30, 43, 42, 31, 31, 1, 6, 30, 30, 59, 30, 76] ?_
   refine b fun _ h20 => ?_
   refine s1 (shlU uk64 (ge0 h20) rfl rfl rfl) ?_
   refine sbn (F := u64) 24 rfl fun z21 => ?_
   refine z [64, 31, 3, 11] ?_
   exact sgo eI
 intro s22
 refine z [13, 4, 2, 30, 31, 31, 1, 8] ?_
 exact rt []
theorem c_common_small {n : Nat} {x0} {x1} : ∀ r, m_common_small n x0 x1 = some r → FnOk Tryz.prog 151 [u64 x0, u64 x1] [] (u64 r) [] := by
 unfold m_common_small
 refine fs Tryz.func151 fun w S0 γ hγ => ?_
 refine z [2, 31, 1, 5, 7] ?_
 refine sloopE 0 (fun t => t) (fun s7 => [(0, u64 s7.1), (1, u64 s7.2), (4, u64 0)]) (fun s7 => []) (fun t5 => [(0, u64 t5), (4, u64 0)]) (fun t5 => []) eI ?_ ?_
 · intro hj6 s7
   refine z [5, 2, 30, 67, 1] ?_
   refine c ?_ ?_
   · refine z [9, 4, 7] ?_
     refine b fun _ h8 => ?_
     refine sd ?_
     refine zd [[], [], [], [], [], []] ?_
     refine de fol ?_
     refine z [11] ?_
     exact sgo eI
   refine z [14, 15] ?_
   exact su (sj (hj6 _) eI)
 intro t5
 refine z [13, 4, 2, 30, 31, 1, 8] ?_
 exact rt []
theorem c_common_Gcd {n : Nat} {x0} {x1} : ∀ r, m_common_Gcd n x0 x1 = some r → FnOk Tryz.prog 118 [sli 1 (List.map u32 x0), sli 1 (List.map u32 x1)] [] (sli 1 (List.map u32 r)) [] := by
 unfold m_common_Gcd
 refine fs Tryz.func118 fun w S0 γ hγ => ?_
 refine z [2] ?_
 refine s1 (asg rfl (kLm (k := 1) u32)) ?_
 refine z [1, 2, 30] ?_
 refine b fun r1 h2 => ?_
 refine o (cG (c_nat_Norm _ h2) [] [(100, 50)] []) ?_
 refine z [30] ?_
 refine b fun r3 h4 => ?_
 refine o (cG (c_nat_Norm _ h4) [] [(101, 50)] []) ?_
 refine z [31, 31, 1, 5, 7] ?_
 refine fz 100 [0, 16] [] ?_
 refine fz 101 [1, 18] [] ?_
 refine sloopE 0 (fun t => t) (fun s19 => [(0, sli 1 (List.map u32 s19.1)), (1, sli 1 (List.map u32 s19.2)), (4, sli 1 (List.map u32 ([] : List Nat)))]) (fun s19 => []) (fun t17 => [(0, sli 1 (List.map u32 t17.1)), (1, sli 1 (List.map u32 t17.2)), (4, sli 1 (List.map u32 ([] : List Nat)))]) (fun t17 => []) (eR []) ?_ ?_
 · intro hj18 s19
   refine z [5, 2, 30, 39, 47, 1] ?_
   refine c ?_ ?_
   · refine z [9, 4, 7, 2, 30, 30] ?_
     refine cb (ca c_quot_Div) fun r20 => ?_
     refine z [30, 35, 35, 35, 31, 31, 31, 1, 6, 30, 30, 31, 31, 3, 11] ?_
     exact sgo eI
   refine z [14, 15] ?_
   exact su (sj (hj18 _) eI)
 intro t17
 refine z [13, 4, 5, 2, 30, 39, 41, 1] ?_
 refine c ?_ ?_
 · refine z [2, 30, 31, 1, 8, 10] ?_
   exact rt []
 refine z [9, 4, 2, 30, 30] ?_
 refine cb (ca c_quot_Div) fun r22 => ?_
 refine z [30, 35, 35, 35, 31, 31, 31, 1, 2, 30] ?_
 refine cb (ca c_nat_Small) fun r24 => ?_
 refine z [30, 35, 35, 31, 31, 1, 2, 30] ?_
 refine cb (ca c_nat_Small) fun r26 => ?_
 refine z [30, 35, 35, 31, 31, 1, 2, 30, 30] ?_
 refine cb (ca c_common_small) fun r28 => ?_
 refine cb (ca c_nat_Of) fun r30 => ?_
 refine z [31, 1, 8] ?_
 exact rt []
theorem c_common_one {x0} : ∀ r, m_common_one x0 = some r → FnOk Tryz.prog 119 [sli 1 (List.map u32 x0)] [] (bl r) [] := by
 unfold m_common_one
 refine fs Tryz.func119 fun w S0 γ hγ => ?_
 refine z [2, 31, 1] ?_
 refine sjq (fun s5 => [(2, bl s5)]) (fun s5 => []) ?_ ?_
 · intro j3 hj4
   refine z [6, 30, 39, 41, 30] ?_
   refine sifd 6 rfl ?_ ?_
   · refine z [22] ?_
     refine b fun y6 h7 => ?_
     refine z [22, 22, 22, 38, 31, 1] ?_
     exact sj (hj4 _) eI
   refine z [23, 23, 23, 23, 37, 31, 1] ?_
   exact sj (hj4 _) eI
 intro s5
 refine z [8] ?_
 exact rt []
theorem c_common_Cancel {n : Nat} {x0} {x1} : ∀ r, m_common_Cancel n x0 x1 = some r → FnOk Tryz.prog 88 [sli 1 (List.map u32 x0), sli 1 (List.map u32 x1)] [] (.tup [sli 1 (List.map u32 r.1), sli 1 (List.map u32 r.2)]) [] := by
 unfold m_common_Cancel
 refine fs Tryz.func88 fun w S0 γ hγ => ?_
 refine z [2] ?_
 refine s1 (asg rfl (kLm (k := 1) u32)) ?_
 refine s1 (asg rfl (kLm (k := 1) u32)) ?_
 refine z [1, 2, 30, 30] ?_
 refine cb (ca c_common_Gcd) fun r1 => ?_
 refine z [31, 1, 5, 7, 2, 30, 39, 41, 31, 1] ?_
 refine c ?_ ?_
 · refine z [2] ?_
   refine s1 (asg rfl (kLm (k := 1) u32)) ?_
   refine s1 (asg rfl (kLm (k := 1) u32)) ?_
   refine z [1, 8, 12, 10] ?_
   exact rt []
 refine z [2, 30] ?_
 refine cb (ca c_common_one) fun r3 => ?_
 refine z [31, 1] ?_
 refine c ?_ ?_
 · refine z [2, 30] ?_
   refine b fun r5 h6 => ?_
   refine o (cG (c_nat_Norm _ h6) [] [(100, 50)] []) ?_
   refine z [30] ?_
   refine b fun r7 h8 => ?_
   refine o (cG (c_nat_Norm _ h8) [] [(101, 50)] []) ?_
   refine z [31, 31, 1, 8, 12, 10] ?_
   refine fz 100 [4, 18] [] ?_
   refine fz 101 [5, 20] [] ?_
   exact rt []
 refine z [9, 11, 4, 2, 30, 30] ?_
 refine cb (ca c_quot_Div) fun r9 => ?_
 refine z [30, 35, 35, 35, 31, 1, 2, 30, 30] ?_
 refine cb (ca c_quot_Div) fun r11 => ?_
 refine z [30, 35, 35, 35, 31, 1, 2, 30, 30, 31, 31, 1, 8] ?_
 exact rt []
theorem c_whole_Norm {n : Nat} {x0} : ∀ r, m_whole_Norm n x0 = some r → FnOk Tryz.prog 89 [L_whole_Whole x0] [] (L_whole_Whole r) [] := by
 unfold m_whole_Norm
 refine fs Tryz.func89 fun w S0 γ hγ => ?_
 refine z [2] ?_
 refine o (bx' 100) ?_
 refine o (al' 101) ?_
 refine z [1, 5] ?_
 refine b fun r3 h4 => ?_
 refine b fun r5 h6 => ?_
 refine sd ?_
 refine zd [[100], [100], [100], [100]] ?_
 refine dd [102] (fun _ _ _ _ => tV (cG (c_nat_Norm _ h4) [] [(102, 50)] [])) ?_
 refine dd [] (fun _ _ _ _ => c0 (c_whole_signed _ h6)) ?_
 refine zd [[101]] ?_
 refine de fol ?_
 refine z [4, 8] ?_
 exact rt []
theorem c_frac_cancel {n : Nat} {x0} {x1} : ∀ r, m_frac_cancel n x0 x1 = some r → FnOk Tryz.prog 65 [L_whole_Whole x0, sli 1 (List.map u32 x1)] [] (L_frac_Frac r) [] := by
 unfold m_frac_cancel
 refine fs Tryz.func65 fun w S0 γ hγ => ?_
 refine z [2] ?_
 refine o (bx' 100) ?_
 refine o (al' 101) ?_
 refine z [1, 2, 33, 36, 30] ?_
 refine cb (ca c_common_Cancel) fun r1 => ?_
 refine z [30, 35, 35, 31, 31, 1, 2, 33, 36, 30] ?_
 refine s1 (bld (l := [bl x0.Neg, sli 1 (List.map u32 r1.1)]) pl_52.h ti_52.h zr_whole_Whole ⟨_, _, _, rfl, rfl, rfl, rfl, (szk (k := 1) rfl rfl), ⟨_, _, _, rfl, rfl, rfl, rfl, (szk (k := 1) rfl rfl), rfl⟩⟩ rfl) ?_
 refine cb (ca c_whole_Norm) fun r3 => ?_
 refine z [30] ?_
 refine s1 (bld (l := [L_whole_Whole r3, sli 1 (List.map u32 r1.2)]) pl_54.h ti_54.h zr_frac_Frac ⟨_, _, _, rfl, rfl, rfl, rfl, (szk (k := 2) rfl rfl), ⟨_, _, _, rfl, rfl, rfl, rfl, (szk (k := 1) rfl rfl), rfl⟩⟩ rfl) ?_
 refine z [34, 1, 8] ?_
 exact rt []
theorem c_frac_New {n : Nat} {x0} {x1} : ∀ r, m_frac_New n x0 x1 = some r → FnOk Tryz.prog 181 [L_whole_Whole x0, sli 1 (List.map u32 x1)] [] (.tup [L_frac_Frac r.1, bl r.2]) [] := by
 unfold m_frac_New
 refine fs Tryz.func181 fun w S0 γ hγ => ?_
 refine z [2] ?_
 refine o (bx' 100) ?_
 refine o (al' 101) ?_
 refine z [31, 1, 5, 2, 30] ?_
 refine cb (ca c_nat_Zero) fun r1 => ?_
 refine z [1] ?_
 refine c ?_ ?_
 · refine z [2] ?_
   refine cb (ca c_frac_Of) fun r3 => ?_
   refine z [34, 31, 1, 8, 10] ?_
   exact rt []
 refine z [9, 4, 2, 32, 30] ?_
 refine cb (ca c_frac_cancel) fun r5 => ?_
 refine z [34, 31, 1, 8] ?_
 exact rt []
theorem c_figure_digitsBehind {n : Nat} {x0} {x1} : ∀ r, m_figure_digitsBehind n x0 x1 = some r → FnOk Tryz.prog 191 [str x0, i64 x1] [] (.tup [sli 1 (List.map u32 r.1), L_api_Fault r.2]) [] := by
 unfold m_figure_digitsBehind
 refine fs Tryz.func191 fun w S0 γ hγ => ?_
 refine z [2] ?_
 refine s1 (asg rfl (kLm (k := 1) u32)) ?_
 refine o (al' 100) ?_
 refine z [1, 2, 30, 30] ?_
 refine b fun y1 h2 => ?_
 refine s1 (slS h2 Tryz.underlying9 rfl rfl (bnd rfl) bnd0) ?_
 refine cb (ca c_digits_Read) fun r3 => ?_
 refine z [30, 35, 35] ?_
 refine o (al' 101) ?_
 refine z [31, 34, 1] ?_
 refine sjq (fun s7 => [(4, sli 1 (List.map u32 ([] : List Nat))), (5, .own 100), (6, sli 1 (List.map u32 r3.1)), (7, .own 101)]) (fun s7 => [(100, .bx 59 (L_api_Fault (⟨0, 0, 0, 0⟩ : M_api_Fault))), (101, .bx 59 (L_api_Fault s7))]) ?_ ?_
 · intro j5 hj6
   refine z [2, 32] ?_
   refine s1 (bld (l := [i64 0, i64 0, i64 0, i64 0]) pl_59.h ti_59.h zr_api_Fault rfl rfl) ?_
   refine s1 (neA (p := (r3.2 : M_api_Fault)) (q := ((⟨0, 0, 0, 0⟩ : M_api_Fault) : M_api_Fault)) eq_59_2 rfl eg_59 rfl rfl rfl) ?_
   refine z [1] ?_
   refine c ?_ ?_
   · refine z [6, 33, 36, 30, 40, 33] ?_
     refine o (stP (L_api_Fault (⟨r3.2.Kind, r3.2.Step, r3.2.Stage, wrap64 (r3.2.At + x1)⟩ : M_api_Fault)) [3]) ?_
     refine z [1] ?_
     exact sj (hj6 _) (eR [(100, 100), (101, 101)])
   refine z [9, 4] ?_
   exact sj (hj6 _) (eR [(100, 100), (101, 101)])
 intro s7
 refine z [5] ?_
 refine sd ?_
 refine zd [[], [101], [], [100]] ?_
 refine de fol ?_
 refine z [4, 8] ?_
 exact rt []
theorem c_figure_over {n : Nat} {x0} {x1} {x2} : ∀ r, m_figure_over n x0 x1 x2 = some r → FnOk Tryz.prog 182 [L_whole_Whole x0, str x1, i64 x2] [] (.tup [L_frac_Frac r.1, L_api_Fault r.2]) [] := by
 unfold m_figure_over
 refine fs Tryz.func182 fun w S0 γ hγ => ?_
 refine z [2] ?_
 refine o (bx' 100) ?_
 refine o (al' 101) ?_
 refine o (al' 102) ?_
 refine z [1, 2, 30, 30] ?_
 refine cb (ca c_figure_digitsBehind) fun r1 => ?_
 refine z [30, 35, 35] ?_
 refine o (al' 103) ?_
 refine z [31, 34, 1, 5, 2, 32] ?_
 refine s1 (bld (l := [i64 0, i64 0, i64 0, i64 0]) pl_59.h ti_59.h zr_api_Fault rfl rfl) ?_
 refine s1 (neA (p := (r1.2 : M_api_Fault)) (q := ((⟨0, 0, 0, 0⟩ : M_api_Fault) : M_api_Fault)) eq_59_2 rfl eg_59 rfl rfl rfl) ?_
 refine z [1] ?_
 refine c ?_ ?_
 · refine z [5] ?_
   refine b fun r3 h4 => ?_
   refine sd ?_
   refine dd [] (fun _ _ _ _ => c0 (c_frac_Of _ h4)) ?_
   refine zd [[103], [101], [102]] ?_
   refine de fol ?_
   refine z [4, 8, 10] ?_
   exact rt []
 refine z [9, 4, 2, 32, 30] ?_
 refine cb (ca c_frac_New) fun r5 => ?_
 refine z [30, 35, 35] ?_
 refine o (al' 104) ?_
 refine z [34, 31, 1, 5, 2, 30, 44, 1] ?_
 refine c ?_ ?_
 · refine z [2, 32, 30] ?_
   refine s1 (bld (l := [i64 (2 : Int), i64 0, i64 0, i64 x2]) pl_59.h ti_59.h zr_api_Fault ⟨_, _, _, (kI (x := 2) rfl), rfl, rfl, rfl, (szk (k := 1) rfl rfl), ⟨_, _, _, rfl, rfl, rfl, rfl, (szk (k := 1) rfl rfl), rfl⟩⟩ rfl) ?_
   refine z [34, 34, 1, 8, 10] ?_
   exact rt []
 refine z [9, 4, 2, 32] ?_
 refine s1 (bld (l := [i64 0, i64 0, i64 0, i64 0]) pl_59.h ti_59.h zr_api_Fault rfl rfl) ?_
 refine z [34, 34, 1, 8] ?_
 exact rt []
theorem c_strings_HasPrefix {x0} {x1} : ∀ r, m_strings_HasPrefix x0 x1 = some r → FnOk Tryz.prog 184 [str x0, str x1] [] (bl r) [] := by
 unfold m_strings_HasPrefix
 refine fs Tryz.func184 fun w S0 γ hγ => ?_
 refine z [2, 31, 1, 2, 30, 30] ?_
 refine cb (ca c_internal_stringslite_HasPrefix) fun r1 => ?_
 refine z [31, 1, 8] ?_
 exact rt []
theorem c_twos_Len {n : Nat} {x0} : ∀ r, m_twos_Len n x0 = some r → FnOk Tryz.prog 170 [sli 1 (List.map u32 x0)] [] (i64 r) [] := by
 unfold m_twos_Len
 refine fs Tryz.func170 fun w S0 γ hγ => ?_
 refine z [2, 31, 1, 2, 30] ?_
 refine b fun r1 h2 => ?_
 refine o (cG (c_nat_Norm _ h2) [] [(100, 50)] []) ?_
 refine z [31, 1, 2, 30, 55, 31, 1, 5, 2, 30, 41, 1] ?_
 refine c ?_ ?_
 · refine z [2, 31, 1, 8, 10] ?_
   exact rt []
 refine z [9, 4, 2, 30, 49, 76, 30, 30, 49] ?_
 refine b fun y3 h4 => ?_
 refine z [50, 51] ?_
 refine cb (ca c_limb_Len) fun r5 => ?_
 refine z [40] ?_
 refine sbn (F := i64) 19 rfl fun z7 => ?_
 refine z [31, 1, 8] ?_
 exact rt []
theorem c_nat_plus {n : Nat} {x0} {x1} : ∀ r, m_nat_plus n x0 x1 = some r → FnOk Tryz.prog 121 [sli 1 (List.map u32 x0), sli 1 (List.map u32 x1)] [] (sli 1 (List.map u32 r)) [] := by
 unfold m_nat_plus
 refine fs Tryz.func121 fun w S0 γ hγ => ?_
 refine z [2] ?_
 refine s1 (asg rfl (kLm (k := 1) u32)) ?_
 refine z [1] ?_
 refine sjq (fun s3 => [(0, sli 1 (List.map u32 s3.1)), (1, sli 1 (List.map u32 s3.2)), (4, sli 1 (List.map u32 ([] : List Nat)))]) (fun s3 => []) ?_ ?_
 · intro j1 hj2
   refine z [2, 30, 39, 30, 39, 46, 1] ?_
   refine c ?_ ?_
   · refine z [6, 30, 30, 31, 31, 1] ?_
     exact sj (hj2 _) eI
   refine z [9, 4] ?_
   exact sj (hj2 _) eI
 intro s3
 refine z [2, 30] ?_
 refine b fun r4 h5 => ?_
 refine o (cG (c_nat_fresh _ h5) [] [(100, 50)] []) ?_
 refine z [31, 1, 2, 31, 1, 5, 2, 30, 39, 30, 1, 7] ?_
 refine srN (fun s37 => [(0, sli 1 (List.map u32 s3.1)), (1, sli 1 (List.map u32 s3.2)), (4, sli 1 (List.map u32 ([] : List Nat))), (5, .own 100), (6, u32 s37.2)]) (fun s37 => [(100, .sl 139 1 (List.map u32 s37.1))]) (rE (eR [(100, 100)])) ?_ ?_
 · intro i38 x39 s37 hx40
   refine z [7, 2, 30, 31, 1, 2, 31, 1] ?_
   refine sjq (fun s45 => [(0, sli 1 (List.map u32 s3.1)), (1, sli 1 (List.map u32 s3.2)), (4, sli 1 (List.map u32 ([] : List Nat))), (5, .own 100), (6, u32 s37.2), (7, i64 (i38 : Int)), (8, u32 s45), (19, i64 (s3.1.length : Int)), (20, i64 (i38 : Int))]) (fun s45 => [(100, .sl 139 1 (List.map u32 s37.1))]) ?_ ?_
   · intro j43 hj44
     refine z [2, 30, 30, 39, 46, 1] ?_
     refine c ?_ ?_
     · refine z [6, 30, 30] ?_
       refine b fun y46 h47 => ?_
       refine z [43, 42, 31, 1] ?_
       exact sj (hj44 _) (eR [(100, 100)])
     refine z [9, 4] ?_
     exact sj (hj44 _) (eR [(100, 100)])
   intro s45
   refine z [6, 30, 30, 30, 30, 43, 42, 30, 30] ?_
   refine cb (ca c_limb_Add) fun r48 => ?_
   refine z [30, 35, 35] ?_
   refine b fun y50 h51 => ?_
   refine z [50, 53, 31, 3, 11] ?_
   exact sgo (eR [(100, 100)])
 intro s52
 refine z [13, 4, 2, 30, 30, 39, 30] ?_
 refine b fun y53 h54 => ?_
 refine z [50, 53, 1, 2, 30] ?_
 refine fz 100 [5, 45, 50] [] ?_
 refine cb (ca c_nat_trim) fun r55 => ?_
 refine z [31, 1, 8] ?_
 exact rt []
theorem c_nat_Add {n : Nat} {x0} : ∀ r, m_nat_Add n x0 = some r → FnOk Tryz.prog 91 [sli 1 (List.map L_S_u32 x0)] [] (sli 1 (List.map u32 r)) [] := by
 unfold m_nat_Add
 refine fs Tryz.func91 fun w S0 γ hγ => ?_
 refine z [2] ?_
 refine s1 (asg rfl (kLm (k := 1) u32)) ?_
 refine z [1, 2] ?_
 refine s1 (asg rfl (kLm (k := 1) u32)) ?_
 refine z [1, 5, 2, 30, 39, 30, 1, 7] ?_
 refine srN (fun s18 => [(2, sli 1 (List.map u32 ([] : List Nat))), (3, sli 1 (List.map u32 s18)), (6, sli 1 (List.map L_S_u32 x0))]) (fun s18 => []) (rE eI) ?_ ?_
 · intro i19 x20 s18 hx21
   refine z [7, 2, 43, 42, 31, 1, 6, 30, 30] ?_
   refine cb (ca c_nat_trim) fun r22 => ?_
   refine cb (ca c_nat_plus) fun r24 => ?_
   refine z [31, 3, 11] ?_
   exact sgo eI
 intro s26
 refine z [13, 4, 2, 30, 31, 1, 8] ?_
 exact rt []
theorem c_prod_Square {n : Nat} {x0} : ∀ r, m_prod_Square n x0 = some r → FnOk Tryz.prog 202 [sli 1 (List.map u32 x0)] [] (sli 1 (List.map u32 r)) [] := by
 unfold m_prod_Square
 refine fs Tryz.func202 fun w S0 γ hγ => ?_
 refine z [2] ?_
 refine s1 (asg rfl (kLm (k := 1) u32)) ?_
 refine z [1, 2, 30, 39, 76, 40] ?_
 refine b fun y1 h2 => ?_
 refine so (mks (y := 100) (f := u32) h2 Tryz.underlying32 ti_139.h zr_u32 rfl rfl rfl rfl rfl rfl) ?_
 refine z [31, 1, 5, 2, 30, 39, 30, 1, 7] ?_
 refine srN (fun s20 => [(0, sli 1 (List.map u32 x0)), (2, sli 1 (List.map u32 ([] : List Nat))), (3, .own 100), (15, sli 1 (List.map u32 x0))]) (fun s20 => [(100, .sl 139 1 (List.map u32 s20))]) (rE (eR [(100, 100)])) ?_ ?_
 · intro i21 x22 s20 hx23
   refine z [7, 2, 30, 43, 42, 31, 31, 1, 6, 30, 30, 76, 40, 30, 30, 40] ?_
   refine b fun y24 h25 => ?_
   refine s1 (slR (f := u32) h25 Tryz.underlying32 ti_139.h rfl rfl (bnd rfl) bnd0) ?_
   refine z [30] ?_
   refine b fun r26 h27 => ?_
   refine o (cG (c_prod_row _ h27) [100] [] []) ?_
   refine z [3, 11] ?_
   exact sgo (eR [(100, 100)])
 intro s28
 refine z [13, 4, 2, 30] ?_
 refine b fun r29 h30 => ?_
 refine so (callL (em := [(101, .sl 139 1 (List.map u32 r29))]) (res' := .own 101) [100] [] [(101, 50)] [(101, 50)] rfl (c_twos_Up _ h30) ⟨pls_map (f := u32) (fun _ => pl_u32) _, trivial⟩ (pl_own) ⟨.inr ⟨100, rfl, .inl ⟨rfl, .inl ⟨_, _, _, rfl, ifs_map (f := u32) (fun _ => if_u32) s28, rfl⟩⟩⟩, .inl ⟨_, (kI (x := 1) rfl), rn_id if_i64⟩, trivial⟩ (MiF.get (mi := []) trivial) trivial rfl ⟨rfl, trivial⟩ ⟨.inl rfl, trivial⟩ rfl ⟨.inl ⟨_, _, rfl, rfl, rc_sl (ifs_map (f := u32) (fun _ => if_u32) r29)⟩, trivial⟩ trivial ⟨⟨_, rfl⟩, trivial⟩ (rn_own rfl) rfl) ?_
 refine z [31, 1, 2, 30, 39, 76] ?_
 refine b fun y31 h32 => ?_
 refine so (mks (y := 102) (f := u32) h32 Tryz.underlying32 ti_139.h zr_u32 rfl rfl rfl rfl rfl rfl) ?_
 refine z [31, 1, 5, 2, 30, 39, 30, 1, 7] ?_
 refine srN (fun s56 => [(2, sli 1 (List.map u32 ([] : List Nat))), (6, .own 101), (7, .own 102), (39, sli 1 (List.map u32 x0))]) (fun s56 => [(101, .sl 139 1 (List.map u32 r29)), (102, .sl 139 1 (List.map u32 s56))]) (rE (eR [(101, 101), (102, 102)])) ?_ ?_
 · intro i57 x58 s56 hx59
   refine z [7, 2, 30, 43, 42, 31, 31, 1, 6, 30, 30, 76, 40, 30, 30, 76, 30, 30] ?_
   refine cb (ca c_limb_Mul) fun r60 => ?_
   refine z [30, 35, 35] ?_
   refine b fun y62 h63 => ?_
   refine z [50, 53] ?_
   refine sbm (C := fun x => .sl 139 1 (List.map u32 x)) 102 rfl fun z64 => ?_
   refine b fun y65 h66 => ?_
   refine z [50, 53, 3, 11] ?_
   exact sgo (eR [(101, 101), (102, 102)])
 intro s67
 refine z [13, 4, 2, 30, 30] ?_
 refine fz 101 [6, 62] [] ?_
 refine fz 102 [7, 63] [] ?_
 refine so (bsl (y := 103) (ls := List.map L_S_u32 ([r29, s67] : List (List Nat))) Tryz.underlying210 ti_32.h rfl rfl rfl rfl rfl ⟨rfl, rfl, (by exact rfl), (by exact rfl), rfl, rfl, (by exact rfl), (by exact rfl), trivial⟩ rfl rfl) ?_
 refine fz 103 [64] [] ?_
 refine cb (ca c_nat_Add) fun r68 => ?_
 refine z [31, 1, 8] ?_
 exact rt []
theorem c_prod_Mul {n : Nat} {x0} {x1} : ∀ r, m_prod_Mul n x0 x1 = some r → FnOk Tryz.prog 69 [sli 1 (List.map u32 x0), sli 1 (List.map u32 x1)] [] (sli 1 (List.map u32 r)) [] := by
 unfold m_prod_Mul
 refine fs Tryz.func69 fun w S0 γ hγ => ?_
 refine z [2] ?_
 refine s1 (asg rfl (kLm (k := 1) u32)) ?_
 refine z [1, 2, 30, 39, 30, 39, 40, 40] ?_
 refine b fun y1 h2 => ?_
 refine so (mks (y := 100) (f := u32) h2 Tryz.underlying32 ti_139.h zr_u32 rfl rfl rfl rfl rfl rfl) ?_
 refine z [31, 1, 5, 2, 30, 39, 30, 1, 7] ?_
 refine srN (fun s16 => [(0, sli 1 (List.map u32 x0)), (4, sli 1 (List.map u32 ([] : List Nat))), (5, .own 100), (15, sli 1 (List.map u32 x1))]) (fun s16 => [(100, .sl 139 1 (List.map u32 s16))]) (rE (eR [(100, 100)])) ?_ ?_
 · intro i17 x18 s16 hx19
   refine z [7, 2, 30, 43, 42, 31, 31, 1, 6, 30, 30, 30, 30] ?_
   refine b fun r20 h21 => ?_
   refine o (cG (c_prod_row _ h21) [100] [] []) ?_
   refine z [3, 11] ?_
   exact sgo (eR [(100, 100)])
 intro s22
 refine z [13, 4, 2, 30] ?_
 refine b fun r23 h24 => ?_
 refine so (callL (em := [(101, .sl 139 1 (List.map u32 r23))]) (res' := .own 101) [100] [] [(101, 50)] [(101, 50)] rfl (c_nat_Norm _ h24) ⟨pls_map (f := u32) (fun _ => pl_u32) _, trivial⟩ (pl_own) ⟨.inr ⟨100, rfl, .inl ⟨rfl, .inl ⟨_, _, _, rfl, ifs_map (f := u32) (fun _ => if_u32) s22, rfl⟩⟩⟩, trivial⟩ (MiF.get (mi := []) trivial) trivial rfl ⟨rfl, trivial⟩ ⟨.inl rfl, trivial⟩ rfl ⟨.inl ⟨_, _, rfl, rfl, rc_sl (ifs_map (f := u32) (fun _ => if_u32) r23)⟩, trivial⟩ trivial ⟨⟨_, rfl⟩, trivial⟩ (rn_own rfl) rfl) ?_
 refine z [31, 1, 8] ?_
 refine fz 101 [4, 29] [] ?_
 exact rt []
theorem c_prod_Pow {n : Nat} {x0} {x1} : ∀ r, m_prod_Pow n x0 x1 = some r → FnOk Tryz.prog 199 [sli 1 (List.map u32 x0), i64 x1] [] (.tup [sli 1 (List.map u32 r.1), bl r.2]) [] := by
 unfold m_prod_Pow
 refine fs Tryz.func199 fun w S0 γ hγ => ?_
 refine z [2] ?_
 refine s1 (asg rfl (kLm (k := 1) u32)) ?_
 refine z [31, 1, 2, 30] ?_
 refine cb (ca c_twos_Len) fun r1 => ?_
 refine z [31, 1, 5] ?_
 refine sjq (fun s6 => [(0, sli 1 (List.map u32 x0)), (1, i64 x1), (4, sli 1 (List.map u32 ([] : List Nat))), (5, bl false), (6, i64 r1), (22, bl s6)]) (fun s6 => []) ?_ ?_
 · intro j4 hj5
   refine z [6, 30, 46, 30] ?_
   refine sifd 13 rfl ?_ ?_
   · refine z [23, 23, 23, 24, 24, 24, 24, 23, 38, 1] ?_
     exact sj (hj5 _) eI
   refine z [22, 22, 22] ?_
   refine sifd 16 rfl ?_ ?_
   · refine z [22, 22] ?_
     refine b fun _ h7 => ?_
     refine z [22, 22, 22, 37, 1] ?_
     exact sj (hj5 _) eI
   refine z [23, 23, 23, 23, 22, 37, 1] ?_
   exact sj (hj5 _) eI
 intro s6
 refine c ?_ ?_
 · refine z [2] ?_
   refine s1 (asg rfl (kLm (k := 1) u32)) ?_
   refine z [31, 1, 8, 10] ?_
   exact rt []
 refine z [9, 4, 2] ?_
 refine cb (ca c_nat_Of) fun r8 => ?_
 refine z [31, 1, 5, 2, 30, 46, 1] ?_
 refine c ?_ ?_
 · refine sjq (fun s16 => [(0, sli 1 (List.map u32 x0)), (1, i64 x1), (4, sli 1 (List.map u32 ([] : List Nat))), (5, bl false), (7, sli 1 (List.map u32 s16))]) (fun s16 => []) ?_ ?_
   · intro j14 hj15
     refine z [2, 30, 47, 1] ?_
     refine c ?_ ?_
     · refine z [6, 30] ?_
       refine b fun r17 h18 => ?_
       refine o (cG (c_nat_Norm _ h18) [] [(100, 50)] []) ?_
       refine z [31, 3] ?_
       refine fz 100 [7, 29] [] ?_
       refine z [4] ?_
       exact sj (hj15 _) (eR [])
     refine z [9, 4] ?_
     exact sj (hj15 _) eI
   intro s16
   refine z [2, 30, 31, 31, 1, 8, 10] ?_
   exact rt []
 refine z [9, 4, 5, 2, 30, 83] ?_
 refine cb (ca c_nat_Of) fun r19 => ?_
 refine cb (ca c_twos_Len) fun r21 => ?_
 refine z [49, 31, 1, 7] ?_
 refine sloopE 0 (fun t => t) (fun s57 => [(0, sli 1 (List.map u32 x0)), (1, i64 x1), (4, sli 1 (List.map u32 ([] : List Nat))), (5, bl false), (7, sli 1 (List.map u32 s57.1)), (8, i64 s57.2)]) (fun s57 => []) (fun t55 => [(4, sli 1 (List.map u32 ([] : List Nat))), (5, bl false), (7, sli 1 (List.map u32 t55))]) (fun t55 => []) eI ?_ ?_
 · intro hj56 s57
   refine z [5, 2, 30, 57, 1] ?_
   refine c ?_ ?_
   · refine z [9, 4] ?_
     refine sjq (fun s66 => [(0, sli 1 (List.map u32 x0)), (1, i64 x1), (4, sli 1 (List.map u32 ([] : List Nat))), (5, bl false), (7, sli 1 (List.map u32 s66)), (8, i64 s57.2)]) (fun s66 => []) ?_ ?_
     · intro j64 hj65
       refine z [7, 2, 30] ?_
       refine cb (ca c_prod_Square) fun r67 => ?_
       refine z [31, 1, 2, 30, 30] ?_
       refine b fun _ h69 => ?_
       refine s1 (shrI (ge0 h69) rfl rfl rfl) ?_
       refine z [77, 41] ?_
       refine sbn (F := bl) 46 rfl fun z70 => ?_
       refine z [1] ?_
       refine c ?_ ?_
       · refine z [6, 30, 30] ?_
         refine cb (ca c_prod_Mul) fun r71 => ?_
         refine z [31, 3, 11, 4] ?_
         exact sj (hj65 _) eI
       refine z [9, 11, 4] ?_
       exact sj (hj65 _) eI
     intro s66
     refine z [6, 30, 49, 31, 3] ?_
     exact sgo eI
   refine z [14, 15] ?_
   exact su (sj (hj56 _) eI)
 intro t55
 refine z [13, 4, 2, 30, 31, 31, 1, 8] ?_
 exact rt []
theorem c_figure_tens {n : Nat} {x0} : ∀ r, m_figure_tens n x0 = some r → FnOk Tryz.prog 192 [i64 x0] [] (sli 1 (List.map u32 r)) [] := by
 unfold m_figure_tens
 refine fs Tryz.func192 fun w S0 γ hγ => ?_
 refine z [2] ?_
 refine s1 (asg rfl (kLm (k := 1) u32)) ?_
 refine z [1, 2] ?_
 refine cb (ca c_nat_Of) fun r1 => ?_
 refine z [30] ?_
 refine cb (ca c_prod_Pow) fun r3 => ?_
 refine z [30, 35, 35, 31, 31, 1, 2, 30, 31, 1, 8] ?_
 exact rt []
theorem c_figure_places {n : Nat} {x0} {x1} {x2} {x3} : ∀ r, m_figure_places n x0 x1 x2 x3 = some r → FnOk Tryz.prog 183 [L_whole_Whole x0, bl x1, str x2, i64 x3] [] (.tup [L_frac_Frac r.1, L_api_Fault r.2]) [] := by
 unfold m_figure_places
 refine fs Tryz.func183 fun w S0 γ hγ => ?_
 refine z [2] ?_
 refine o (bx' 100) ?_
 refine o (al' 101) ?_
 refine o (al' 102) ?_
 refine z [1, 2, 30, 30] ?_
 refine cb (ca c_figure_digitsBehind) fun r1 => ?_
 refine z [30, 35, 35] ?_
 refine o (al' 103) ?_
 refine z [31, 34, 1, 5, 2, 32] ?_
 refine s1 (bld (l := [i64 0, i64 0, i64 0, i64 0]) pl_59.h ti_59.h zr_api_Fault rfl rfl) ?_
 refine s1 (neA (p := (r1.2 : M_api_Fault)) (q := ((⟨0, 0, 0, 0⟩ : M_api_Fault) : M_api_Fault)) eq_59_2 rfl eg_59 rfl rfl rfl) ?_
 refine z [1] ?_
 refine c ?_ ?_
 · refine z [5] ?_
   refine b fun r3 h4 => ?_
   refine sd ?_
   refine dd [] (fun _ _ _ _ => c0 (c_frac_Of _ h4)) ?_
   refine zd [[103], [101], [102]] ?_
   refine de fol ?_
   refine z [4, 8, 10] ?_
   exact rt []
 refine z [9, 4, 2, 30, 54, 30, 49] ?_
 refine cb (ca c_figure_tens) fun r5 => ?_
 refine z [31, 1, 2, 33, 36, 30] ?_
 refine cb (ca c_prod_Mul) fun r7 => ?_
 refine z [30] ?_
 refine so (bsl (y := 104) (ls := List.map L_S_u32 ([r7, r1.1] : List (List Nat))) Tryz.underlying210 ti_32.h rfl rfl rfl rfl rfl ⟨rfl, rfl, (by exact rfl), (by exact rfl), rfl, rfl, (by exact rfl), (by exact rfl), trivial⟩ rfl rfl) ?_
 refine fz 104 [37] [] ?_
 refine cb (ca c_nat_Add) fun r9 => ?_
 refine z [31, 1, 2, 30, 30] ?_
 refine s1 (bld (l := [bl x1, sli 1 (List.map u32 r9)]) pl_52.h ti_52.h zr_whole_Whole ⟨_, _, _, rfl, rfl, rfl, rfl, (szk (k := 1) rfl rfl), ⟨_, _, _, rfl, rfl, rfl, rfl, (szk (k := 1) rfl rfl), rfl⟩⟩ rfl) ?_
 refine z [30] ?_
 refine cb (ca c_frac_New) fun r11 => ?_
 refine z [30, 35, 35] ?_
 refine o (al' 105) ?_
 refine z [34, 31, 1, 2, 32] ?_
 refine s1 (bld (l := [i64 0, i64 0, i64 0, i64 0]) pl_59.h ti_59.h zr_api_Fault rfl rfl) ?_
 refine z [34, 34, 1, 8] ?_
 exact rt []
theorem c_figure_Read {n : Nat} {x0} : ∀ r, m_figure_Read n x0 = some r → FnOk Tryz.prog 167 [str x0] [] (.tup [L_frac_Frac r.1, L_api_Fault r.2]) [] := by
 unfold m_figure_Read
 refine fs Tryz.func167 fun w S0 γ hγ => ?_
 refine z [2] ?_
 refine o (al' 100) ?_
 refine o (al' 101) ?_
 refine z [1, 2, 30] ?_
 refine cb (ca c_strings_IndexAny) fun r1 => ?_
 refine z [31, 1, 2, 30, 31, 1] ?_
 refine sjq (fun s7 => [(0, str x0), (2, .own 100), (3, .own 101), (4, i64 r1), (5, str s7)]) (fun s7 => [(100, .bx 54 (L_frac_Frac (⟨(⟨false, []⟩ : M_whole_Whole), []⟩ : M_frac_Frac))), (101, .bx 59 (L_api_Fault (⟨0, 0, 0, 0⟩ : M_api_Fault)))]) ?_ ?_
 · intro j5 hj6
   refine z [2, 30, 57, 1] ?_
   refine c ?_ ?_
   · refine z [6, 30, 30] ?_
     refine b fun y8 h9 => ?_
     refine s1 (slS h9 Tryz.underlying9 rfl rfl bnd0 (bnd rfl)) ?_
     refine z [31, 1] ?_
     exact sj (hj6 _) (eR [(100, 100), (101, 101)])
   refine z [9, 4] ?_
   exact sj (hj6 _) (eR [(100, 100), (101, 101)])
 intro s7
 refine z [2, 30] ?_
 refine cb (ca c_whole_Read) fun r10 => ?_
 refine z [30, 35, 35] ?_
 refine o (al' 102) ?_
 refine o (al' 103) ?_
 refine z [34, 34, 1, 5, 7, 2, 32] ?_
 refine s1 (bld (l := [i64 0, i64 0, i64 0, i64 0]) pl_59.h ti_59.h zr_api_Fault rfl rfl) ?_
 refine s1 (neA (p := (r10.2 : M_api_Fault)) (q := ((⟨0, 0, 0, 0⟩ : M_api_Fault) : M_api_Fault)) eq_59_2 rfl eg_59 rfl rfl rfl) ?_
 refine z [31, 1] ?_
 refine c ?_ ?_
 · refine z [5] ?_
   refine b fun r12 h13 => ?_
   refine sd ?_
   refine dd [] (fun _ _ _ _ => c0 (c_frac_Of _ h13)) ?_
   refine zd [[103], [100], [101]] ?_
   refine de fol ?_
   refine z [4, 8, 12, 10] ?_
   exact rt []
 refine z [2, 30, 46, 31, 1] ?_
 refine c ?_ ?_
 · refine z [5] ?_
   refine b fun r14 h15 => ?_
   refine b fun r16 h17 => ?_
   refine sd ?_
   refine zd [[102]] ?_
   refine dd [] (fun _ _ _ _ => c0 (c_nat_Of _ h15)) ?_
   refine dd [] (fun _ _ _ _ => c0 (c_frac_New _ h17)) ?_
   refine zd [[], [], []] ?_
   refine dd [104] (fun _ _ _ _ => al' 104) ?_
   refine zd [[104], []] ?_
   refine de fol ?_
   refine z [4, 2, 32] ?_
   refine s1 (bld (l := [i64 0, i64 0, i64 0, i64 0]) pl_59.h ti_59.h zr_api_Fault rfl rfl) ?_
   refine z [34, 34, 1, 8, 12, 10] ?_
   exact rt []
 refine z [2, 30, 30] ?_
 refine b fun y18 h19 => ?_
 refine z [90, 66, 31, 1] ?_
 refine c ?_ ?_
 · refine z [2, 32, 30, 30, 40] ?_
   refine cb (ca c_figure_over) fun r20 => ?_
   refine z [35, 35, 34, 34, 1, 8, 12, 10] ?_
   exact rt []
 refine z [9, 11, 4, 5] ?_
 refine b fun r22 h23 => ?_
 refine b fun r24 h25 => ?_
 refine sd ?_
 refine zd [[102], []] ?_
 refine dd [] (fun _ _ _ _ => c0 (c_strings_HasPrefix _ h23)) ?_
 refine zd [[], [], []] ?_
 refine dd [] (fun _ _ _ _ => c0 (c_figure_places _ h25)) ?_
 refine zd [[], [], [100], [101]] ?_
 refine de fol ?_
 refine z [4, 8] ?_
 exact rt []
theorem c_scheme_shift {x0} {x1} : ∀ r, m_scheme_shift x0 x1 = some r → FnOk Tryz.prog 135 [L_api_Fault x0, i64 x1] [] (L_api_Fault r) [] := by
 unfold m_scheme_shift
 refine fs Tryz.func135 fun w S0 γ hγ => ?_
 refine z [2] ?_
 refine o (bx' 100) ?_
 refine o (al' 101) ?_
 refine z [1] ?_
 refine sjq (fun s3 => [(2, .own 100), (4, .own 101)]) (fun s3 => [(100, .bx 59 (L_api_Fault s3)), (101, .bx 59 (L_api_Fault (⟨0, 0, 0, 0⟩ : M_api_Fault)))]) ?_ ?_
 · intro j1 hj2
   refine z [2, 32] ?_
   refine s1 (bld (l := [i64 0, i64 0, i64 0, i64 0]) pl_59.h ti_59.h zr_api_Fault rfl rfl) ?_
   refine s1 (neA (p := (x0 : M_api_Fault)) (q := ((⟨0, 0, 0, 0⟩ : M_api_Fault) : M_api_Fault)) eq_59_2 rfl eg_59 rfl rfl rfl) ?_
   refine z [1] ?_
   refine c ?_ ?_
   · refine z [6, 33, 36, 30, 40, 33] ?_
     refine o (stP (L_api_Fault (⟨x0.Kind, x0.Step, x0.Stage, wrap64 (x0.At + x1)⟩ : M_api_Fault)) [3]) ?_
     refine z [1] ?_
     exact sj (hj2 _) (eR [(100, 100), (101, 101)])
   refine z [9, 4] ?_
   exact sj (hj2 _) (eR [(100, 100), (101, 101)])
 intro s3
 refine z [2, 32, 34, 1, 8] ?_
 exact rt []
theorem c_row_Read {n : Nat} {x0} : ∀ r, m_row_Read n x0 = some r → FnOk Tryz.prog 134 [str x0] [] (.tup [sli 3 (List.map L_frac_Frac r.1), L_api_Fault r.2]) [] := by
 unfold m_row_Read
 refine fs Tryz.func134 fun w S0 γ hγ => ?_
 refine z [2] ?_
 refine s1 (asg rfl (kLm (k := 3) L_frac_Frac)) ?_
 refine o (al' 100) ?_
 refine z [1, 5, 2, 30, 72, 1] ?_
 refine c ?_ ?_
 · refine z [2] ?_
   refine s1 (bld (l := [i64 0, i64 0, i64 0, i64 0]) pl_59.h ti_59.h zr_api_Fault rfl rfl) ?_
   refine s1 (asg rfl (kLm (k := 3) L_frac_Frac)) ?_
   refine z [34, 1, 8, 10] ?_
   exact rt []
 refine z [9, 4, 2] ?_
 refine so (asgN (y := 101) (E := 54) (k := 3) rfl rfl) ?_
 refine z [1, 2, 31, 1, 5, 2, 30] ?_
 refine cb (ca c_strings_Split) fun r1 => ?_
 refine z [39, 30, 1, 7] ?_
 refine srN (fun s20 => [(2, sli 3 (List.map L_frac_Frac ([] : List M_frac_Frac))), (3, .own 100), (4, .own 101), (5, i64 s20.2), (14, sli 1 (List.map str r1))]) (fun s20 => [(100, .bx 59 (L_api_Fault (⟨0, 0, 0, 0⟩ : M_api_Fault))), (101, .sl 54 3 (List.map L_frac_Frac s20.1))]) (rE (eR [(100, 100), (101, 101)])) ?_ ?_
 · intro i21 x22 s20 hx23
   refine z [7, 2, 43, 42, 31, 1, 2, 30] ?_
   refine cb (ca c_figure_Read) fun r24 => ?_
   refine z [30, 35, 35] ?_
   refine o (al' 102) ?_
   refine o (al' 103) ?_
   refine z [34, 34, 1, 5, 2, 32] ?_
   refine s1 (bld (l := [i64 0, i64 0, i64 0, i64 0]) pl_59.h ti_59.h zr_api_Fault rfl rfl) ?_
   refine s1 (neA (p := (r24.2 : M_api_Fault)) (q := ((⟨0, 0, 0, 0⟩ : M_api_Fault) : M_api_Fault)) eq_59_2 rfl eg_59 rfl rfl rfl) ?_
   refine z [1] ?_
   refine c ?_ ?_
   · refine z [2, 33, 36, 30, 40, 33] ?_
     refine o (stP (L_api_Fault (⟨r24.2.Kind, r24.2.Step, r24.2.Stage, wrap64 (r24.2.At + s20.2)⟩ : M_api_Fault)) [3]) ?_
     refine z [1, 5] ?_
     refine sd ?_
     refine zd [[103]] ?_
     refine dx [] [] (fun st mm _ _ => og (asg rfl (kLm (k := 3) L_frac_Frac))) ?_
     refine zd [[100]] ?_
     refine de fol ?_
     refine z [4, 8, 10, 12] ?_
     refine sU ?_
     refine z [12, 10] ?_
     exact rt []
   refine z [9, 4, 2, 30, 32] ?_
   refine so (bsl (y := 104) (ls := List.map L_frac_Frac ([r24.1] : List M_frac_Frac)) Tryz.underlying43 ti_54.h rfl rfl rfl rfl rfl ⟨rfl, rfl, (by exact rfl), (by exact rfl), trivial⟩ rfl rfl) ?_
   refine b fun y26 h27 => ?_
   refine o (app' 105) ?_
   refine z [31, 1, 6, 30, 30, 54, 40, 40, 31, 3, 11] ?_
   exact sgo (eR [(100, 100), (101, 105)])
 intro s28
 refine z [13, 4, 2, 30] ?_
 refine s1 (bld (l := [i64 0, i64 0, i64 0, i64 0]) pl_59.h ti_59.h zr_api_Fault rfl rfl) ?_
 refine z [31, 34, 1, 8] ?_
 refine fz 101 [2, 4, 44] [] ?_
 exact rt []
theorem c_scheme_stage {n : Nat} {x0} {x1} : ∀ r, m_scheme_stage n x0 x1 = some r → FnOk Tryz.prog 132 [str x0, i64 x1] [] (.tup [L_frac_Frac r.1, sli 3 (List.map L_frac_Frac r.2.1), L_api_Fault r.2.2]) [] := by
 unfold m_scheme_stage
 refine fs Tryz.func132 fun w S0 γ hγ => ?_
 refine z [2] ?_
 refine o (al' 100) ?_
 refine s1 (asg rfl (kLm (k := 3) L_frac_Frac)) ?_
 refine o (al' 101) ?_
 refine z [1, 2, 30] ?_
 refine cb (ca c_strings_Cut) fun r1 => ?_
 refine z [30, 35, 35, 35, 31, 31, 31, 1, 2, 30] ?_
 refine cb (ca c_figure_Read) fun r3 => ?_
 refine z [30, 35, 35] ?_
 refine o (al' 102) ?_
 refine o (al' 103) ?_
 refine z [34, 34, 1, 5, 2, 32] ?_
 refine s1 (bld (l := [i64 0, i64 0, i64 0, i64 0]) pl_59.h ti_59.h zr_api_Fault rfl rfl) ?_
 refine s1 (neA (p := (r3.2 : M_api_Fault)) (q := ((⟨0, 0, 0, 0⟩ : M_api_Fault) : M_api_Fault)) eq_59_2 rfl eg_59 rfl rfl rfl) ?_
 refine z [1] ?_
 refine c ?_ ?_
 · refine z [5] ?_
   refine b fun r5 h6 => ?_
   refine sd ?_
   refine zd [[102], [103], []] ?_
   refine dd [] (fun _ _ _ _ => c0 (c_scheme_shift _ h6)) ?_
   refine zd [[100]] ?_
   refine dx [] [] (fun st mm _ _ => og (asg rfl (kLm (k := 3) L_frac_Frac))) ?_
   refine zd [[101]] ?_
   refine de fol ?_
   refine z [4, 8, 10] ?_
   exact rt []
 refine z [9, 4, 2, 30] ?_
 refine cb (ca c_row_Read) fun r7 => ?_
 refine z [30, 35, 35, 31, 34, 1, 5] ?_
 refine b fun r9 h10 => ?_
 refine sd ?_
 refine zd [[102], [], [103], [], [], [], [], []] ?_
 refine dd [] (fun _ _ _ _ => c0 (c_scheme_shift _ h10)) ?_
 refine zd [[100], [], [101]] ?_
 refine de fol ?_
 refine z [4, 8] ?_
 exact rt []
theorem c___scheme_reader__stages {n : Nat} {x0} {x1} {x2_Name} {x2_C} {x2_A} {x2_B} {x2_E} : ∀ r, m___scheme_reader__stages n x0 x1 x2_Name x2_C x2_A x2_B x2_E = some r → FnOk Tryz.prog 99 [.own 0, str x1, .own 1] [(0, .bx 188 (L_scheme_reader x0)), (1, .bx 46 (.agg [str x2_Name, .own 2, .own 3, sli 3 (List.map L_frac_Frac x2_B), sli 3 (List.map L_frac_Frac x2_E)])), (2, .sl 54 3 (List.map L_frac_Frac x2_C)), (3, .sl 43 1 (List.map L_S_frac_Frac x2_A))] (L_api_Fault r.1) [(0, .bx 188 (L_scheme_reader r.2.1)), (1, .bx 46 (.agg [str r.2.2.1, .own 62, .own 63, sli 3 (List.map L_frac_Frac r.2.2.2.1), sli 3 (List.map L_frac_Frac r.2.2.2.2.1)])), (2, .gone), (3, .gone), (62, .sl 54 3 (List.map L_frac_Frac r.2.2.2.2.2.1)), (63, .sl 43 1 (List.map L_S_frac_Frac r.2.2.2.2.2.2))] := by
 unfold m___scheme_reader__stages
 refine fs Tryz.func99 fun w S0 γ hγ => ?_
 refine z [2] ?_
 refine o (al' 100) ?_
 refine z [1, 7] ?_
 refine sloop0 (fun s29 => [(0, .own 0), (1, str x1), (2, .own 1), (6, .own 100)]) (fun s29 => [(2, .gone), (3, .gone), (0, .bx 188 (L_scheme_reader s29.1)), (1, .bx 46 (.agg [str x2_Name, .own 101, .own 102, sli 3 (List.map L_frac_Frac x2_B), sli 3 (List.map L_frac_Frac x2_E)])), (101, .sl 54 3 (List.map L_frac_Frac s29.2.1)), (102, .sl 43 1 (List.map L_S_frac_Frac s29.2.2)), (100, .bx 59 (L_api_Fault (⟨0, 0, 0, 0⟩ : M_api_Fault)))]) (eR [(2, 2), (3, 3), (0, 0), (1, 1), (101, 2), (102, 3), (100, 100)]) ?_
 intro s29
 refine z [7, 2, 30] ?_
 refine b fun r30 h31 => ?_
 refine o (cG (c___scheme_reader__line _ h31) [0] [] []) ?_
 refine z [30, 35, 35, 35, 31, 31, 31, 1, 5, 2, 30, 44, 1] ?_
 refine c ?_ ?_
 · refine z [2] ?_
   refine s1 (bld (l := [i64 0, i64 0, i64 0, i64 0]) pl_59.h ti_59.h zr_api_Fault rfl rfl) ?_
   refine z [34, 1, 8, 10, 12] ?_
   refine sU ?_
   refine z [12] ?_
   exact rt [(0, 0), (1, 1), (2, 2), (3, 3), (62, 101), (63, 102)]
 refine z [9, 4, 5, 2, 30] ?_
 refine cb (ca c_strings_Contains) fun r32 => ?_
 refine z [44, 1] ?_
 refine c ?_ ?_
 · refine z [2, 30, 30, 30] ?_
   refine b fun r34 h35 => ?_
   refine o (cG (c___scheme_reader__back _ h35) [0] [] []) ?_
   refine z [1, 2] ?_
   refine s1 (bld (l := [i64 0, i64 0, i64 0, i64 0]) pl_59.h ti_59.h zr_api_Fault rfl rfl) ?_
   refine z [34, 1, 8, 10, 12] ?_
   refine sU ?_
   refine z [12] ?_
   exact rt [(0, 0), (1, 1), (2, 2), (3, 3), (62, 101), (63, 102)]
 refine z [9, 4, 2, 30, 30] ?_
 refine cb (ca c_scheme_stage) fun r36 => ?_
 refine z [30, 35, 35, 35] ?_
 refine o (al' 103) ?_
 refine o (al' 104) ?_
 refine z [34, 31, 34, 1, 5, 2, 32] ?_
 refine s1 (bld (l := [i64 0, i64 0, i64 0, i64 0]) pl_59.h ti_59.h zr_api_Fault rfl rfl) ?_
 refine s1 (neA (p := (r36.2.2 : M_api_Fault)) (q := ((⟨0, 0, 0, 0⟩ : M_api_Fault) : M_api_Fault)) eq_59_2 rfl eg_59 rfl rfl rfl) ?_
 refine z [1] ?_
 refine c ?_ ?_
 · refine z [2, 32, 34, 1, 8, 10, 12] ?_
   refine sU ?_
   refine z [12] ?_
   exact rt [(0, 0), (1, 1), (2, 2), (3, 3), (62, 101), (63, 102)]
 refine z [9, 4, 5] ?_
 refine b fun y38 h39 => ?_
 refine sd ?_
 refine zd [[], [], [1], [1], [1], [103]] ?_
 refine dx [46] [105] (fun st mm ⟨a46, _⟩ ⟨g105, _⟩ => og (bsl (y := 105) (ls := List.map L_frac_Frac ([r36.1] : List M_frac_Frac)) Tryz.underlying43 ti_54.h rfl rfl rfl rfl rfl ⟨rfl, (a46.trans rfl), (by exact rfl), (by exact rfl), trivial⟩ (g105.trans rfl) rfl)) ?_
 refine dd [101, 105, 106] (fun _ _ _ _ => app' 106) ?_
 refine zd [[1], [1]] ?_
 refine dd [1] (fun _ _ _ _ => stP (.agg [str x2_Name, .own 106, .own 102, sli 3 (List.map L_frac_Frac x2_B), sli 3 (List.map L_frac_Frac x2_E)]) [1]) ?_
 refine de fol ?_
 refine z [4, 6, 30, 30, 48, 33, 36, 30] ?_
 refine so (bsl (y := 107) (ls := List.map L_S_frac_Frac ([r36.2.1] : List (List M_frac_Frac))) Tryz.underlying44 ti_43.h rfl rfl rfl rfl rfl ⟨rfl, rfl, (by exact rfl), (by exact rfl), trivial⟩ rfl rfl) ?_
 refine b fun y40 h41 => ?_
 refine o (app' 108) ?_
 refine z [48, 33] ?_
 refine o (stP (.agg [str x2_Name, .own 106, .own 108, sli 3 (List.map L_frac_Frac x2_B), sli 3 (List.map L_frac_Frac x2_E)]) [2]) ?_
 refine z [3, 11] ?_
 exact sgo (eR [(2, 2), (3, 3), (0, 0), (1, 1), (101, 106), (102, 108), (100, 100)])
theorem c___scheme_reader__weights {n : Nat} {x0} {x1} : ∀ r, m___scheme_reader__weights n x0 x1 = some r → FnOk Tryz.prog 100 [.own 0, str x1] [(0, .bx 188 (L_scheme_reader x0))] (.tup [sli 3 (List.map L_frac_Frac r.1), L_api_Fault r.2.1]) [(0, .bx 188 (L_scheme_reader r.2.2))] := by
 unfold m___scheme_reader__weights
 refine fs Tryz.func100 fun w S0 γ hγ => ?_
 refine z [2] ?_
 refine s1 (asg rfl (kLm (k := 3) L_frac_Frac)) ?_
 refine o (al' 100) ?_
 refine z [1, 2, 30] ?_
 refine b fun r1 h2 => ?_
 refine o (cG (c___scheme_reader__line _ h2) [0] [] []) ?_
 refine z [30, 35, 35, 35, 31, 31, 31, 1, 2, 30, 30] ?_
 refine b fun y3 h4 => ?_
 refine z [91] ?_
 refine cb (ca c_strings_CutPrefix) fun r5 => ?_
 refine z [30, 35, 35, 31, 31, 1, 5, 2, 30, 44, 1] ?_
 refine c ?_ ?_
 · refine z [2, 30] ?_
   refine s1 (bld (l := [i64 (1 : Int), i64 0, i64 0, i64 r1.2.1]) pl_59.h ti_59.h zr_api_Fault ⟨_, _, _, (kI (x := 1) rfl), rfl, rfl, rfl, (szk (k := 1) rfl rfl), ⟨_, _, _, rfl, rfl, rfl, rfl, (szk (k := 1) rfl rfl), rfl⟩⟩ rfl) ?_
   refine s1 (asg rfl (kLm (k := 3) L_frac_Frac)) ?_
   refine z [34, 1, 8, 10] ?_
   exact rt [(0, 0)]
 refine z [9, 4, 2, 30] ?_
 refine cb (ca c_row_Read) fun r7 => ?_
 refine z [30, 35, 35] ?_
 refine o (al' 101) ?_
 refine z [31, 34, 1, 2, 30, 32, 30, 30, 54, 40, 40] ?_
 refine cb (ca c_scheme_shift) fun r9 => ?_
 refine z [31, 34, 1, 8] ?_
 exact rt [(0, 0)]
theorem c_scheme_read {n : Nat} {x0} : ∀ r, m_scheme_read n x0 = some r → FnOk Tryz.prog 72 [str x0] [] (.tup [L_scheme_Scheme r.1, L_api_Fault r.2]) [] := by
 unfold m_scheme_read
 refine fs Tryz.func72 fun w S0 γ hγ => ?_
 refine z [2] ?_
 refine o (al' 100) ?_
 refine o (al' 101) ?_
 refine z [1, 2] ?_
 refine so (alOw (y := 102) (ly := .agg [str [], .own 103, .own 104, sli 3 (List.map L_frac_Frac []), sli 3 (List.map L_frac_Frac [])]) [(103, 54, 3), (104, 43, 1)] ti_46.h (zo_agg (zos_cons (c1 := [.string ⟨#[]⟩]) (zo_of zr_str) (zos_cons (c1 := [.slice none 0 0]) (zo_own rfl) (zos_cons (c1 := [.slice none 0 0]) (zo_own rfl) (zos_cons (c1 := [.slice none 0 0]) (zo_of (zr_sli (k := 3))) (zos_cons (c1 := [.slice none 0 0]) (zo_of (zr_sli (k := 3))) (zos_nil))))))) ⟨rfl, rfl, trivial⟩ rfl rfl rfl) ?_
 refine z [1, 2, 30] ?_
 refine s1 (bld (l := [str x0, i64 0, bl false]) pl_188.h ti_188.h zr_scheme_reader ⟨_, _, _, rfl, rfl, rfl, rfl, (szk (k := 1) rfl rfl), rfl⟩ rfl) ?_
 refine o (bx' 105) ?_
 refine z [31, 1, 2, 30] ?_
 refine b fun r1 h2 => ?_
 refine o (cG (c___scheme_reader__line _ h2) [105] [] []) ?_
 refine z [30, 35, 35, 35, 33] ?_
 refine o (stP (.agg [str r1.1, .own 103, .own 104, sli 3 (List.map L_frac_Frac []), sli 3 (List.map L_frac_Frac [])]) [0]) ?_
 refine z [1, 5, 2, 33, 36] ?_
 refine s1 (bld (l := [i64 (2 : Int), str r1.1, i64 0]) pl_193.h ti_193.h zr_lex_Word ⟨_, _, _, (kI (x := 2) rfl), rfl, rfl, rfl, (szk (k := 1) rfl rfl), ⟨_, _, _, rfl, rfl, rfl, rfl, (szk (k := 1) rfl rfl), rfl⟩⟩ rfl) ?_
 refine cb (ca c_lex_Right) fun r3 => ?_
 refine z [44, 1] ?_
 refine c ?_ ?_
 · refine z [2, 32] ?_
   refine s1 (bld (l := [i64 (1 : Int), i64 0, i64 0, i64 0]) pl_59.h ti_59.h zr_api_Fault ⟨_, _, _, (kI (x := 1) rfl), rfl, rfl, rfl, (szk (k := 1) rfl rfl), rfl⟩ rfl) ?_
   refine z [34, 34, 1, 8, 10] ?_
   refine fz 103 [22] [100, 102] ?_
   refine fz 104 [22] [100, 102] ?_
   exact rt []
 refine z [9, 4, 2, 30, 30] ?_
 refine b fun r5 h6 => ?_
 refine o (cG (c___scheme_reader__stages _ h6) [105, 102, 103, 104] [(106, 62), (107, 63)] []) ?_
 refine o (al' 108) ?_
 refine z [34, 1, 5, 2, 32] ?_
 refine s1 (bld (l := [i64 0, i64 0, i64 0, i64 0]) pl_59.h ti_59.h zr_api_Fault rfl rfl) ?_
 refine s1 (neA (p := (r5.1 : M_api_Fault)) (q := ((⟨0, 0, 0, 0⟩ : M_api_Fault) : M_api_Fault)) eq_59_2 rfl eg_59 rfl rfl rfl) ?_
 refine z [1] ?_
 refine c ?_ ?_
 · refine z [5] ?_
   refine sd ?_
   refine zd [[102], [108], [100], [101]] ?_
   refine de fol ?_
   refine z [4, 8, 10] ?_
   refine fz 106 [30] [100, 102] ?_
   refine fz 107 [30] [100, 102] ?_
   exact rt []
 refine z [9, 4, 5, 2, 30] ?_
 refine b fun r7 h8 => ?_
 refine o (cG (c___scheme_reader__weights _ h8) [105] [] []) ?_
 refine z [30, 35, 35, 33] ?_
 refine o (stP (.agg [str r5.2.2.1, .own 106, .own 107, sli 3 (List.map L_frac_Frac r7.1), sli 3 (List.map L_frac_Frac r5.2.2.2.2.1)]) [3]) ?_
 refine z [34, 1] ?_
 refine sjq (fun s11 => [(2, .own 100), (3, .own 101), (4, .own 102), (5, .own 105), (6, .own 108), (46, bl s11)]) (fun s11 => [(100, .bx 46 (L_scheme_Scheme (⟨[], [], [], [], []⟩ : M_scheme_Scheme))), (101, .bx 59 (L_api_Fault (⟨0, 0, 0, 0⟩ : M_api_Fault))), (102, .bx 46 (.agg [str r5.2.2.1, .own 106, .own 107, sli 3 (List.map L_frac_Frac r7.1), sli 3 (List.map L_frac_Frac r5.2.2.2.2.1)])), (106, .sl 54 3 (List.map L_frac_Frac r5.2.2.2.2.2.1)), (107, .sl 43 1 (List.map L_S_frac_Frac r5.2.2.2.2.2.2)), (105, .bx 188 (L_scheme_reader r7.2.2)), (108, .bx 59 (L_api_Fault r7.2.1))]) ?_ ?_
 · intro j9 hj10
   refine z [6, 32] ?_
   refine s1 (bld (l := [i64 0, i64 0, i64 0, i64 0]) pl_59.h ti_59.h zr_api_Fault rfl rfl) ?_
   refine s1 (neA (p := (r7.2.1 : M_api_Fault)) (q := ((⟨0, 0, 0, 0⟩ : M_api_Fault) : M_api_Fault)) eq_59_2 rfl eg_59 rfl rfl rfl) ?_
   refine z [30] ?_
   refine sifd 41 rfl ?_ ?_
   · refine z [23, 23, 23, 23, 38, 1] ?_
     exact sj (hj10 _) (eR [(100, 100), (101, 101), (102, 102), (106, 106), (107, 107), (105, 105), (108, 108)])
   refine z [22, 22, 22, 22, 37, 1] ?_
   exact sj (hj10 _) (eR [(100, 100), (101, 101), (102, 102), (106, 106), (107, 107), (105, 105), (108, 108)])
 intro s11
 refine c ?_ ?_
 · refine z [5] ?_
   refine sd ?_
   refine zd [[102], [108], [100], [101]] ?_
   refine de fol ?_
   refine z [4, 8, 10] ?_
   refine fz 106 [47] [100, 102] ?_
   refine fz 107 [47] [100, 102] ?_
   exact rt []
 refine z [9, 4, 5, 2, 30] ?_
 refine b fun r12 h13 => ?_
 refine o (cG (c___scheme_reader__weights _ h13) [105] [] []) ?_
 refine z [30, 35, 35, 33] ?_
 refine o (stP (.agg [str r5.2.2.1, .own 106, .own 107, sli 3 (List.map L_frac_Frac r7.1), sli 3 (List.map L_frac_Frac r12.1)]) [4]) ?_
 refine z [34, 1] ?_
 refine sjq (fun s16 => [(2, .own 100), (3, .own 101), (4, .own 102), (5, .own 105), (6, .own 108), (63, bl s16)]) (fun s16 => [(100, .bx 46 (L_scheme_Scheme (⟨[], [], [], [], []⟩ : M_scheme_Scheme))), (101, .bx 59 (L_api_Fault (⟨0, 0, 0, 0⟩ : M_api_Fault))), (102, .bx 46 (.agg [str r5.2.2.1, .own 106, .own 107, sli 3 (List.map L_frac_Frac r7.1), sli 3 (List.map L_frac_Frac r12.1)])), (106, .sl 54 3 (List.map L_frac_Frac r5.2.2.2.2.2.1)), (107, .sl 43 1 (List.map L_S_frac_Frac r5.2.2.2.2.2.2)), (105, .bx 188 (L_scheme_reader r12.2.2)), (108, .bx 59 (L_api_Fault r12.2.1))]) ?_ ?_
 · intro j14 hj15
   refine z [6, 32] ?_
   refine s1 (bld (l := [i64 0, i64 0, i64 0, i64 0]) pl_59.h ti_59.h zr_api_Fault rfl rfl) ?_
   refine s1 (neA (p := (r12.2.1 : M_api_Fault)) (q := ((⟨0, 0, 0, 0⟩ : M_api_Fault) : M_api_Fault)) eq_59_2 rfl eg_59 rfl rfl rfl) ?_
   refine z [30] ?_
   refine sifd 58 rfl ?_ ?_
   · refine z [23, 23, 23, 23, 38, 1] ?_
     exact sj (hj15 _) (eR [(100, 100), (101, 101), (102, 102), (106, 106), (107, 107), (105, 105), (108, 108)])
   refine z [22, 22, 22, 22, 37, 1] ?_
   exact sj (hj15 _) (eR [(100, 100), (101, 101), (102, 102), (106, 106), (107, 107), (105, 105), (108, 108)])
 intro s16
 refine c ?_ ?_
 · refine z [5] ?_
   refine sd ?_
   refine zd [[102], [108], [100], [101]] ?_
   refine de fol ?_
   refine z [4, 8, 10] ?_
   refine fz 106 [64] [100, 102] ?_
   refine fz 107 [64] [100, 102] ?_
   exact rt []
 refine z [9, 4, 5] ?_
 refine sd ?_
 refine zd [[102], [], [105], [105], [105]] ?_
 refine dx [70] [] (fun st mm ⟨a70, _⟩ _ => og (bld (l := [i64 (1 : Int), i64 0, i64 0, i64 r12.2.2.at_]) pl_59.h ti_59.h zr_api_Fault ⟨_, _, _, (kI (x := 1) rfl), rfl, rfl, rfl, (szk (k := 1) rfl rfl), ⟨_, _, _, (a70.trans rfl), rfl, rfl, rfl, (szk (k := 1) rfl rfl), rfl⟩⟩ rfl)) ?_
 refine zd [[100], [101]] ?_
 refine de fol ?_
 refine z [4, 8] ?_
 refine fz 106 [66] [100, 102] ?_
 refine fz 107 [66] [100, 102] ?_
 exact rt []
theorem c_scheme_shape {x0} : ∀ r, m_scheme_shape x0 = some r → FnOk Tryz.prog 101 [L_scheme_Scheme x0] [] (bl r) [] := by
 unfold m_scheme_shape
 refine fs Tryz.func101 fun w S0 γ hγ => ?_
 refine z [2] ?_
 refine o (bx' 100) ?_
 refine z [31, 1, 2, 33, 36, 39, 31, 1, 5] ?_
 refine sjq (fun s3 => [(1, .own 100), (2, bl false), (41, bl s3)]) (fun s3 => [(100, .bx 46 (L_scheme_Scheme x0))]) ?_ ?_
 · intro j1 hj2
   refine z [6, 30, 46, 30] ?_
   refine sifd 11 rfl ?_ ?_
   · refine z [23, 23, 38, 30, 23, 23, 23, 23, 23, 38, 30, 23, 23, 23, 23, 23, 38, 30, 23, 23, 23, 23, 23, 23, 24, 24, 24, 24, 23, 38, 1] ?_
     exact sj (hj2 _) (eR [(100, 100)])
   refine z [22, 22, 37, 30] ?_
   refine sifd 15 rfl ?_ ?_
   · refine z [23, 23, 23, 23, 23, 38, 30, 23, 23, 23, 23, 23, 38, 30, 23, 23, 23, 23, 23, 23, 24, 24, 24, 24, 23, 38, 1] ?_
     exact sj (hj2 _) (eR [(100, 100)])
   refine z [22, 22, 22, 22, 22, 37, 30] ?_
   refine sifd 22 rfl ?_ ?_
   · refine z [23, 23, 23, 23, 23, 38, 30, 23, 23, 23, 23, 23, 23, 24, 24, 24, 24, 23, 38, 1] ?_
     exact sj (hj2 _) (eR [(100, 100)])
   refine z [22, 22, 22, 22, 22, 37, 30] ?_
   refine sifd 29 rfl ?_ ?_
   · refine z [23, 23, 23, 23, 23, 23, 24, 24, 24, 24, 23, 38, 1] ?_
     exact sj (hj2 _) (eR [(100, 100)])
   refine z [22, 22, 22, 22, 22, 22] ?_
   refine sifd 35 rfl ?_ ?_
   · refine z [22, 22, 22, 22, 22, 37, 1] ?_
     exact sj (hj2 _) (eR [(100, 100)])
   refine z [23, 23, 23, 23, 22, 37, 1] ?_
   exact sj (hj2 _) (eR [(100, 100)])
 intro s3
 refine c ?_ ?_
 · refine z [2, 31, 1, 8, 10] ?_
   exact rt []
 refine z [9, 4, 5, 2, 33, 36, 39, 30, 1, 7] ?_
 refine srN (fun s9 => [(2, bl false), (43, sli 1 (List.map L_S_frac_Frac x0.A))]) (fun s9 => []) (rE (eR [])) ?_ ?_
 · intro i10 x11 s9 hx12
   refine z [7, 2, 30, 43, 42, 31, 31, 1, 2, 30, 39, 30, 56, 1] ?_
   refine c ?_ ?_
   · refine z [2, 31, 1, 8, 12] ?_
     refine sU ?_
     refine z [12, 10] ?_
     exact rt []
   refine z [9, 11] ?_
   exact sgo eI
 intro s13
 refine z [13, 4, 2, 31, 1, 8] ?_
 exact rt []
theorem c_frac_parts {n : Nat} {x0} : ∀ r, m_frac_parts n x0 = some r → FnOk Tryz.prog 35 [L_frac_Frac x0] [] (.tup [L_whole_Whole r.1, sli 1 (List.map u32 r.2)]) [] := by
 unfold m_frac_parts
 refine fs Tryz.func35 fun w S0 γ hγ => ?_
 refine z [2] ?_
 refine o (bx' 100) ?_
 refine o (al' 101) ?_
 refine s1 (asg rfl (kLm (k := 1) u32)) ?_
 refine z [1, 5, 2, 33, 36] ?_
 refine cb (ca c_nat_Zero) fun r1 => ?_
 refine z [1] ?_
 refine c ?_ ?_
 · refine z [2] ?_
   refine s1 (bld (l := [bl false, sli 1 (List.map u32 [])]) pl_52.h ti_52.h zr_whole_Whole rfl rfl) ?_
   refine cb (ca c_nat_Of) fun r3 => ?_
   refine z [34, 31, 1, 8, 10] ?_
   exact rt []
 refine z [9, 4, 5] ?_
 refine sd ?_
 refine zd [[100], [100], [100], [100], [101], []] ?_
 refine de fol ?_
 refine z [4, 8] ?_
 exact rt []
theorem c_frac_Norm {n : Nat} {x0} : ∀ r, m_frac_Norm n x0 = some r → FnOk Tryz.prog 42 [L_frac_Frac x0] [] (L_frac_Frac r) [] := by
 unfold m_frac_Norm
 refine fs Tryz.func42 fun w S0 γ hγ => ?_
 refine z [2] ?_
 refine o (bx' 100) ?_
 refine o (al' 101) ?_
 refine z [1, 2, 32] ?_
 refine cb (ca c_frac_parts) fun r1 => ?_
 refine z [35, 35] ?_
 refine cb (ca c_frac_cancel) fun r3 => ?_
 refine z [34, 1, 8] ?_
 exact rt []
theorem c_frac_Right {n : Nat} {x0} : ∀ r, m_frac_Right n x0 = some r → FnOk Tryz.prog 136 [L_frac_Frac x0] [] (bl r) [] := by
 unfold m_frac_Right
 refine fs Tryz.func136 fun w S0 γ hγ => ?_
 refine z [2] ?_
 refine o (bx' 100) ?_
 refine z [31, 1, 2, 32] ?_
 refine cb (ca c_frac_Norm) fun r1 => ?_
 refine o (al' 101) ?_
 refine z [34, 1] ?_
 refine sjq (fun s9 => [(2, bl s9)]) (fun s9 => []) ?_ ?_
 · intro j7 hj8
   refine z [6, 33, 45, 36, 33, 45, 36, 74, 30] ?_
   refine sifd 13 rfl ?_ ?_
   · refine z [22, 22, 22, 22, 22, 22, 22, 22, 22, 38, 30] ?_
     refine sifd 24 rfl ?_ ?_
     · refine z [22, 22, 22, 22, 22, 22, 22, 38, 30] ?_
       refine sifd 33 rfl ?_ ?_
       · refine z [22, 22, 22, 22, 22, 22] ?_
         refine b fun r10 h11 => ?_
         refine og' (c0 (c_nat_Cmp _ h11)) ?_
         refine z [22, 38, 30] ?_
         refine sifd 43 rfl ?_ ?_
         · refine z [22, 22, 22, 22] ?_
           refine b fun r12 h13 => ?_
           refine og' (c0 (c_nat_Cmp _ h13)) ?_
           refine z [22, 38, 31, 1] ?_
           exact sj (hj8 _) (eR [])
         refine z [23, 23, 23, 23, 23, 23, 37, 31, 1] ?_
         exact sj (hj8 _) (eR [])
       refine z [23, 23, 23, 23, 23, 23, 23, 23, 37, 30, 23, 23, 23, 23, 23, 23, 37, 31, 1] ?_
       exact sj (hj8 _) (eR [])
     refine z [23, 23, 23, 23, 23, 23, 23, 37, 30, 23, 23, 23, 23, 23, 23, 23, 23, 37, 30, 23, 23, 23, 23, 23, 23, 37, 31, 1] ?_
     exact sj (hj8 _) (eR [])
   refine z [23, 23, 23, 23, 23, 23, 23, 23, 23, 37, 30, 23, 23, 23, 23, 23, 23, 23, 37, 30, 23, 23, 23, 23, 23, 23, 23, 23, 37, 30, 23, 23, 23, 23, 23, 23, 37, 31, 1] ?_
   exact sj (hj8 _) (eR [])
 intro s9
 refine z [8] ?_
 exact rt []
theorem c_frac_Size {n : Nat} {x0} : ∀ r, m_frac_Size n x0 = some r → FnOk Tryz.prog 137 [L_frac_Frac x0] [] (i64 r) [] := by
 unfold m_frac_Size
 refine fs Tryz.func137 fun w S0 γ hγ => ?_
 refine z [2] ?_
 refine o (bx' 100) ?_
 refine z [31, 1, 5] ?_
 refine b fun r1 h2 => ?_
 refine b fun r3 h4 => ?_
 refine sd ?_
 refine zd [[100], [], [100]] ?_
 refine dd [] (fun _ _ _ _ => c0 (c_twos_Len _ h2)) ?_
 refine zd [[100], [100]] ?_
 refine dd [] (fun _ _ _ _ => c0 (c_twos_Len _ h4)) ?_
 refine zd [[], []] ?_
 refine de fol ?_
 refine z [4, 8] ?_
 exact rt []
theorem c_scheme_numbers {n : Nat} {x0} : ∀ r, m_scheme_numbers n x0 = some r → FnOk Tryz.prog 102 [sli 1 (List.map L_S_frac_Frac x0)] [] (bl r) [] := by
 unfold m_scheme_numbers
 refine fs Tryz.func102 fun w S0 γ hγ => ?_
 refine z [2, 31, 1, 5, 2, 30, 39, 30, 1, 7] ?_
 refine srN (fun s38 => [(2, bl false), (7, sli 1 (List.map L_S_frac_Frac x0))]) (fun s38 => []) (rE eI) ?_ ?_
 · intro i39 x40 s38 hx41
   refine z [7, 2, 43, 42, 31, 1, 2, 30, 39, 30, 1, 7] ?_
   refine srN (fun s58 => [(2, bl false), (7, sli 1 (List.map L_S_frac_Frac x0)), (8, i64 (x0.length : Int)), (9, i64 (i39 : Int)), (13, sli 3 (List.map L_frac_Frac x40))]) (fun s58 => []) (rE eI) ?_ ?_
   · intro i59 x60 s58 hx61
     refine z [7, 2, 43, 42] ?_
     refine o (al' 100) ?_
     refine z [34, 1] ?_
     refine sjq (fun s68 => [(2, bl false), (7, sli 1 (List.map L_S_frac_Frac x0)), (8, i64 (x0.length : Int)), (9, i64 (i39 : Int)), (13, sli 3 (List.map L_frac_Frac x40)), (14, i64 (x40.length : Int)), (15, i64 (i59 : Int)), (26, bl s68)]) (fun s68 => []) ?_ ?_
     · intro j66 hj67
       refine z [6, 32] ?_
       refine cb (ca c_frac_Right) fun r69 => ?_
       refine z [44, 30] ?_
       refine sifd 22 rfl ?_ ?_
       · refine z [23, 23, 23, 38, 1] ?_
         exact sj (hj67 _) (eR [])
       refine z [22] ?_
       refine b fun r71 h72 => ?_
       refine og' (c0 (c_frac_Size _ h72)) ?_
       refine z [22, 37, 1] ?_
       exact sj (hj67 _) (eR [])
     intro s68
     refine c ?_ ?_
     · refine z [2, 31, 1, 8, 12] ?_
       refine sU ?_
       refine z [12, 12] ?_
       refine sU ?_
       refine z [12, 10] ?_
       exact rt []
     refine z [9, 11] ?_
     exact sgo eI
   intro s73
   refine z [13, 11] ?_
   exact sgo eI
 intro s74
 refine z [13, 4, 2, 31, 1, 8] ?_
 exact rt []
theorem c_whole_Mul {n : Nat} {x0} {x1} : ∀ r, m_whole_Mul n x0 x1 = some r → FnOk Tryz.prog 90 [L_whole_Whole x0, L_whole_Whole x1] [] (L_whole_Whole r) [] := by
 unfold m_whole_Mul
 refine fs Tryz.func90 fun w S0 γ hγ => ?_
 refine z [2] ?_
 refine o (bx' 100) ?_
 refine o (bx' 101) ?_
 refine o (al' 102) ?_
 refine z [1, 5] ?_
 refine b fun r1 h2 => ?_
 refine b fun r3 h4 => ?_
 refine sd ?_
 refine zd [[100], [100], [101], [101], [], [100], [100], [101], [101]] ?_
 refine dd [] (fun _ _ _ _ => c0 (c_prod_Mul _ h2)) ?_
 refine dd [] (fun _ _ _ _ => c0 (c_whole_signed _ h4)) ?_
 refine zd [[102]] ?_
 refine de fol ?_
 refine z [4, 8] ?_
 exact rt []
theorem c_frac_cross {n : Nat} {x0} {x1} : ∀ r, m_frac_cross n x0 x1 = some r → FnOk Tryz.prog 68 [L_whole_Whole x0, sli 1 (List.map u32 x1)] [] (L_whole_Whole r) [] := by
 unfold m_frac_cross
 refine fs Tryz.func68 fun w S0 γ hγ => ?_
 refine z [2] ?_
 refine o (bx' 100) ?_
 refine o (al' 101) ?_
 refine z [1, 2, 32, 30] ?_
 refine s1 (bld (l := [bl false, sli 1 (List.map u32 x1)]) pl_52.h ti_52.h zr_whole_Whole ⟨_, _, _, rfl, rfl, rfl, rfl, (szk (k := 1) rfl rfl), rfl⟩ rfl) ?_
 refine cb (ca c_whole_Mul) fun r1 => ?_
 refine z [34, 1, 8] ?_
 exact rt []
theorem c_nat_Sub {n : Nat} {x0} {x1} : ∀ r, m_nat_Sub n x0 x1 = some r → FnOk Tryz.prog 122 [sli 1 (List.map u32 x0), sli 1 (List.map u32 x1)] [] (.tup [sli 1 (List.map u32 r.1), bl r.2]) [] := by
 unfold m_nat_Sub
 refine fs Tryz.func122 fun w S0 γ hγ => ?_
 refine z [2] ?_
 refine s1 (asg rfl (kLm (k := 1) u32)) ?_
 refine z [31, 1, 2, 30] ?_
 refine cb (ca c_nat_trim) fun r1 => ?_
 refine z [30] ?_
 refine cb (ca c_nat_trim) fun r3 => ?_
 refine z [31, 31, 1, 5, 2, 30, 30] ?_
 refine cb (ca c_nat_Cmp) fun r5 => ?_
 refine z [46, 1] ?_
 refine c ?_ ?_
 · refine z [2] ?_
   refine s1 (asg rfl (kLm (k := 1) u32)) ?_
   refine z [31, 1, 8, 10] ?_
   exact rt []
 refine z [9, 4, 2, 30] ?_
 refine b fun r7 h8 => ?_
 refine o (cG (c_nat_fresh _ h8) [] [(100, 50)] []) ?_
 refine z [31, 1, 2, 31, 1, 5, 2, 30, 39, 30, 1, 7] ?_
 refine srN (fun s40 => [(0, sli 1 (List.map u32 r1)), (1, sli 1 (List.map u32 r3)), (4, sli 1 (List.map u32 ([] : List Nat))), (5, bl false), (6, .own 100), (7, u32 s40.2)]) (fun s40 => [(100, .sl 139 1 (List.map u32 s40.1))]) (rE (eR [(100, 100)])) ?_ ?_
 · intro i41 x42 s40 hx43
   refine z [7, 2, 30, 31, 1, 2, 31, 1] ?_
   refine sjq (fun s48 => [(0, sli 1 (List.map u32 r1)), (1, sli 1 (List.map u32 r3)), (4, sli 1 (List.map u32 ([] : List Nat))), (5, bl false), (6, .own 100), (7, u32 s40.2), (8, i64 (i41 : Int)), (9, u32 s48), (21, i64 (r1.length : Int)), (22, i64 (i41 : Int))]) (fun s48 => [(100, .sl 139 1 (List.map u32 s40.1))]) ?_ ?_
   · intro j46 hj47
     refine z [2, 30, 30, 39, 46, 1] ?_
     refine c ?_ ?_
     · refine z [6, 30, 30] ?_
       refine b fun y49 h50 => ?_
       refine z [43, 42, 31, 1] ?_
       exact sj (hj47 _) (eR [(100, 100)])
     refine z [9, 4] ?_
     exact sj (hj47 _) (eR [(100, 100)])
   intro s48
   refine z [6, 30, 30, 30, 30, 43, 42, 30, 30] ?_
   refine cb (ca c_limb_Sub) fun r51 => ?_
   refine z [30, 35, 35] ?_
   refine b fun y53 h54 => ?_
   refine z [50, 53, 31, 3, 11] ?_
   exact sgo (eR [(100, 100)])
 intro s55
 refine z [13, 4, 2, 30] ?_
 refine fz 100 [6, 47] [] ?_
 refine cb (ca c_nat_trim) fun r56 => ?_
 refine z [31, 31, 1, 8] ?_
 exact rt []
theorem c_nat_Gap {n : Nat} {x0} {x1} : ∀ r, m_nat_Gap n x0 x1 = some r → FnOk Tryz.prog 92 [sli 1 (List.map u32 x0), sli 1 (List.map u32 x1)] [] (.tup [sli 1 (List.map u32 r.1), i64 r.2]) [] := by
 unfold m_nat_Gap
 refine fs Tryz.func92 fun w S0 γ hγ => ?_
 refine z [2] ?_
 refine s1 (asg rfl (kLm (k := 1) u32)) ?_
 refine z [31, 1, 2, 30, 30] ?_
 refine cb (ca c_nat_Cmp) fun r1 => ?_
 refine z [31, 1] ?_
 refine sjq (fun s5 => [(0, sli 1 (List.map u32 s5.1)), (1, sli 1 (List.map u32 s5.2)), (4, sli 1 (List.map u32 ([] : List Nat))), (5, i64 (0 : Int)), (6, i64 r1)]) (fun s5 => []) ?_ ?_
 · intro j3 hj4
   refine z [2, 30, 46, 1] ?_
   refine c ?_ ?_
   · refine z [6, 30, 30, 31, 31, 1] ?_
     exact sj (hj4 _) eI
   refine z [9, 4] ?_
   exact sj (hj4 _) eI
 intro s5
 refine z [2, 30, 30] ?_
 refine cb (ca c_nat_Sub) fun r6 => ?_
 refine z [30, 35, 35, 31, 31, 1, 2, 30, 30, 31, 31, 1, 8] ?_
 exact rt []
theorem c_whole_Add {n : Nat} {x0} {x1} : ∀ r, m_whole_Add n x0 x1 = some r → FnOk Tryz.prog 67 [L_whole_Whole x0, L_whole_Whole x1] [] (L_whole_Whole r) [] := by
 unfold m_whole_Add
 refine fs Tryz.func67 fun w S0 γ hγ => ?_
 refine z [2] ?_
 refine o (bx' 100) ?_
 refine o (bx' 101) ?_
 refine o (al' 102) ?_
 refine z [1, 5, 2, 33, 36, 33, 36, 74, 1] ?_
 refine c ?_ ?_
 · refine z [5] ?_
   refine b fun r1 h2 => ?_
   refine b fun r3 h4 => ?_
   refine sd ?_
   refine zd [[100], [100], [100], [100], [101], [101]] ?_
   refine dx [15, 17] [103] (fun st mm ⟨a15, a17, _⟩ ⟨g103, _⟩ => og (toV (bsl (y := 103) (ls := List.map L_S_u32 ([x0.Abs, x1.Abs] : List (List Nat))) Tryz.underlying210 ti_32.h rfl rfl rfl rfl rfl ⟨rfl, (a15.trans rfl), (by exact rfl), (by exact rfl), rfl, (a17.trans rfl), (by exact rfl), (by exact rfl), trivial⟩ (g103.trans rfl) rfl) (ifs_map (f := L_S_u32) (fun _ => if_sli) ([x0.Abs, x1.Abs] : List (List Nat))))) ?_
   refine dd [] (fun _ _ _ _ => c0 (c_nat_Add _ h2)) ?_
   refine dd [] (fun _ _ _ _ => c0 (c_whole_signed _ h4)) ?_
   refine zd [[102]] ?_
   refine de fol ?_
   refine z [4, 8, 10] ?_
   exact rt []
 refine z [9, 4, 2, 33, 36, 33, 36] ?_
 refine cb (ca c_nat_Gap) fun r5 => ?_
 refine z [30, 35, 35, 31, 31, 1, 5, 2, 30, 46, 1] ?_
 refine c ?_ ?_
 · refine z [2, 33, 36, 30] ?_
   refine cb (ca c_whole_signed) fun r7 => ?_
   refine z [34, 1, 8, 10] ?_
   exact rt []
 refine z [9, 4, 2, 33, 36, 30] ?_
 refine cb (ca c_whole_signed) fun r9 => ?_
 refine z [34, 1, 8] ?_
 exact rt []
theorem c_frac_Add {n : Nat} {x0} {x1} : ∀ r, m_frac_Add n x0 x1 = some r → FnOk Tryz.prog 44 [L_frac_Frac x0, L_frac_Frac x1] [] (L_frac_Frac r) [] := by
 unfold m_frac_Add
 refine fs Tryz.func44 fun w S0 γ hγ => ?_
 refine z [2] ?_
 refine o (bx' 100) ?_
 refine o (bx' 101) ?_
 refine o (al' 102) ?_
 refine z [1, 2, 32] ?_
 refine cb (ca c_frac_parts) fun r1 => ?_
 refine z [30, 35, 35] ?_
 refine o (al' 103) ?_
 refine z [34, 31, 1, 2, 32] ?_
 refine cb (ca c_frac_parts) fun r3 => ?_
 refine z [30, 35, 35] ?_
 refine o (al' 104) ?_
 refine z [34, 31, 1, 5] ?_
 refine b fun r5 h6 => ?_
 refine b fun r7 h8 => ?_
 refine b fun r9 h10 => ?_
 refine b fun r11 h12 => ?_
 refine b fun r13 h14 => ?_
 refine sd ?_
 refine zd [[103], []] ?_
 refine dd [] (fun _ _ _ _ => c0 (c_frac_cross _ h6)) ?_
 refine zd [[104], []] ?_
 refine dd [] (fun _ _ _ _ => c0 (c_frac_cross _ h8)) ?_
 refine dd [] (fun _ _ _ _ => c0 (c_whole_Add _ h10)) ?_
 refine zd [[], []] ?_
 refine dd [] (fun _ _ _ _ => c0 (c_prod_Mul _ h12)) ?_
 refine dd [] (fun _ _ _ _ => c0 (c_frac_cancel _ h14)) ?_
 refine zd [[102]] ?_
 refine de fol ?_
 refine z [4, 8] ?_
 exact rt []
theorem c_scheme_sum {n : Nat} {x0} : ∀ r, m_scheme_sum n x0 = some r → FnOk Tryz.prog 104 [sli 3 (List.map L_frac_Frac x0)] [] (L_frac_Frac r) [] := by
 unfold m_scheme_sum
 refine fs Tryz.func104 fun w S0 γ hγ => ?_
 refine z [2] ?_
 refine o (al' 100) ?_
 refine z [1, 2] ?_
 refine cb (ca c_frac_Of) fun r1 => ?_
 refine o (al' 101) ?_
 refine z [34, 1, 5, 2, 30, 39, 30, 1, 7] ?_
 refine srN (fun s16 => [(2, .own 100), (3, .own 101), (7, sli 3 (List.map L_frac_Frac x0))]) (fun s16 => [(100, .bx 54 (L_frac_Frac (⟨(⟨false, []⟩ : M_whole_Whole), []⟩ : M_frac_Frac))), (101, .bx 54 (L_frac_Frac s16))]) (rE (eR [(100, 100), (101, 101)])) ?_ ?_
 · intro i17 x18 s16 hx19
   refine z [7, 2, 43, 42] ?_
   refine o (al' 102) ?_
   refine z [34, 1, 6, 32, 32] ?_
   refine cb (ca c_frac_Add) fun r20 => ?_
   refine z [34, 3, 11] ?_
   exact sgo (eR [(100, 100), (101, 101)])
 intro s22
 refine z [13, 4, 2, 32, 34, 1, 8] ?_
 exact rt []
theorem c_whole_Neg {n : Nat} {x0} : ∀ r, m_whole_Neg n x0 = some r → FnOk Tryz.prog 125 [L_whole_Whole x0] [] (L_whole_Whole r) [] := by
 unfold m_whole_Neg
 refine fs Tryz.func125 fun w S0 γ hγ => ?_
 refine z [2] ?_
 refine o (bx' 100) ?_
 refine o (al' 101) ?_
 refine z [1, 5] ?_
 refine b fun r3 h4 => ?_
 refine b fun r5 h6 => ?_
 refine sd ?_
 refine zd [[100], [100], [], [100], [100]] ?_
 refine dd [102] (fun _ _ _ _ => tV (cG (c_nat_Norm _ h4) [] [(102, 50)] [])) ?_
 refine dd [] (fun _ _ _ _ => c0 (c_whole_signed _ h6)) ?_
 refine zd [[101]] ?_
 refine de fol ?_
 refine z [4, 8] ?_
 exact rt []
theorem c_whole_Sub {n : Nat} {x0} {x1} : ∀ r, m_whole_Sub n x0 x1 = some r → FnOk Tryz.prog 95 [L_whole_Whole x0, L_whole_Whole x1] [] (L_whole_Whole r) [] := by
 unfold m_whole_Sub
 refine fs Tryz.func95 fun w S0 γ hγ => ?_
 refine z [2] ?_
 refine o (bx' 100) ?_
 refine o (bx' 101) ?_
 refine o (al' 102) ?_
 refine z [1, 5] ?_
 refine b fun r1 h2 => ?_
 refine b fun r3 h4 => ?_
 refine sd ?_
 refine zd [[100], [101]] ?_
 refine dd [] (fun _ _ _ _ => c0 (c_whole_Neg _ h2)) ?_
 refine dd [] (fun _ _ _ _ => c0 (c_whole_Add _ h4)) ?_
 refine zd [[102]] ?_
 refine de fol ?_
 refine z [4, 8] ?_
 exact rt []
theorem c_whole_Sign {n : Nat} {x0} : ∀ r, m_whole_Sign n x0 = some r → FnOk Tryz.prog 36 [L_whole_Whole x0] [] (i64 r) [] := by
 unfold m_whole_Sign
 refine fs Tryz.func36 fun w S0 γ hγ => ?_
 refine z [2] ?_
 refine o (bx' 100) ?_
 refine z [31, 1, 5, 7, 2, 33, 36] ?_
 refine cb (ca c_nat_Zero) fun r1 => ?_
 refine z [31, 1] ?_
 refine c ?_ ?_
 · refine z [2, 31, 1, 8, 12, 10] ?_
   exact rt []
 refine z [2, 33, 36, 31, 1] ?_
 refine c ?_ ?_
 · refine z [2, 31, 1, 8, 12, 10] ?_
   exact rt []
 refine z [9, 11, 4, 2, 31, 1, 8] ?_
 exact rt []
theorem c_whole_Cmp {n : Nat} {x0} {x1} : ∀ r, m_whole_Cmp n x0 x1 = some r → FnOk Tryz.prog 70 [L_whole_Whole x0, L_whole_Whole x1] [] (i64 r) [] := by
 unfold m_whole_Cmp
 refine fs Tryz.func70 fun w S0 γ hγ => ?_
 refine z [2] ?_
 refine o (bx' 100) ?_
 refine o (bx' 101) ?_
 refine z [31, 1, 2, 32, 32] ?_
 refine cb (ca c_whole_Sub) fun r1 => ?_
 refine cb (ca c_whole_Sign) fun r3 => ?_
 refine z [31, 1, 8] ?_
 exact rt []
theorem c_frac_Cmp {n : Nat} {x0} {x1} : ∀ r, m_frac_Cmp n x0 x1 = some r → FnOk Tryz.prog 45 [L_frac_Frac x0, L_frac_Frac x1] [] (i64 r) [] := by
 unfold m_frac_Cmp
 refine fs Tryz.func45 fun w S0 γ hγ => ?_
 refine z [2] ?_
 refine o (bx' 100) ?_
 refine o (bx' 101) ?_
 refine z [31, 1, 2, 32] ?_
 refine cb (ca c_frac_parts) fun r1 => ?_
 refine z [30, 35, 35] ?_
 refine o (al' 102) ?_
 refine z [34, 31, 1, 2, 32] ?_
 refine cb (ca c_frac_parts) fun r3 => ?_
 refine z [30, 35, 35] ?_
 refine o (al' 103) ?_
 refine z [34, 31, 1, 5] ?_
 refine b fun r5 h6 => ?_
 refine b fun r7 h8 => ?_
 refine b fun r9 h10 => ?_
 refine sd ?_
 refine zd [[102], []] ?_
 refine dd [] (fun _ _ _ _ => c0 (c_frac_cross _ h6)) ?_
 refine zd [[103], []] ?_
 refine dd [] (fun _ _ _ _ => c0 (c_frac_cross _ h8)) ?_
 refine dd [] (fun _ _ _ _ => c0 (c_whole_Cmp _ h10)) ?_
 refine zd [[]] ?_
 refine de fol ?_
 refine z [4, 8] ?_
 exact rt []
theorem c_frac_Same {n : Nat} {x0} {x1} : ∀ r, m_frac_Same n x0 x1 = some r → FnOk Tryz.prog 20 [L_frac_Frac x0, L_frac_Frac x1] [] (bl r) [] := by
 unfold m_frac_Same
 refine fs Tryz.func20 fun w S0 γ hγ => ?_
 refine z [2] ?_
 refine o (bx' 100) ?_
 refine o (bx' 101) ?_
 refine z [31, 1, 2, 32, 32] ?_
 refine cb (ca c_frac_Cmp) fun r1 => ?_
 refine z [41, 31, 1, 8] ?_
 exact rt []
theorem c_scheme_rows {n : Nat} {x0} : ∀ r, m_scheme_rows n x0 = some r → FnOk Tryz.prog 103 [L_scheme_Scheme x0] [] (bl r) [] := by
 unfold m_scheme_rows
 refine fs Tryz.func103 fun w S0 γ hγ => ?_
 refine z [2] ?_
 refine o (bx' 100) ?_
 refine z [31, 1, 5, 2, 33, 36, 39, 30, 1, 7] ?_
 refine srN (fun s12 => [(1, .own 100), (2, bl false), (6, sli 1 (List.map L_S_frac_Frac x0.A))]) (fun s12 => [(100, .bx 46 (L_scheme_Scheme x0))]) (rE (eR [(100, 100)])) ?_ ?_
 · intro i13 x14 s12 hx15
   refine z [7, 2, 30, 43, 42, 31, 31, 1, 5] ?_
   refine b fun r16 h17 => ?_
   refine b fun y18 h19 => ?_
   refine b fun r20 h21 => ?_
   refine sd ?_
   refine zd [[]] ?_
   refine dd [] (fun _ _ _ _ => c0 (c_scheme_sum _ h17)) ?_
   refine zd [[100], [100], [], [], []] ?_
   refine dd [] (fun _ _ _ _ => c0 (c_frac_Same _ h21)) ?_
   refine zd [[]] ?_
   refine de fol ?_
   refine z [4] ?_
   refine c ?_ ?_
   · refine z [2, 31, 1, 8, 12] ?_
     refine sU ?_
     refine z [12, 10] ?_
     exact rt []
   refine z [9, 11] ?_
   exact sgo (eR [(100, 100)])
 intro s22
 refine z [13, 4, 2, 31, 1, 8] ?_
 exact rt []
theorem c_scheme_Wrong {n : Nat} {x0} : ∀ r, m_scheme_Wrong n x0 = some r → FnOk Tryz.prog 73 [L_scheme_Scheme x0] [] (i64 r) [] := by
 unfold m_scheme_Wrong
 refine fs Tryz.func73 fun w S0 γ hγ => ?_
 refine z [2] ?_
 refine o (bx' 100) ?_
 refine z [31, 1, 2] ?_
 refine cb (ca c_frac_Of) fun r1 => ?_
 refine o (al' 101) ?_
 refine z [34, 1, 5, 7, 2, 33, 36] ?_
 refine s1 (bld (l := [i64 (2 : Int), str x0.Name, i64 0]) pl_193.h ti_193.h zr_lex_Word ⟨_, _, _, (kI (x := 2) rfl), rfl, rfl, rfl, (szk (k := 1) rfl rfl), ⟨_, _, _, rfl, rfl, rfl, rfl, (szk (k := 1) rfl rfl), rfl⟩⟩ rfl) ?_
 refine cb (ca c_lex_Right) fun r3 => ?_
 refine z [44, 31, 1] ?_
 refine c ?_ ?_
 · refine z [2, 31, 1, 8, 12, 10] ?_
   exact rt []
 refine z [2, 32] ?_
 refine cb (ca c_scheme_shape) fun r5 => ?_
 refine z [44, 31, 1] ?_
 refine c ?_ ?_
 · refine z [2, 31, 1, 8, 12, 10] ?_
   exact rt []
 refine sjq (fun s13 => [(1, .own 100), (2, i64 (0 : Int)), (3, .own 101), (15, bl s13)]) (fun s13 => [(100, .bx 46 (L_scheme_Scheme x0)), (101, .bx 54 (L_frac_Frac r1))]) ?_ ?_
 · intro j11 hj12
   refine z [6, 33, 36] ?_
   refine cb (ca c_scheme_numbers) fun r14 => ?_
   refine z [44, 30] ?_
   refine sifd 20 rfl ?_ ?_
   · refine z [23, 23, 23, 23, 23, 23, 23, 23, 23, 38, 31, 1] ?_
     exact sj (hj12 _) (eR [(100, 100), (101, 101)])
   refine z [22, 22, 22, 22, 22, 22] ?_
   refine sg 20 rfl rfl (bsl (y := 102) (ls := List.map L_S_frac_Frac ([x0.B, x0.C, x0.E] : List (List M_frac_Frac))) Tryz.underlying44 ti_43.h rfl rfl rfl rfl rfl ⟨rfl, rfl, (by exact rfl), (by exact rfl), rfl, rfl, (by exact rfl), (by exact rfl), rfl, rfl, (by exact rfl), (by exact rfl), trivial⟩ rfl rfl) ?_
   refine b fun r16 h17 => ?_
   refine sg 20 rfl rfl (callL (em := []) [102] [] [] [] rfl (c_scheme_numbers _ h17) trivial (pl_bl) ⟨.inr ⟨102, rfl, .inl ⟨rfl, .inl ⟨_, _, _, rfl, ifs_map (f := L_S_frac_Frac) (fun _ => if_sli) ([x0.B, x0.C, x0.E] : List (List M_frac_Frac)), rfl⟩⟩⟩, trivial⟩ (fun _ _ h => by cases h) trivial rfl trivial trivial rfl trivial trivial trivial (rn_id (if_bl)) rfl) ?_
   refine z [22, 37, 31, 1] ?_
   exact sj (hj12 _) (eR [(100, 100), (101, 101)])
 intro s13
 refine c ?_ ?_
 · refine z [2, 31, 1, 8, 12, 10] ?_
   exact rt []
 refine z [2, 32] ?_
 refine cb (ca c_scheme_rows) fun r18 => ?_
 refine z [44, 31, 1] ?_
 refine c ?_ ?_
 · refine z [2, 31, 1, 8, 12, 10] ?_
   exact rt []
 refine z [5] ?_
 refine b fun r20 h21 => ?_
 refine b fun r22 h23 => ?_
 refine sd ?_
 refine zd [[100], [100]] ?_
 refine dd [] (fun _ _ _ _ => c0 (c_scheme_sum _ h21)) ?_
 refine zd [[101]] ?_
 refine dd [] (fun _ _ _ _ => c0 (c_frac_Same _ h23)) ?_
 refine zd [[], []] ?_
 refine de fol ?_
 refine z [4] ?_
 refine c ?_ ?_
 · refine z [2, 31, 1, 8, 12, 10] ?_
   exact rt []
 refine sjq (fun s31 => [(2, i64 (0 : Int)), (42, bl s31)]) (fun s31 => []) ?_ ?_
 · intro j29 hj30
   refine sif (fun hb32 => ?_) (fun hb32 => ?_)
   · refine b fun r33 h34 => ?_
     refine b fun r35 h36 => ?_
     refine sd ?_
     refine zd [[100], [100], [], []] ?_
     refine dd [] (fun _ _ _ _ => obk hb32 ops) ?_
     refine zd [[100], [100]] ?_
     refine dG [] (fun _ _ _ _ => c0 (c_scheme_sum _ h34)) ?_
     refine zd [[101]] ?_
     refine dG [] (fun _ _ _ _ => c0 (c_frac_Same _ h36)) ?_
     refine zd [[], [], []] ?_
     refine de fol ?_
     refine z [4] ?_
     exact sj (hj30 _) (eR [])
   refine sd ?_
   refine zd [[100], [100], [], []] ?_
   refine dd [] (fun _ _ _ _ => obk hb32 ops) ?_
   refine zd [[], [], [], [], [], [], [], []] ?_
   refine de fol ?_
   refine z [4] ?_
   exact sj (hj30 _) (eR [])
 intro s31
 refine c ?_ ?_
 · refine z [2, 31, 1, 8, 12, 10] ?_
   exact rt []
 refine z [9, 11, 4, 2, 31, 1, 8] ?_
 exact rt []
theorem c_scheme_Parse {n : Nat} {x0} : ∀ r, m_scheme_Parse n x0 = some r → FnOk Tryz.prog 48 [str x0] [] (.tup [L_scheme_Scheme r.1, L_api_Fault r.2]) [] := by
 unfold m_scheme_Parse
 refine fs Tryz.func48 fun w S0 γ hγ => ?_
 refine z [2] ?_
 refine o (al' 100) ?_
 refine o (al' 101) ?_
 refine z [1, 5, 2, 30, 54, 47, 1] ?_
 refine c ?_ ?_
 · refine z [2] ?_
   refine s1 (bld (l := [str [], sli 3 (List.map L_frac_Frac []), sli 1 (List.map L_S_frac_Frac []), sli 3 (List.map L_frac_Frac []), sli 3 (List.map L_frac_Frac [])]) pl_46.h ti_46.h zr_scheme_Scheme rfl rfl) ?_
   refine s1 (bld (l := [i64 (1 : Int), i64 0, i64 0, i64 (4000 : Int)]) pl_59.h ti_59.h zr_api_Fault ⟨_, _, _, (kI (x := 1) rfl), rfl, rfl, rfl, (szk (k := 1) rfl rfl), ⟨_, _, _, (kI (x := 4000) rfl), rfl, rfl, rfl, (szk (k := 1) rfl rfl), rfl⟩⟩ rfl) ?_
   refine z [34, 34, 1, 8, 10] ?_
   exact rt []
 refine z [9, 4, 2, 30] ?_
 refine cb (ca c_scheme_read) fun r1 => ?_
 refine z [30, 35, 35] ?_
 refine o (al' 102) ?_
 refine o (al' 103) ?_
 refine z [34, 34, 1, 5, 2, 32] ?_
 refine s1 (bld (l := [i64 0, i64 0, i64 0, i64 0]) pl_59.h ti_59.h zr_api_Fault rfl rfl) ?_
 refine s1 (neA (p := (r1.2 : M_api_Fault)) (q := ((⟨0, 0, 0, 0⟩ : M_api_Fault) : M_api_Fault)) eq_59_2 rfl eg_59 rfl rfl rfl) ?_
 refine z [1] ?_
 refine c ?_ ?_
 · refine z [5] ?_
   refine sd ?_
   refine dx [] [] (fun st mm _ _ => og (bld (l := [str [], sli 3 (List.map L_frac_Frac []), sli 1 (List.map L_S_frac_Frac []), sli 3 (List.map L_frac_Frac []), sli 3 (List.map L_frac_Frac [])]) pl_46.h ti_46.h zr_scheme_Scheme rfl rfl)) ?_
   refine zd [[103], [100], [101]] ?_
   refine de fol ?_
   refine z [4, 8, 10] ?_
   exact rt []
 refine z [9, 4, 5, 2, 32] ?_
 refine cb (ca c_scheme_Wrong) fun r3 => ?_
 refine z [31, 1, 2, 30, 56, 1] ?_
 refine c ?_ ?_
 · refine z [2] ?_
   refine s1 (bld (l := [str [], sli 3 (List.map L_frac_Frac []), sli 1 (List.map L_S_frac_Frac []), sli 3 (List.map L_frac_Frac []), sli 3 (List.map L_frac_Frac [])]) pl_46.h ti_46.h zr_scheme_Scheme rfl rfl) ?_
   refine z [30] ?_
   refine s1 (bld (l := [i64 (2 : Int), i64 0, i64 0, i64 r3]) pl_59.h ti_59.h zr_api_Fault ⟨_, _, _, (kI (x := 2) rfl), rfl, rfl, rfl, (szk (k := 1) rfl rfl), ⟨_, _, _, rfl, rfl, rfl, rfl, (szk (k := 1) rfl rfl), rfl⟩⟩ rfl) ?_
   refine z [34, 34, 1, 8, 10] ?_
   exact rt []
 refine z [9, 4, 5] ?_
 refine sd ?_
 refine zd [[102], [103], [100], [101]] ?_
 refine de fol ?_
 refine z [4, 8] ?_
 exact rt []
theorem c_stock_Get {n : Nat} {x0} : ∀ r, m_stock_Get n x0 = some r → FnOk Tryz.prog 24 [str x0] [] (.tup [L_scheme_Scheme r.1, bl r.2]) [] := by
 unfold m_stock_Get
 refine fs Tryz.func24 fun w S0 γ hγ => ?_
 refine z [2] ?_
 refine o (al' 100) ?_
 refine z [31, 1, 5, 2] ?_
 refine cb (ca c_stock_texts) fun r1 => ?_
 refine z [30, 1, 7] ?_
 refine sloopE 0 Lp.go (fun s17 => [(0, str x0), (2, .own 100), (3, bl false), (8, L_A6_string r1), (9, i64 s17)]) (fun s17 => [(100, .bx 46 (L_scheme_Scheme (⟨[], [], [], [], []⟩ : M_scheme_Scheme)))]) (fun t15 => [(2, .own 100), (3, bl false)]) (fun t15 => [(100, .bx 46 (L_scheme_Scheme (⟨[], [], [], [], []⟩ : M_scheme_Scheme)))]) (eR [(100, 100)]) ?_ ?_
 · intro hj16 s17
   refine z [2, 46, 1, 5] ?_
   refine c ?_ ?_
   · refine z [9, 4, 5, 7, 2] ?_
     refine b fun y18 h19 => ?_
     refine s1 (ixV (f := str) (xs := ([r1.a0, r1.a1, r1.a2, r1.a3, r1.a4, r1.a5] : List (List UInt8))) (y := y18) Tryz.underlying117 sh_9.h rfl h19 (fun _ => rfl) (fun _ => rfl) rfl rfl rfl) ?_
     refine z [31, 1, 2, 30] ?_
     refine cb (ca c_stock_name) fun r20 => ?_
     refine z [30, 72, 1] ?_
     refine c ?_ ?_
     · refine z [2, 30] ?_
       refine cb (ca c_scheme_Parse) fun r22 => ?_
       refine z [30, 35, 35] ?_
       refine o (al' 101) ?_
       refine o (al' 102) ?_
       refine z [34, 34, 1, 2, 32, 34, 31, 1, 8, 12, 10] ?_
       refine sU ?_
       refine z [12, 10] ?_
       exact rt []
     refine z [9, 11, 4, 6, 40, 30, 3] ?_
     exact sgo (eR [(100, 100)])
   refine z [14, 15] ?_
   exact su (sj (hj16 _) (eR [(100, 100)]))
 intro t15
 refine slpk ?_
 refine z [13, 4, 2] ?_
 refine s1 (bld (l := [str [], sli 3 (List.map L_frac_Frac []), sli 1 (List.map L_S_frac_Frac []), sli 3 (List.map L_frac_Frac []), sli 3 (List.map L_frac_Frac [])]) pl_46.h ti_46.h zr_scheme_Scheme rfl rfl) ?_
 refine z [34, 31, 1, 8] ?_
 exact rt []
theorem c_frac_Quo {n : Nat} {x0} {x1} : ∀ r, m_frac_Quo n x0 x1 = some r → FnOk Tryz.prog 49 [L_frac_Frac x0, L_frac_Frac x1] [] (.tup [L_frac_Frac r.1, bl r.2]) [] := by
 unfold m_frac_Quo
 refine fs Tryz.func49 fun w S0 γ hγ => ?_
 refine z [2] ?_
 refine o (bx' 100) ?_
 refine o (bx' 101) ?_
 refine o (al' 102) ?_
 refine z [31, 1, 2, 32] ?_
 refine cb (ca c_frac_parts) fun r1 => ?_
 refine z [30, 35, 35] ?_
 refine o (al' 103) ?_
 refine z [34, 31, 1, 2, 32] ?_
 refine cb (ca c_frac_parts) fun r3 => ?_
 refine z [30, 35, 35] ?_
 refine o (al' 104) ?_
 refine z [34, 31, 1, 5, 2, 32] ?_
 refine cb (ca c_whole_Sign) fun r5 => ?_
 refine z [41, 1] ?_
 refine c ?_ ?_
 · refine z [2] ?_
   refine cb (ca c_frac_Of) fun r7 => ?_
   refine z [34, 31, 1, 8, 10] ?_
   exact rt []
 refine z [9, 4, 2, 32, 30] ?_
 refine cb (ca c_frac_cross) fun r9 => ?_
 refine o (al' 105) ?_
 refine z [34, 1, 2, 33, 36, 33, 36, 75, 33] ?_
 refine o (stP (L_whole_Whole (⟨(r9.Neg != r3.1.Neg), r9.Abs⟩ : M_whole_Whole)) [0]) ?_
 refine z [1, 5] ?_
 refine b fun r11 h12 => ?_
 refine b fun r13 h14 => ?_
 refine sd ?_
 refine zd [[105], [], [104], [104]] ?_
 refine dd [] (fun _ _ _ _ => c0 (c_prod_Mul _ h12)) ?_
 refine dd [] (fun _ _ _ _ => c0 (c_frac_cancel _ h14)) ?_
 refine zd [[102], []] ?_
 refine de fol ?_
 refine z [4, 8] ?_
 exact rt []
theorem c_frac_Ratio {n : Nat} {x0} {x1} : ∀ r, m_frac_Ratio n x0 x1 = some r → FnOk Tryz.prog 25 [i64 x0, i64 x1] [] (.tup [L_frac_Frac r.1, bl r.2]) [] := by
 unfold m_frac_Ratio
 refine fs Tryz.func25 fun w S0 γ hγ => ?_
 refine z [2] ?_
 refine o (al' 100) ?_
 refine z [31, 1, 2, 30] ?_
 refine cb (ca c_frac_Of) fun r1 => ?_
 refine z [30] ?_
 refine cb (ca c_frac_Of) fun r3 => ?_
 refine cb (ca c_frac_Quo) fun r5 => ?_
 refine z [35, 35, 34, 31, 1, 8] ?_
 exact rt []
theorem c_retrospectlaw33_grows  : ∀ r, m_retrospectlaw33_grows  = some r → FnOk Tryz.prog 26 [] [] (L_tape_Tape r) [] := by
 unfold m_retrospectlaw33_grows
 refine fs Tryz.func26 fun w S0 γ hγ => ?_
 refine z [2] ?_
 refine o (al' 100) ?_
 refine z [1, 2] ?_
 refine s1 (bld (l := [i64 (4 : Int), i64 0, i64 0, L_frac_Frac (⟨(⟨false, []⟩ : M_whole_Whole), []⟩ : M_frac_Frac)]) pl_108.h ti_108.h zr_tape_Inst ⟨_, _, _, (kI (x := 4) rfl), rfl, rfl, rfl, (szk (k := 1) rfl rfl), rfl⟩ rfl) ?_
 refine s1 (bld (l := [i64 (3 : Int), i64 0, i64 0, L_frac_Frac (⟨(⟨false, []⟩ : M_whole_Whole), []⟩ : M_frac_Frac)]) pl_108.h ti_108.h zr_tape_Inst ⟨_, _, _, (kI (x := 3) rfl), rfl, rfl, rfl, (szk (k := 1) rfl rfl), rfl⟩ rfl) ?_
 refine s1 (bld (l := [i64 (9 : Int), i64 0, i64 (1 : Int), L_frac_Frac (⟨(⟨false, []⟩ : M_whole_Whole), []⟩ : M_frac_Frac)]) pl_108.h ti_108.h zr_tape_Inst ⟨_, _, _, (kI (x := 9) rfl), rfl, rfl, rfl, (szk (k := 1) rfl rfl), ⟨_, _, _, (kI (x := 1) rfl), rfl, rfl, rfl, (szk (k := 1) rfl rfl), rfl⟩⟩ rfl) ?_
 refine so (bsl (y := 101) (ls := List.map L_tape_Inst ([(⟨(4 : Int), 0, 0, (⟨(⟨false, []⟩ : M_whole_Whole), []⟩ : M_frac_Frac)⟩ : M_tape_Inst), (⟨(3 : Int), 0, 0, (⟨(⟨false, []⟩ : M_whole_Whole), []⟩ : M_frac_Frac)⟩ : M_tape_Inst), (⟨(9 : Int), 0, (1 : Int), (⟨(⟨false, []⟩ : M_whole_Whole), []⟩ : M_frac_Frac)⟩ : M_tape_Inst)] : List M_tape_Inst)) Tryz.underlying40 ti_108.h rfl rfl rfl rfl rfl ⟨rfl, rfl, (by exact rfl), (by exact rfl), rfl, rfl, (by exact rfl), (by exact rfl), rfl, rfl, (by exact rfl), (by exact rfl), trivial⟩ rfl rfl) ?_
 refine sbm (C := fun x => .sl 108 6 (List.map L_tape_Inst x)) 101 rfl fun z1 => ?_
 refine so (bsl (y := 102) (ls := List.map i64 ([(2 : Int)] : List Int)) Tryz.underlying23 ti_3.h rfl rfl rfl rfl rfl ⟨rfl, (kI (x := 2) rfl), (by exact rfl), (by exact rfl), trivial⟩ rfl rfl) ?_
 refine fz 101 [4] [] ?_
 refine fz 102 [5] [] ?_
 refine s1 (bld (l := [sli 6 (List.map L_tape_Inst z1), sli 1 (List.map i64 ([(2 : Int)] : List Int)), i64 (1 : Int), i64 (1 : Int)]) pl_42.h ti_42.h zr_tape_Tape ⟨_, _, _, rfl, rfl, rfl, rfl, (szk (k := 1) rfl rfl), ⟨_, _, _, rfl, rfl, rfl, rfl, (szk (k := 1) rfl rfl), ⟨_, _, _, (kI (x := 1) rfl), rfl, rfl, rfl, (szk (k := 1) rfl rfl), ⟨_, _, _, (kI (x := 1) rfl), rfl, rfl, rfl, (szk (k := 1) rfl rfl), rfl⟩⟩⟩⟩ rfl) ?_
 refine z [34, 1, 8] ?_
 exact rt []
theorem c_tape_below {x0} {x1} : ∀ r, m_tape_below x0 x1 = some r → FnOk Tryz.prog 112 [i64 x0, i64 x1] [] (bl r) [] := by
 unfold m_tape_below
 refine fs Tryz.func112 fun w S0 γ hγ => ?_
 refine z [2, 31, 1] ?_
 refine sjq (fun s3 => [(4, bl s3)]) (fun s3 => []) ?_ ?_
 · intro j1 hj2
   refine z [6, 30, 57, 30] ?_
   refine sifd 7 rfl ?_ ?_
   · refine z [22, 22, 22, 38, 31, 1] ?_
     exact sj (hj2 _) eI
   refine z [23, 23, 23, 37, 31, 1] ?_
   exact sj (hj2 _) eI
 intro s3
 refine z [8] ?_
 exact rt []
theorem c_tape_whole {x0} : ∀ r, m_tape_whole x0 = some r → FnOk Tryz.prog 110 [L_tape_Tape x0] [] (bl r) [] := by
 unfold m_tape_whole
 refine fs Tryz.func110 fun w S0 γ hγ => ?_
 refine z [2] ?_
 refine o (bx' 100) ?_
 refine z [31, 1] ?_
 refine sjq (fun s7 => [(2, bl s7)]) (fun s7 => []) ?_ ?_
 · intro j5 hj6
   refine z [6, 33, 36, 49] ?_
   refine cb (ca c_tape_below) fun r8 => ?_
   refine z [30] ?_
   refine sifd 7 rfl ?_ ?_
   · refine z [22, 22] ?_
     refine b fun r10 h11 => ?_
     refine og' (c0 (c_tape_below _ h11)) ?_
     refine z [38, 30] ?_
     refine sifd 12 rfl ?_ ?_
     · refine z [22, 22, 22, 22, 22, 22, 38, 30] ?_
       refine sifd 20 rfl ?_ ?_
       · refine z [22, 22, 22, 22, 38, 31, 1] ?_
         exact sj (hj6 _) (eR [])
       refine z [23, 23, 23, 23, 37, 31, 1] ?_
       exact sj (hj6 _) (eR [])
     refine z [23, 23, 23, 23, 23, 23, 37, 30, 23, 23, 23, 23, 37, 31, 1] ?_
     exact sj (hj6 _) (eR [])
   refine z [23, 23, 23, 37, 30, 23, 23, 23, 23, 23, 23, 37, 30, 23, 23, 23, 23, 37, 31, 1] ?_
   exact sj (hj6 _) (eR [])
 intro s7
 refine z [8] ?_
 exact rt []
theorem c_tape_of {x0} : ∀ r, m_tape_of x0 = some r → FnOk Tryz.prog 145 [L_tape_Inst x0] [] (L_tape_numbers r) [] := by
 unfold m_tape_of
 refine fs Tryz.func145 fun w S0 γ hγ => ?_
 refine z [2] ?_
 refine o (bx' 100) ?_
 refine o (al' 101) ?_
 refine z [1, 2, 33, 36, 33, 36, 33, 36] ?_
 refine s1 (bld (l := [i64 x0.Op, i64 x0.A, i64 x0.B]) pl_241.h ti_241.h zr_tape_numbers ⟨_, _, _, rfl, rfl, rfl, rfl, (szk (k := 1) rfl rfl), ⟨_, _, _, rfl, rfl, rfl, rfl, (szk (k := 1) rfl rfl), ⟨_, _, _, rfl, rfl, rfl, rfl, (szk (k := 1) rfl rfl), rfl⟩⟩⟩ rfl) ?_
 refine z [34, 1, 8] ?_
 exact rt []
theorem c_tape_blank {x0} : ∀ r, m_tape_blank x0 = some r → FnOk Tryz.prog 146 [L_frac_Frac x0] [] (bl r) [] := by
 unfold m_tape_blank
 refine fs Tryz.func146 fun w S0 γ hγ => ?_
 refine z [2] ?_
 refine o (bx' 100) ?_
 refine z [31, 1] ?_
 refine sjq (fun s3 => [(2, bl s3)]) (fun s3 => []) ?_ ?_
 · intro j1 hj2
   refine z [6, 33, 45, 36, 44, 30] ?_
   refine sifd 7 rfl ?_ ?_
   · refine z [22, 22, 22, 22, 22, 38, 30] ?_
     refine sifd 14 rfl ?_ ?_
     · refine z [22, 22, 22, 22, 38, 31, 1] ?_
       exact sj (hj2 _) (eR [])
     refine z [23, 23, 23, 23, 37, 31, 1] ?_
     exact sj (hj2 _) (eR [])
   refine z [23, 23, 23, 23, 23, 37, 30, 23, 23, 23, 23, 37, 31, 1] ?_
   exact sj (hj2 _) (eR [])
 intro s3
 refine z [8] ?_
 exact rt []
theorem c_tape_Reads {x0} : ∀ r, m_tape_Reads x0 = some r → FnOk Tryz.prog 147 [L_tape_Inst x0] [] (sli 1 (List.map i64 r)) [] := by
 unfold m_tape_Reads
 refine fs Tryz.func147 fun w S0 γ hγ => ?_
 refine z [2] ?_
 refine o (bx' 100) ?_
 refine s1 (asg rfl (kLm (k := 1) i64)) ?_
 refine z [1, 5, 2, 33, 36, 1, 7] ?_
 refine sjq (fun s3 => [(1, .own 100), (2, sli 1 (List.map i64 ([] : List Int))), (4, i64 x0.Op), (5, bl s3)]) (fun s3 => [(100, .bx 108 (L_tape_Inst x0))]) ?_ ?_
 · intro j1 hj2
   refine z [2, 41, 31, 1] ?_
   refine c ?_ ?_
   · refine z [9, 4] ?_
     exact sj (hj2 _) (eR [(100, 100)])
   refine z [6, 41, 31, 1] ?_
   exact sj (hj2 _) (eR [(100, 100)])
 intro s3
 refine c ?_ ?_
 · refine z [2, 33, 36] ?_
   refine so (bsl (y := 101) (ls := List.map i64 ([x0.A] : List Int)) Tryz.underlying23 ti_3.h rfl rfl rfl rfl rfl ⟨rfl, rfl, (by exact rfl), (by exact rfl), trivial⟩ rfl rfl) ?_
   refine z [31, 1, 8, 12, 10] ?_
   refine fz 101 [2, 10] [] ?_
   exact rt []
 refine sjq (fun s6 => [(1, .own 100), (2, sli 1 (List.map i64 ([] : List Int))), (11, bl s6)]) (fun s6 => [(100, .bx 108 (L_tape_Inst x0))]) ?_ ?_
 · intro j4 hj5
   refine z [2, 41, 31, 1] ?_
   refine c ?_ ?_
   · refine z [9, 4] ?_
     exact sj (hj5 _) (eR [(100, 100)])
   refine z [2, 41, 31, 1] ?_
   refine c ?_ ?_
   · refine z [9, 4] ?_
     exact sj (hj5 _) (eR [(100, 100)])
   refine z [2, 41, 31, 1] ?_
   refine c ?_ ?_
   · refine z [9, 4] ?_
     exact sj (hj5 _) (eR [(100, 100)])
   refine z [6, 41, 31, 1] ?_
   exact sj (hj5 _) (eR [(100, 100)])
 intro s6
 refine c ?_ ?_
 · refine z [2, 33, 36, 33, 36] ?_
   refine so (bsl (y := 101) (ls := List.map i64 ([x0.A, x0.B] : List Int)) Tryz.underlying23 ti_3.h rfl rfl rfl rfl rfl ⟨rfl, rfl, (by exact rfl), (by exact rfl), rfl, rfl, (by exact rfl), (by exact rfl), trivial⟩ rfl rfl) ?_
   refine z [31, 1, 8, 12, 10] ?_
   refine fz 101 [2, 20] [] ?_
   exact rt []
 refine z [9, 11, 4, 2] ?_
 refine s1 (asg rfl (kLm (k := 1) i64)) ?_
 refine z [1, 8] ?_
 exact rt []
theorem c_tape_may {n : Nat} {x0} {x1} : ∀ r, m_tape_may n x0 x1 = some r → FnOk Tryz.prog 111 [L_tape_Tape x0, i64 x1] [] (bl r) [] := by
 unfold m_tape_may
 refine fs Tryz.func111 fun w S0 γ hγ => ?_
 refine z [2] ?_
 refine o (bx' 100) ?_
 refine z [31, 1, 2, 33, 36, 30] ?_
 refine b fun y1 h2 => ?_
 refine z [43, 42] ?_
 refine o (al' 101) ?_
 refine z [34, 1, 5, 2, 33, 36, 41, 1] ?_
 refine c ?_ ?_
 · refine sjq (fun s9 => [(1, i64 x1), (2, .own 100), (4, bl s9), (5, .own 101)]) (fun s9 => [(100, .bx 42 (L_tape_Tape x0)), (101, .bx 108 (L_tape_Inst y1))]) ?_ ?_
   · intro j7 hj8
     refine z [6, 32] ?_
     refine cb (ca c_tape_of) fun r10 => ?_
     refine s1 (bld (l := [i64 (1 : Int), i64 0, i64 0]) pl_241.h ti_241.h zr_tape_numbers ⟨_, _, _, (kI (x := 1) rfl), rfl, rfl, rfl, (szk (k := 1) rfl rfl), rfl⟩ rfl) ?_
     refine s1 (eqA (p := (r10 : M_tape_numbers)) (q := ((⟨(1 : Int), 0, 0⟩ : M_tape_numbers) : M_tape_numbers)) eq_241_2 rfl eg_241 rfl rfl rfl) ?_
     refine z [30] ?_
     refine sifd 20 rfl ?_ ?_
     · refine z [22, 22] ?_
       refine b fun r12 h13 => ?_
       refine og' (c0 (c_frac_Right _ h13)) ?_
       refine z [38, 31, 1] ?_
       exact sj (hj8 _) (eR [(100, 100), (101, 101)])
     refine z [23, 23, 23, 37, 31, 1] ?_
     exact sj (hj8 _) (eR [(100, 100), (101, 101)])
   intro s9
   refine z [8, 10] ?_
   exact rt []
 refine z [9, 4, 5, 2, 33, 36] ?_
 refine cb (ca c_tape_blank) fun r14 => ?_
 refine z [44, 1] ?_
 refine c ?_ ?_
 · refine z [2, 31, 1, 8, 10] ?_
   exact rt []
 refine z [9, 4, 5, 2, 32] ?_
 refine cb (ca c_tape_Reads) fun r16 => ?_
 refine z [39, 30, 1, 7] ?_
 refine srN (fun s25 => [(1, i64 x1), (2, .own 100), (4, bl false), (5, .own 101), (30, sli 1 (List.map i64 r16))]) (fun s25 => [(100, .bx 42 (L_tape_Tape x0)), (101, .bx 108 (L_tape_Inst y1))]) (rE (eR [(100, 100), (101, 101)])) ?_ ?_
 · intro i26 x27 s25 hx28
   refine z [7, 2, 43, 42, 31, 1, 2, 30, 30] ?_
   refine cb (ca c_tape_below) fun r29 => ?_
   refine z [44, 1] ?_
   refine c ?_ ?_
   · refine z [2, 31, 1, 8, 12] ?_
     refine sU ?_
     refine z [12, 10] ?_
     exact rt []
   refine z [9, 11] ?_
   exact sgo (eR [(100, 100), (101, 101)])
 intro s31
 refine z [13, 4, 5, 2, 33, 36, 1, 7, 2, 41, 31, 1] ?_
 refine c ?_ ?_
 · refine z [2, 32] ?_
   refine cb (ca c_tape_of) fun r32 => ?_
   refine s1 (bld (l := [i64 (2 : Int), i64 0, i64 0]) pl_241.h ti_241.h zr_tape_numbers ⟨_, _, _, (kI (x := 2) rfl), rfl, rfl, rfl, (szk (k := 1) rfl rfl), rfl⟩ rfl) ?_
   refine s1 (eqA (p := (r32 : M_tape_numbers)) (q := ((⟨(2 : Int), 0, 0⟩ : M_tape_numbers) : M_tape_numbers)) eq_241_2 rfl eg_241 rfl rfl rfl) ?_
   refine z [31, 1, 8, 12, 10] ?_
   exact rt []
 refine z [2, 41, 31, 1] ?_
 refine c ?_ ?_
 · refine sjq (fun s38 => [(4, bl s38), (5, .own 101)]) (fun s38 => [(101, .bx 108 (L_tape_Inst y1))]) ?_ ?_
   · intro j36 hj37
     refine z [6, 33, 36, 33, 36] ?_
     refine cb (ca c_tape_below) fun r39 => ?_
     refine z [30] ?_
     refine sifd 56 rfl ?_ ?_
     · refine z [22, 22, 22, 38, 31, 1] ?_
       exact sj (hj37 _) (eR [(101, 101)])
     refine z [23, 23, 23, 37, 31, 1] ?_
     exact sj (hj37 _) (eR [(101, 101)])
   intro s38
   refine z [8, 12, 10] ?_
   exact rt []
 refine z [2, 41, 31, 1] ?_
 refine c ?_ ?_
 · refine sjq (fun s45 => [(4, bl s45), (5, .own 101)]) (fun s45 => [(101, .bx 108 (L_tape_Inst y1))]) ?_ ?_
   · intro j43 hj44
     refine z [6, 33, 36, 33, 36] ?_
     refine cb (ca c_tape_below) fun r46 => ?_
     refine z [30] ?_
     refine sifd 68 rfl ?_ ?_
     · refine z [22, 22, 22, 38, 31, 1] ?_
       exact sj (hj44 _) (eR [(101, 101)])
     refine z [23, 23, 23, 37, 31, 1] ?_
     exact sj (hj44 _) (eR [(101, 101)])
   intro s45
   refine z [8, 12, 10] ?_
   exact rt []
 refine z [2, 41, 31, 1] ?_
 refine c ?_ ?_
 · refine z [2, 33, 36, 41, 31, 1, 8, 12, 10] ?_
   exact rt []
 refine z [2, 41, 31, 1] ?_
 refine c ?_ ?_
 · refine sjq (fun s50 => [(4, bl s50), (5, .own 101)]) (fun s50 => [(101, .bx 108 (L_tape_Inst y1))]) ?_ ?_
   · intro j48 hj49
     refine z [6, 33, 36, 57, 30] ?_
     refine sifd 83 rfl ?_ ?_
     · refine z [22, 22, 22, 38, 31, 1] ?_
       exact sj (hj49 _) (eR [(101, 101)])
     refine z [23, 23, 23, 37, 31, 1] ?_
     exact sj (hj49 _) (eR [(101, 101)])
   intro s50
   refine z [8, 12, 10] ?_
   exact rt []
 refine z [9, 11, 4, 2, 32] ?_
 refine cb (ca c_tape_Reads) fun r51 => ?_
 refine z [39, 41, 31, 1, 8] ?_
 exact rt []
theorem c_tape_Wrong {n : Nat} {x0} : ∀ r, m_tape_Wrong n x0 = some r → FnOk Tryz.prog 80 [L_tape_Tape x0] [] (i64 r) [] := by
 unfold m_tape_Wrong
 refine fs Tryz.func80 fun w S0 γ hγ => ?_
 refine z [2] ?_
 refine o (bx' 100) ?_
 refine z [31, 1, 5, 2, 32] ?_
 refine cb (ca c_tape_whole) fun r1 => ?_
 refine z [44, 1] ?_
 refine c ?_ ?_
 · refine z [2, 31, 1, 8, 10] ?_
   exact rt []
 refine z [9, 4, 5, 2, 33, 36, 39, 30, 1, 7] ?_
 refine srN (fun s10 => [(1, .own 100), (2, i64 (0 : Int))]) (fun s10 => [(100, .bx 42 (L_tape_Tape x0))]) (rE (eR [(100, 100)])) ?_ ?_
 · intro i11 x12 s10 hx13
   refine z [7, 2, 30, 31, 1, 2, 32, 30] ?_
   refine cb (ca c_tape_may) fun r14 => ?_
   refine z [44, 1] ?_
   refine c ?_ ?_
   · refine z [2, 30, 31, 1, 8, 12] ?_
     refine sU ?_
     refine z [12, 10] ?_
     exact rt []
   refine z [9, 11] ?_
   exact sgo (eR [(100, 100)])
 intro s16
 refine z [13, 4, 5, 2, 33, 36, 39, 30, 1, 7] ?_
 refine srN (fun s24 => [(1, .own 100), (2, i64 (0 : Int)), (22, sli 1 (List.map i64 x0.Outs))]) (fun s24 => [(100, .bx 42 (L_tape_Tape x0))]) (rE (eR [(100, 100)])) ?_ ?_
 · intro i25 x26 s24 hx27
   refine z [7, 2, 43, 42, 31, 1, 2, 30, 33, 36, 39] ?_
   refine cb (ca c_tape_below) fun r28 => ?_
   refine z [44, 1] ?_
   refine c ?_ ?_
   · refine z [2, 33, 36, 39, 31, 1, 8, 12] ?_
     refine sU ?_
     refine z [12, 10] ?_
     exact rt []
   refine z [9, 11] ?_
   exact sgo (eR [(100, 100)])
 intro s30
 refine z [13, 4, 2, 31, 1, 8] ?_
 exact rt []
theorem c_tape_Right {n : Nat} {x0} : ∀ r, m_tape_Right n x0 = some r → FnOk Tryz.prog 53 [L_tape_Tape x0] [] (bl r) [] := by
 unfold m_tape_Right
 refine fs Tryz.func53 fun w S0 γ hγ => ?_
 refine z [2] ?_
 refine o (bx' 100) ?_
 refine z [31, 1, 2, 32] ?_
 refine cb (ca c_tape_Wrong) fun r1 => ?_
 refine z [41, 31, 1, 8] ?_
 exact rt []
theorem c_scheme_Right {n : Nat} {x0} : ∀ r, m_scheme_Right n x0 = some r → FnOk Tryz.prog 54 [L_scheme_Scheme x0] [] (bl r) [] := by
 unfold m_scheme_Right
 refine fs Tryz.func54 fun w S0 γ hγ => ?_
 refine z [2] ?_
 refine o (bx' 100) ?_
 refine z [31, 1, 2, 32] ?_
 refine cb (ca c_scheme_Wrong) fun r1 => ?_
 refine z [41, 31, 1, 8] ?_
 exact rt []
theorem c_step_Right {n : Nat} {x0} : ∀ r, m_step_Right n x0 = some r → FnOk Tryz.prog 30 [L_step_Problem x0] [] (bl r) [] := by
 unfold m_step_Right
 refine fs Tryz.func30 fun w S0 γ hγ => ?_
 refine z [2] ?_
 refine o (bx' 100) ?_
 refine z [31, 1] ?_
 refine sjq (fun s7 => [(2, bl s7)]) (fun s7 => []) ?_ ?_
 · intro j5 hj6
   refine z [6, 33, 36] ?_
   refine cb (ca c_tape_Right) fun r8 => ?_
   refine z [30] ?_
   refine sifd 6 rfl ?_ ?_
   · refine z [22, 22] ?_
     refine b fun r10 h11 => ?_
     refine og' (c0 (c_scheme_Right _ h11)) ?_
     refine z [38, 30] ?_
     refine sifd 11 rfl ?_ ?_
     · refine z [22, 22, 22, 22, 22, 22, 22, 38, 31, 1] ?_
       exact sj (hj6 _) (eR [])
     refine z [23, 23, 23, 23, 23, 23, 23, 37, 31, 1] ?_
     exact sj (hj6 _) (eR [])
   refine z [23, 23, 23, 37, 30, 23, 23, 23, 23, 23, 23, 23, 37, 31, 1] ?_
   exact sj (hj6 _) (eR [])
 intro s7
 refine z [8] ?_
 exact rt []
theorem c_gauge_New {x0} : ∀ r, m_gauge_New x0 = some r → FnOk Tryz.prog 31 [i64 x0] [] (.own 50) [(50, .bx 132 (L_gauge_Gauge r))] := by
 unfold m_gauge_New
 refine fs Tryz.func31 fun w S0 γ hγ => ?_
 refine z [2, 31, 1, 2, 30, 88, 89] ?_
 refine s1 (bld (l := [L_gauge_Count (⟨0, 0⟩ : M_gauge_Count), i64 (min (max x0 (0 : Int)) (4096 : Int))]) pl_132.h ti_132.h zr_gauge_Gauge ⟨_, _, _, rfl, rfl, rfl, rfl, (szk (k := 1) rfl rfl), rfl⟩ rfl) ?_
 refine o (bx' 100) ?_
 refine z [31, 1, 8] ?_
 exact rt [(50, 100)]
theorem c_row_Zero {n : Nat} {x0} : ∀ r, m_row_Zero n x0 = some r → FnOk Tryz.prog 115 [i64 x0] [] (.own 50) [(50, .sl 54 3 (List.map L_frac_Frac r))] := by
 unfold m_row_Zero
 refine fs Tryz.func115 fun w S0 γ hγ => ?_
 refine z [2] ?_
 refine s1 (asg rfl (kLm (k := 3) L_frac_Frac)) ?_
 refine z [1, 2, 30, 88, 89, 31, 1, 2, 30] ?_
 refine b fun y1 h2 => ?_
 refine so (mks (y := 100) (f := L_frac_Frac) h2 Tryz.underlying43 ti_54.h zr_frac_Frac rfl rfl rfl rfl rfl rfl) ?_
 refine z [31, 1, 5, 2, 30, 30, 1, 7] ?_
 refine sloopE 0 (fun t => t) (fun s15 => [(2, sli 3 (List.map L_frac_Frac ([] : List M_frac_Frac))), (3, .own 100), (10, i64 (min (max x0 (0 : Int)) (300 : Int))), (11, i64 s15.2)]) (fun s15 => [(100, .sl 54 3 (List.map L_frac_Frac s15.1))]) (fun t13 => [(2, sli 3 (List.map L_frac_Frac ([] : List M_frac_Frac))), (3, .own 100)]) (fun t13 => [(100, .sl 54 3 (List.map L_frac_Frac t13))]) (eR [(100, 100)]) ?_ ?_
 · intro hj14 s15
   refine z [2, 46, 1, 5] ?_
   refine c ?_ ?_
   · refine z [9, 4, 5, 7, 2, 30, 31, 1, 6, 30, 30] ?_
     refine cb (ca c_frac_Of) fun r16 => ?_
     refine b fun y18 h19 => ?_
     refine z [50, 53, 3, 11, 4, 6, 40, 30, 3] ?_
     exact sgo (eR [(100, 100)])
   refine z [14, 15] ?_
   exact su (sj (hj14 _) (eR [(100, 100)]))
 intro t13
 refine z [13, 4, 2, 30, 31, 1, 8] ?_
 exact rt [(50, 100)]
theorem c_frac_Sign {n : Nat} {x0} : ∀ r, m_frac_Sign n x0 = some r → FnOk Tryz.prog 14 [L_frac_Frac x0] [] (i64 r) [] := by
 unfold m_frac_Sign
 refine fs Tryz.func14 fun w S0 γ hγ => ?_
 refine z [2] ?_
 refine o (bx' 100) ?_
 refine z [31, 1, 2, 32] ?_
 refine cb (ca c_frac_parts) fun r1 => ?_
 refine z [30, 35, 35] ?_
 refine o (al' 101) ?_
 refine z [34, 31, 1, 2, 32] ?_
 refine cb (ca c_whole_Sign) fun r3 => ?_
 refine z [31, 1, 8] ?_
 exact rt []
theorem c_frac_Mul {n : Nat} {x0} {x1} : ∀ r, m_frac_Mul n x0 x1 = some r → FnOk Tryz.prog 66 [L_frac_Frac x0, L_frac_Frac x1] [] (L_frac_Frac r) [] := by
 unfold m_frac_Mul
 refine fs Tryz.func66 fun w S0 γ hγ => ?_
 refine z [2] ?_
 refine o (bx' 100) ?_
 refine o (bx' 101) ?_
 refine o (al' 102) ?_
 refine z [1, 2, 32] ?_
 refine cb (ca c_frac_parts) fun r1 => ?_
 refine z [30, 35, 35] ?_
 refine o (al' 103) ?_
 refine z [34, 31, 1, 2, 32] ?_
 refine cb (ca c_frac_parts) fun r3 => ?_
 refine z [30, 35, 35] ?_
 refine o (al' 104) ?_
 refine z [34, 31, 1, 2, 32, 32] ?_
 refine cb (ca c_whole_Mul) fun r5 => ?_
 refine z [30, 30] ?_
 refine cb (ca c_prod_Mul) fun r7 => ?_
 refine cb (ca c_frac_cancel) fun r9 => ?_
 refine z [34, 1, 8] ?_
 exact rt []
theorem c_row_Mix_o1 {n : Nat} {x0} {x1} {x2} : ∀ r, m_row_Mix_o1 n x0 x1 x2 = some r → FnOk Tryz.prog 85 [sli 3 (List.map L_frac_Frac x0), .own 0, i64 x2] [(0, .sl 43 1 (List.map L_S_frac_Frac x1))] (.tup [sli 3 (List.map L_frac_Frac r.1), bl r.2]) [(0, .sl 43 1 (List.map L_S_frac_Frac x1))] := by
 unfold m_row_Mix_o1
 refine fs Tryz.func85 fun w S0 γ hγ => ?_
 refine z [2] ?_
 refine s1 (asg rfl (kLm (k := 3) L_frac_Frac)) ?_
 refine z [31, 1, 5] ?_
 refine sjq (fun s3 => [(0, sli 3 (List.map L_frac_Frac x0)), (1, .own 0), (2, i64 x2), (6, sli 3 (List.map L_frac_Frac ([] : List M_frac_Frac))), (7, bl false), (27, bl s3)]) (fun s3 => [(0, .sl 43 1 (List.map L_S_frac_Frac x1))]) ?_ ?_
 · intro j1 hj2
   refine z [6, 30, 39, 30, 55, 56, 30] ?_
   refine sifd 20 rfl ?_ ?_
   · refine z [23, 23, 38, 30, 23, 23, 38, 1] ?_
     exact sj (hj2 _) (eR [(0, 0)])
   refine z [22, 22, 37, 30] ?_
   refine sifd 24 rfl ?_ ?_
   · refine z [23, 23, 38, 1] ?_
     exact sj (hj2 _) (eR [(0, 0)])
   refine z [22, 22, 37, 1] ?_
   exact sj (hj2 _) (eR [(0, 0)])
 intro s3
 refine c ?_ ?_
 · refine z [2] ?_
   refine s1 (asg rfl (kLm (k := 3) L_frac_Frac)) ?_
   refine z [31, 1, 8, 10] ?_
   exact rt [(0, 0)]
 refine z [9, 4, 5, 2, 30, 55, 30, 1, 7] ?_
 refine srN (fun s9 => [(0, sli 3 (List.map L_frac_Frac x0)), (1, .own 0), (2, i64 x2), (6, sli 3 (List.map L_frac_Frac ([] : List M_frac_Frac))), (7, bl false), (28, .own 0)]) (fun s9 => [(0, .sl 43 1 (List.map L_S_frac_Frac x1))]) (rE (eR [(0, 0)])) ?_ ?_
 · intro i10 x11 s9 hx12
   refine z [7, 2, 50, 51, 31, 1, 2, 30, 39, 30, 56, 1] ?_
   refine c ?_ ?_
   · refine z [2] ?_
     refine s1 (asg rfl (kLm (k := 3) L_frac_Frac)) ?_
     refine z [31, 1, 8, 12] ?_
     refine sU ?_
     refine z [12, 10] ?_
     exact rt [(0, 0)]
   refine z [9, 11] ?_
   exact sgo (eR [(0, 0)])
 intro s13
 refine z [13, 4, 2, 30] ?_
 refine b fun r14 h15 => ?_
 refine o (cG (c_row_Zero _ h15) [] [(100, 50)] []) ?_
 refine z [31, 1, 5, 2, 30, 55, 30, 1, 7] ?_
 refine srN (fun s107 => [(0, sli 3 (List.map L_frac_Frac x0)), (6, sli 3 (List.map L_frac_Frac ([] : List M_frac_Frac))), (7, bl false), (10, .own 100), (41, .own 0)]) (fun s107 => [(0, .sl 43 1 (List.map L_S_frac_Frac x1)), (100, .sl 54 3 (List.map L_frac_Frac s107))]) (rE (eR [(0, 0), (100, 100)])) ?_ ?_
 · intro i108 x109 s107 hx110
   refine z [7, 2, 30, 50, 51, 31, 31, 1, 5, 2, 30, 30] ?_
   refine b fun y111 h112 => ?_
   refine z [43, 42] ?_
   refine cb (ca c_frac_Sign) fun r113 => ?_
   refine z [41, 1] ?_
   refine c ?_ ?_
   · refine z [14, 15, 13] ?_
     exact sgo (eR [(0, 0), (100, 100)])
   refine z [9, 4, 2, 30, 39, 30, 1, 7] ?_
   refine srN (fun s130 => [(0, sli 3 (List.map L_frac_Frac x0)), (6, sli 3 (List.map L_frac_Frac ([] : List M_frac_Frac))), (7, bl false), (10, .own 100), (11, i64 (i108 : Int)), (41, .own 0), (42, i64 (x1.length : Int)), (43, i64 (i108 : Int)), (54, sli 3 (List.map L_frac_Frac x109))]) (fun s130 => [(0, .sl 43 1 (List.map L_S_frac_Frac x1)), (100, .sl 54 3 (List.map L_frac_Frac s130))]) (rE (eR [(0, 0), (100, 100)])) ?_ ?_
   · intro i131 x132 s130 hx133
     refine z [7, 2, 30, 43, 42] ?_
     refine o (al' 101) ?_
     refine z [31, 34, 1] ?_
     refine b fun y134 h135 => ?_
     refine b fun y136 h137 => ?_
     refine b fun r138 h139 => ?_
     refine b fun r140 h141 => ?_
     refine b fun y142 h143 => ?_
     refine sd ?_
     refine zd [[], [], [], []] ?_
     refine dx [63, 64] [100] (fun st mm ⟨a63, a64, _⟩ ⟨g100, _⟩ => og (ixO (f := L_frac_Frac) (g100.trans rfl) Tryz.underlying43 ti_54.h h135 rfl (a63.trans rfl) (a64.trans rfl))) ?_
     refine dx [65] [100] (fun st mm ⟨a65, _⟩ ⟨g100, _⟩ => og (ldO (f := L_frac_Frac) [] (g100.trans rfl) (getI_ix h135) (by exact rfl) off0 sh_54.h (by exact rfl) (by exact rfl) rfl (a65.trans rfl))) ?_
     refine zd [[], [], [], [], [101]] ?_
     refine dd [] (fun _ _ _ _ => c0 (c_frac_Mul _ h139)) ?_
     refine dd [] (fun _ _ _ _ => c0 (c_frac_Add _ h141)) ?_
     refine dx [61, 62] [100] (fun st mm ⟨a61, a62, _⟩ ⟨g100, _⟩ => og (ixO (f := L_frac_Frac) (g100.trans rfl) Tryz.underlying43 ti_54.h h143 rfl (a61.trans rfl) (a62.trans rfl))) ?_
     refine dx [74, 73] [100] (fun st mm ⟨a74, a73, _⟩ ⟨g100, _⟩ => og (stO (f := L_frac_Frac) r140 [] (g100.trans rfl) (getI_ix h143) (by exact rfl) off0 (by exact rfl) (by exact rfl) sh_54.h (by exact rfl) (by exact rfl) (by exact rfl) (a74.trans rfl) (a73.trans rfl))) ?_
     refine de fol ?_
     refine z [11] ?_
     exact sgo (eR [(0, 0), (100, 100)])
   intro s144
   refine z [13, 11] ?_
   exact sgo (eR [(0, 0), (100, 100)])
 intro s145
 refine z [13, 4, 2, 30, 31, 31, 1, 8] ?_
 refine fz 100 [6, 10, 77] [] ?_
 exact rt [(0, 0)]
theorem c_row_Scale {n : Nat} {x0} {x1} : ∀ r, m_row_Scale n x0 x1 = some r → FnOk Tryz.prog 43 [L_frac_Frac x0, sli 3 (List.map L_frac_Frac x1)] [] (sli 3 (List.map L_frac_Frac r)) [] := by
 unfold m_row_Scale
 refine fs Tryz.func43 fun w S0 γ hγ => ?_
 refine z [2] ?_
 refine o (bx' 100) ?_
 refine s1 (asg rfl (kLm (k := 3) L_frac_Frac)) ?_
 refine z [1, 2] ?_
 refine so (asgN (y := 101) (E := 54) (k := 3) rfl rfl) ?_
 refine z [1, 5, 2, 30, 39, 30, 1, 7] ?_
 refine srN (fun s18 => [(2, .own 100), (4, sli 3 (List.map L_frac_Frac ([] : List M_frac_Frac))), (5, .own 101), (8, sli 3 (List.map L_frac_Frac x1))]) (fun s18 => [(100, .bx 54 (L_frac_Frac x0)), (101, .sl 54 3 (List.map L_frac_Frac s18))]) (rE (eR [(100, 100), (101, 101)])) ?_ ?_
 · intro i19 x20 s18 hx21
   refine z [7, 2, 43, 42] ?_
   refine o (al' 102) ?_
   refine z [34, 1, 6, 30, 32, 32] ?_
   refine cb (ca c_frac_Mul) fun r22 => ?_
   refine so (bsl (y := 103) (ls := List.map L_frac_Frac ([r22] : List M_frac_Frac)) Tryz.underlying43 ti_54.h rfl rfl rfl rfl rfl ⟨rfl, rfl, (by exact rfl), (by exact rfl), trivial⟩ rfl rfl) ?_
   refine b fun y24 h25 => ?_
   refine o (app' 104) ?_
   refine z [31, 3, 11] ?_
   exact sgo (eR [(100, 100), (101, 104)])
 intro s26
 refine z [13, 4, 2, 30, 31, 1, 8] ?_
 refine fz 101 [4, 5, 21] [] ?_
 exact rt []
theorem c___step_maker__toward {n : Nat} {x0_p} {x0_t} {x0_h} {x0_y} {x0_g} {x0_out_Ys} {x0_out_Ks} {x0_out_Next} {x0_out_Err} {x1} : ∀ r, m___step_maker__toward n x0_p x0_t x0_h x0_y x0_g x0_out_Ys x0_out_Ks x0_out_Next x0_out_Err x1 = some r → FnOk Tryz.prog 59 [.own 0, sli 3 (List.map L_frac_Frac x1)] [(0, .bx 93 (.agg [L_step_Problem x0_p, L_frac_Frac x0_t, L_frac_Frac x0_h, sli 3 (List.map L_frac_Frac x0_y), .own 1, .agg [.own 2, .own 3, sli 3 (List.map L_frac_Frac x0_out_Next), sli 3 (List.map L_frac_Frac x0_out_Err)]])), (1, .bx 132 (L_gauge_Gauge x0_g)), (2, .sl 43 1 (List.map L_S_frac_Frac x0_out_Ys)), (3, .sl 43 1 (List.map L_S_frac_Frac x0_out_Ks))] (sli 3 (List.map L_frac_Frac r)) [(0, .bx 93 (.agg [L_step_Problem x0_p, L_frac_Frac x0_t, L_frac_Frac x0_h, sli 3 (List.map L_frac_Frac x0_y), .own 1, .agg [.own 2, .own 3, sli 3 (List.map L_frac_Frac x0_out_Next), sli 3 (List.map L_frac_Frac x0_out_Err)]])), (1, .bx 132 (L_gauge_Gauge x0_g)), (2, .sl 43 1 (List.map L_S_frac_Frac x0_out_Ys)), (3, .sl 43 1 (List.map L_S_frac_Frac x0_out_Ks))] := by
 unfold m___step_maker__toward
 refine fs Tryz.func59 fun w S0 γ hγ => ?_
 refine z [2] ?_
 refine s1 (asg rfl (kLm (k := 3) L_frac_Frac)) ?_
 refine z [1, 5] ?_
 refine b fun r1 h2 => ?_
 refine sd ?_
 refine zd [[], [], [0], [0], [], [0], [], [0], [0], [0], []] ?_
 refine dd [3] (fun _ _ _ _ => cG (c_row_Mix_o1 _ h2) [3] [] [3]) ?_
 refine zd [[], [], [], [], []] ?_
 refine de fol ?_
 refine z [4, 2, 30, 48, 33, 36, 30] ?_
 refine cb (ca c_row_Scale) fun r3 => ?_
 refine z [31, 1, 8] ?_
 exact rt [(0, 0), (1, 1), (2, 2), (3, 3)]
theorem c_row_norm {n : Nat} {x0} : ∀ r, m_row_norm n x0 = some r → FnOk Tryz.prog 113 [sli 3 (List.map L_frac_Frac x0)] [] (.own 50) [(50, .sl 54 3 (List.map L_frac_Frac r))] := by
 unfold m_row_norm
 refine fs Tryz.func113 fun w S0 γ hγ => ?_
 refine z [2] ?_
 refine s1 (asg rfl (kLm (k := 3) L_frac_Frac)) ?_
 refine z [1, 2] ?_
 refine so (asgN (y := 100) (E := 54) (k := 3) rfl rfl) ?_
 refine z [1, 5, 2, 30, 39, 30, 1, 7] ?_
 refine srN (fun s18 => [(2, sli 3 (List.map L_frac_Frac ([] : List M_frac_Frac))), (3, .own 100), (6, sli 3 (List.map L_frac_Frac x0))]) (fun s18 => [(100, .sl 54 3 (List.map L_frac_Frac s18))]) (rE (eR [(100, 100)])) ?_ ?_
 · intro i19 x20 s18 hx21
   refine z [7, 2, 43, 42] ?_
   refine o (al' 101) ?_
   refine z [34, 1, 6, 30, 32] ?_
   refine cb (ca c_frac_Norm) fun r22 => ?_
   refine so (bsl (y := 102) (ls := List.map L_frac_Frac ([r22] : List M_frac_Frac)) Tryz.underlying43 ti_54.h rfl rfl rfl rfl rfl ⟨rfl, rfl, (by exact rfl), (by exact rfl), trivial⟩ rfl rfl) ?_
   refine b fun y24 h25 => ?_
   refine o (app' 103) ?_
   refine z [31, 3, 11] ?_
   exact sgo (eR [(100, 103)])
 intro s26
 refine z [13, 4, 2, 30, 31, 1, 8] ?_
 exact rt [(50, 100)]
theorem c_row_Add {n : Nat} {x0} : ∀ r, m_row_Add n x0 = some r → FnOk Tryz.prog 82 [sli 1 (List.map L_S_frac_Frac x0)] [] (.tup [sli 3 (List.map L_frac_Frac r.1), bl r.2]) [] := by
 unfold m_row_Add
 refine fs Tryz.func82 fun w S0 γ hγ => ?_
 refine z [2] ?_
 refine s1 (asg rfl (kLm (k := 3) L_frac_Frac)) ?_
 refine z [31, 1, 5, 2, 30, 39, 41, 1] ?_
 refine c ?_ ?_
 · refine z [2] ?_
   refine s1 (asg rfl (kLm (k := 3) L_frac_Frac)) ?_
   refine z [31, 1, 8, 10] ?_
   exact rt []
 refine z [9, 4, 2, 30] ?_
 refine b fun y1 h2 => ?_
 refine z [43, 42] ?_
 refine b fun r3 h4 => ?_
 refine o (cG (c_row_norm _ h4) [] [(100, 50)] []) ?_
 refine z [31, 1, 5, 2, 30] ?_
 refine b fun y5 h6 => ?_
 refine s1 (slR (f := L_S_frac_Frac) h6 Tryz.underlying44 ti_43.h rfl rfl (bnd (kI (x := 1) rfl)) bnd0) ?_
 refine z [39, 30, 1, 7] ?_
 refine srN (fun s70 => [(2, sli 3 (List.map L_frac_Frac ([] : List M_frac_Frac))), (3, bl false), (4, .own 100), (17, sli 1 (List.map L_S_frac_Frac y5))]) (fun s70 => [(100, .sl 54 3 (List.map L_frac_Frac s70))]) (rE (eR [(100, 100)])) ?_ ?_
 · intro i71 x72 s70 hx73
   refine z [7, 2, 43, 42, 31, 1, 5, 2, 30, 39, 30, 55, 56, 1] ?_
   refine c ?_ ?_
   · refine z [2] ?_
     refine s1 (asg rfl (kLm (k := 3) L_frac_Frac)) ?_
     refine z [31, 1, 8, 10, 12] ?_
     refine sU ?_
     refine z [12, 10] ?_
     exact rt []
   refine z [9, 4, 2, 30, 39, 30, 1, 7] ?_
   refine srN (fun s85 => [(2, sli 3 (List.map L_frac_Frac ([] : List M_frac_Frac))), (3, bl false), (4, .own 100), (17, sli 1 (List.map L_S_frac_Frac y5)), (18, i64 (y5.length : Int)), (19, i64 (i71 : Int)), (28, sli 3 (List.map L_frac_Frac x72))]) (fun s85 => [(100, .sl 54 3 (List.map L_frac_Frac s85))]) (rE (eR [(100, 100)])) ?_ ?_
   · intro i86 x87 s85 hx88
     refine z [7, 2, 30, 43, 42] ?_
     refine o (al' 101) ?_
     refine z [31, 34, 1] ?_
     refine b fun y89 h90 => ?_
     refine b fun r91 h92 => ?_
     refine b fun y93 h94 => ?_
     refine sd ?_
     refine zd [[], [], [], []] ?_
     refine dx [37, 38] [100] (fun st mm ⟨a37, a38, _⟩ ⟨g100, _⟩ => og (ixO (f := L_frac_Frac) (g100.trans rfl) Tryz.underlying43 ti_54.h h90 rfl (a37.trans rfl) (a38.trans rfl))) ?_
     refine dx [39] [100] (fun st mm ⟨a39, _⟩ ⟨g100, _⟩ => og (ldO (f := L_frac_Frac) [] (g100.trans rfl) (getI_ix h90) (by exact rfl) off0 sh_54.h (by exact rfl) (by exact rfl) rfl (a39.trans rfl))) ?_
     refine zd [[101]] ?_
     refine dd [] (fun _ _ _ _ => c0 (c_frac_Add _ h92)) ?_
     refine dx [35, 36] [100] (fun st mm ⟨a35, a36, _⟩ ⟨g100, _⟩ => og (ixO (f := L_frac_Frac) (g100.trans rfl) Tryz.underlying43 ti_54.h h94 rfl (a35.trans rfl) (a36.trans rfl))) ?_
     refine dx [43, 42] [100] (fun st mm ⟨a43, a42, _⟩ ⟨g100, _⟩ => og (stO (f := L_frac_Frac) r91 [] (g100.trans rfl) (getI_ix h94) (by exact rfl) off0 (by exact rfl) (by exact rfl) sh_54.h (by exact rfl) (by exact rfl) (by exact rfl) (a43.trans rfl) (a42.trans rfl))) ?_
     refine de fol ?_
     refine z [11] ?_
     exact sgo (eR [(100, 100)])
   intro s95
   refine z [13, 11] ?_
   exact sgo (eR [(100, 100)])
 intro s96
 refine z [13, 4, 2, 30, 31, 31, 1, 8] ?_
 refine fz 100 [2, 4, 46] [] ?_
 exact rt []
theorem c___step_maker__from {n : Nat} {x0_p} {x0_t} {x0_h} {x0_y} {x0_g} {x0_out_Ys} {x0_out_Ks} {x0_out_Next} {x0_out_Err} {x1} : ∀ r, m___step_maker__from n x0_p x0_t x0_h x0_y x0_g x0_out_Ys x0_out_Ks x0_out_Next x0_out_Err x1 = some r → FnOk Tryz.prog 56 [.own 0, sli 3 (List.map L_frac_Frac x1)] [(0, .bx 93 (.agg [L_step_Problem x0_p, L_frac_Frac x0_t, L_frac_Frac x0_h, sli 3 (List.map L_frac_Frac x0_y), .own 1, .agg [.own 2, .own 3, sli 3 (List.map L_frac_Frac x0_out_Next), sli 3 (List.map L_frac_Frac x0_out_Err)]])), (1, .bx 132 (L_gauge_Gauge x0_g)), (2, .sl 43 1 (List.map L_S_frac_Frac x0_out_Ys)), (3, .sl 43 1 (List.map L_S_frac_Frac x0_out_Ks))] (sli 3 (List.map L_frac_Frac r)) [(0, .bx 93 (.agg [L_step_Problem x0_p, L_frac_Frac x0_t, L_frac_Frac x0_h, sli 3 (List.map L_frac_Frac x0_y), .own 1, .agg [.own 2, .own 3, sli 3 (List.map L_frac_Frac x0_out_Next), sli 3 (List.map L_frac_Frac x0_out_Err)]])), (1, .bx 132 (L_gauge_Gauge x0_g)), (2, .sl 43 1 (List.map L_S_frac_Frac x0_out_Ys)), (3, .sl 43 1 (List.map L_S_frac_Frac x0_out_Ks))] := by
 unfold m___step_maker__from
 refine fs Tryz.func56 fun w S0 γ hγ => ?_
 refine z [2] ?_
 refine s1 (asg rfl (kLm (k := 3) L_frac_Frac)) ?_
 refine z [1, 5] ?_
 refine b fun r3 h4 => ?_
 refine b fun r5 h6 => ?_
 refine sd ?_
 refine zd [[], [0], [0], [0], [], []] ?_
 refine dd [0, 1, 2, 3] (fun _ _ _ _ => cG (c___step_maker__toward _ h4) [0, 1, 2, 3] [] [0, 1, 2, 3]) ?_
 refine dx [11, 14] [100] (fun st mm ⟨a11, a14, _⟩ ⟨g100, _⟩ => og (toV (bsl (y := 100) (ls := List.map L_S_frac_Frac ([x0_y, r3] : List (List M_frac_Frac))) Tryz.underlying44 ti_43.h rfl rfl rfl rfl rfl ⟨rfl, (a11.trans rfl), (by exact rfl), (by exact rfl), rfl, (a14.trans rfl), (by exact rfl), (by exact rfl), trivial⟩ (g100.trans rfl) rfl) (ifs_map (f := L_S_frac_Frac) (fun _ => if_sli) ([x0_y, r3] : List (List M_frac_Frac))))) ?_
 refine dd [] (fun _ _ _ _ => c0 (c_row_Add _ h6)) ?_
 refine zd [[], [], [], [], []] ?_
 refine de fol ?_
 refine z [4, 2, 30, 31, 1, 8] ?_
 exact rt [(0, 0), (1, 1), (2, 2), (3, 3)]
theorem c___gauge_Count__note {x0} {x1} : ∀ r, m___gauge_Count__note x0 x1 = some r → FnOk Tryz.prog 148 [.ptr 0 0, i64 x1] [(0, .bx 132 (L_gauge_Gauge x0))] (.tup []) [(0, .bx 132 (L_gauge_Gauge r))] := by
 unfold m___gauge_Count__note
 refine fs Tryz.func148 fun w S0 γ hγ => ?_
 refine z [2, 30, 48, 45, 36, 40, 48, 45] ?_
 refine o (stP (L_gauge_Gauge (⟨(⟨wrap64 (x0.Count.Seen + (1 : Int)), x0.Count.Peak⟩ : M_gauge_Count), x0.limit⟩ : M_gauge_Gauge)) [0, 0]) ?_
 refine z [1, 6, 30, 30, 48, 45, 36, 30, 88, 48, 45] ?_
 refine o (stP (L_gauge_Gauge (⟨(⟨wrap64 (x0.Count.Seen + (1 : Int)), max x0.Count.Peak x1⟩ : M_gauge_Count), x0.limit⟩ : M_gauge_Gauge)) [0, 1]) ?_
 refine z [3] ?_
 exact rt [(0, 0)]
theorem c___gauge_Gauge__Take {n : Nat} {x0} {x1} : ∀ r, m___gauge_Gauge__Take n x0 x1 = some r → FnOk Tryz.prog 114 [.own 0, L_frac_Frac x1] [(0, .bx 132 (L_gauge_Gauge x0))] (bl r.1) [(0, .bx 132 (L_gauge_Gauge r.2))] := by
 unfold m___gauge_Gauge__Take
 refine fs Tryz.func114 fun w S0 γ hγ => ?_
 refine z [2] ?_
 refine o (bx' 100) ?_
 refine z [31, 1, 2, 32] ?_
 refine cb (ca c_frac_Size) fun r1 => ?_
 refine z [31, 1, 2, 30, 48, 33, 30] ?_
 refine b fun r3 h4 => ?_
 refine o (cG (c___gauge_Count__note _ h4) [0] [] []) ?_
 refine z [1, 2, 30, 30, 48, 33, 36, 58, 31, 1, 8] ?_
 exact rt [(0, 0)]
theorem c___gauge_Gauge__Row {n : Nat} {x0} {x1} : ∀ r, m___gauge_Gauge__Row n x0 x1 = some r → FnOk Tryz.prog 83 [.own 0, sli 3 (List.map L_frac_Frac x1)] [(0, .bx 132 (L_gauge_Gauge x0))] (.tup [i64 r.1, bl r.2.1]) [(0, .bx 132 (L_gauge_Gauge r.2.2))] := by
 unfold m___gauge_Gauge__Row
 refine fs Tryz.func83 fun w S0 γ hγ => ?_
 refine z [2, 31, 31, 1, 5, 2, 30, 39, 30, 1, 7] ?_
 refine srN (fun s14 => [(0, .own 0), (1, sli 3 (List.map L_frac_Frac x1)), (4, i64 (0 : Int)), (5, bl false), (8, sli 3 (List.map L_frac_Frac x1))]) (fun s14 => [(0, .bx 132 (L_gauge_Gauge s14))]) (rE (eR [(0, 0)])) ?_ ?_
 · intro i15 x16 s14 hx17
   refine z [7, 2, 30, 43, 42] ?_
   refine o (al' 100) ?_
   refine z [31, 34, 1, 2, 30, 32] ?_
   refine b fun r18 h19 => ?_
   refine o (cG (c___gauge_Gauge__Take _ h19) [0] [] []) ?_
   refine z [44, 1] ?_
   refine c ?_ ?_
   · refine z [2, 30, 31, 31, 1, 8, 12] ?_
     refine sU ?_
     refine z [12, 10] ?_
     exact rt [(0, 0)]
   refine z [9, 11] ?_
   exact sgo (eR [(0, 0)])
 intro s20
 refine z [13, 4, 2, 30, 39, 31, 31, 1, 8] ?_
 exact rt [(0, 0)]
theorem c___step_maker__fits {n : Nat} {x0_p} {x0_t} {x0_h} {x0_y} {x0_g} {x0_out_Ys} {x0_out_Ks} {x0_out_Next} {x0_out_Err} {x1} {x2} : ∀ r, m___step_maker__fits n x0_p x0_t x0_h x0_y x0_g x0_out_Ys x0_out_Ks x0_out_Next x0_out_Err x1 x2 = some r → FnOk Tryz.prog 57 [.own 0, sli 3 (List.map L_frac_Frac x1), i64 x2] [(0, .bx 93 (.agg [L_step_Problem x0_p, L_frac_Frac x0_t, L_frac_Frac x0_h, sli 3 (List.map L_frac_Frac x0_y), .own 1, .agg [.own 2, .own 3, sli 3 (List.map L_frac_Frac x0_out_Next), sli 3 (List.map L_frac_Frac x0_out_Err)]])), (1, .bx 132 (L_gauge_Gauge x0_g)), (2, .sl 43 1 (List.map L_S_frac_Frac x0_out_Ys)), (3, .sl 43 1 (List.map L_S_frac_Frac x0_out_Ks))] (L_api_Fault r.1) [(0, .bx 93 (.agg [L_step_Problem x0_p, L_frac_Frac x0_t, L_frac_Frac x0_h, sli 3 (List.map L_frac_Frac x0_y), .own 1, .agg [.own 2, .own 3, sli 3 (List.map L_frac_Frac x0_out_Next), sli 3 (List.map L_frac_Frac x0_out_Err)]])), (1, .bx 132 (L_gauge_Gauge r.2)), (2, .sl 43 1 (List.map L_S_frac_Frac x0_out_Ys)), (3, .sl 43 1 (List.map L_S_frac_Frac x0_out_Ks))] := by
 unfold m___step_maker__fits
 refine fs Tryz.func57 fun w S0 γ hγ => ?_
 refine z [2] ?_
 refine o (al' 100) ?_
 refine z [1, 5, 2, 30, 48, 33, 36, 30] ?_
 refine b fun r1 h2 => ?_
 refine o (cG (c___gauge_Gauge__Row _ h2) [1] [] []) ?_
 refine z [30, 35, 35, 31, 31, 1, 2, 30, 44, 1] ?_
 refine c ?_ ?_
 · refine z [2, 30, 30, 40] ?_
   refine s1 (bld (l := [i64 (6 : Int), i64 0, i64 x2, i64 (wrap64 ((300 : Int) + r1.1))]) pl_59.h ti_59.h zr_api_Fault ⟨_, _, _, (kI (x := 6) rfl), rfl, rfl, rfl, (szk (k := 1) rfl rfl), ⟨_, _, _, rfl, rfl, rfl, rfl, (szk (k := 1) rfl rfl), ⟨_, _, _, rfl, rfl, rfl, rfl, (szk (k := 1) rfl rfl), rfl⟩⟩⟩ rfl) ?_
   refine z [34, 1, 8, 10] ?_
   exact rt [(0, 0), (1, 1), (2, 2), (3, 3)]
 refine z [9, 4, 2] ?_
 refine s1 (bld (l := [i64 0, i64 0, i64 0, i64 0]) pl_59.h ti_59.h zr_api_Fault rfl rfl) ?_
 refine z [34, 1, 8] ?_
 exact rt [(0, 0), (1, 1), (2, 2), (3, 3)]
theorem c_step_Moment {n : Nat} {x0} {x1} {x2} {x3} : ∀ r, m_step_Moment n x0 x1 x2 x3 = some r → FnOk Tryz.prog 81 [L_step_Problem x0, L_frac_Frac x1, L_frac_Frac x2, i64 x3] [] (L_frac_Frac r) [] := by
 unfold m_step_Moment
 refine fs Tryz.func81 fun w S0 γ hγ => ?_
 refine z [2] ?_
 refine o (bx' 100) ?_
 refine o (bx' 101) ?_
 refine o (bx' 102) ?_
 refine o (al' 103) ?_
 refine z [1, 5] ?_
 refine sjq (fun s3 => [(3, i64 x3), (4, .own 100), (5, .own 101), (6, .own 102), (8, .own 103), (18, bl s3)]) (fun s3 => [(100, .bx 48 (L_step_Problem x0)), (101, .bx 54 (L_frac_Frac x1)), (102, .bx 54 (L_frac_Frac x2)), (103, .bx 54 (L_frac_Frac (⟨(⟨false, []⟩ : M_whole_Whole), []⟩ : M_frac_Frac)))]) ?_ ?_
 · intro j1 hj2
   refine z [6, 30, 46, 30] ?_
   refine sifd 11 rfl ?_ ?_
   · refine z [23, 23, 23, 23, 23, 23, 38, 1] ?_
     exact sj (hj2 _) (eR [(100, 100), (101, 101), (102, 102), (103, 103)])
   refine z [22, 22, 22, 22, 22, 22, 37, 1] ?_
   exact sj (hj2 _) (eR [(100, 100), (101, 101), (102, 102), (103, 103)])
 intro s3
 refine c ?_ ?_
 · refine z [2, 32] ?_
   refine cb (ca c_frac_Norm) fun r4 => ?_
   refine z [34, 1, 8, 10] ?_
   exact rt []
 refine z [9, 4, 5] ?_
 refine b fun y6 h7 => ?_
 refine b fun r8 h9 => ?_
 refine b fun r10 h11 => ?_
 refine sd ?_
 refine zd [[101], [102], [100], [], [100], [], [], []] ?_
 refine dd [] (fun _ _ _ _ => c0 (c_frac_Mul _ h9)) ?_
 refine dd [] (fun _ _ _ _ => c0 (c_frac_Add _ h11)) ?_
 refine zd [[103]] ?_
 refine de fol ?_
 refine z [4, 8] ?_
 exact rt []
theorem c_step_at {x0} {x1} {x2} : ∀ r, m_step_at x0 x1 x2 = some r → FnOk Tryz.prog 40 [L_step_Problem x0, L_frac_Frac x1, sli 3 (List.map L_frac_Frac x2)] [] (L_eval_Point r) [] := by
 unfold m_step_at
 refine fs Tryz.func40 fun w S0 γ hγ => ?_
 refine z [2] ?_
 refine o (bx' 100) ?_
 refine o (bx' 101) ?_
 refine o (al' 102) ?_
 refine z [1, 2, 32, 30, 33, 36] ?_
 refine s1 (bld (l := [L_frac_Frac x1, sli 3 (List.map L_frac_Frac x2), sli 3 (List.map L_frac_Frac x0.P)]) pl_105.h ti_105.h zr_eval_Point ⟨_, _, _, rfl, rfl, rfl, rfl, (szk (k := 3) rfl rfl), ⟨_, _, _, rfl, rfl, rfl, rfl, (szk (k := 1) rfl rfl), ⟨_, _, _, rfl, rfl, rfl, rfl, (szk (k := 1) rfl rfl), rfl⟩⟩⟩ rfl) ?_
 refine z [34, 1, 8] ?_
 exact rt []
theorem c_eval_norms {n : Nat} {x0} : ∀ r, m_eval_norms n x0 = some r → FnOk Tryz.prog 116 [sli 3 (List.map L_frac_Frac x0)] [] (sli 3 (List.map L_frac_Frac r)) [] := by
 unfold m_eval_norms
 refine fs Tryz.func116 fun w S0 γ hγ => ?_
 refine z [2] ?_
 refine s1 (asg rfl (kLm (k := 3) L_frac_Frac)) ?_
 refine z [1, 2] ?_
 refine so (asgN (y := 100) (E := 54) (k := 3) rfl rfl) ?_
 refine z [1, 5, 2, 30, 39, 30, 1, 7] ?_
 refine srN (fun s18 => [(2, sli 3 (List.map L_frac_Frac ([] : List M_frac_Frac))), (3, .own 100), (6, sli 3 (List.map L_frac_Frac x0))]) (fun s18 => [(100, .sl 54 3 (List.map L_frac_Frac s18))]) (rE (eR [(100, 100)])) ?_ ?_
 · intro i19 x20 s18 hx21
   refine z [7, 2, 43, 42] ?_
   refine o (al' 101) ?_
   refine z [34, 1, 6, 30, 32] ?_
   refine cb (ca c_frac_Norm) fun r22 => ?_
   refine so (bsl (y := 102) (ls := List.map L_frac_Frac ([r22] : List M_frac_Frac)) Tryz.underlying43 ti_54.h rfl rfl rfl rfl rfl ⟨rfl, rfl, (by exact rfl), (by exact rfl), trivial⟩ rfl rfl) ?_
   refine b fun y24 h25 => ?_
   refine o (app' 103) ?_
   refine z [31, 3, 11] ?_
   exact sgo (eR [(100, 103)])
 intro s26
 refine z [13, 4, 2, 30, 31, 1, 8] ?_
 refine fz 100 [2, 3, 18] [] ?_
 exact rt []
theorem c_eval_Norm {n : Nat} {x0} : ∀ r, m_eval_Norm n x0 = some r → FnOk Tryz.prog 86 [L_eval_Point x0] [] (L_eval_Point r) [] := by
 unfold m_eval_Norm
 refine fs Tryz.func86 fun w S0 γ hγ => ?_
 refine z [2] ?_
 refine o (bx' 100) ?_
 refine o (al' 101) ?_
 refine z [1, 5] ?_
 refine b fun r1 h2 => ?_
 refine b fun r3 h4 => ?_
 refine b fun r5 h6 => ?_
 refine sd ?_
 refine zd [[100], [100]] ?_
 refine dd [] (fun _ _ _ _ => c0 (c_frac_Norm _ h2)) ?_
 refine zd [[100], [100]] ?_
 refine dd [] (fun _ _ _ _ => c0 (c_eval_norms _ h4)) ?_
 refine zd [[100], [100]] ?_
 refine dd [] (fun _ _ _ _ => c0 (c_eval_norms _ h6)) ?_
 refine dx [5, 8, 11] [] (fun st mm ⟨a5, a8, a11, _⟩ _ => og (bld (l := [L_frac_Frac r1, sli 3 (List.map L_frac_Frac r3), sli 3 (List.map L_frac_Frac r5)]) pl_105.h ti_105.h zr_eval_Point ⟨_, _, _, (a5.trans rfl), rfl, rfl, rfl, (szk (k := 3) rfl rfl), ⟨_, _, _, (a8.trans rfl), rfl, rfl, rfl, (szk (k := 1) rfl rfl), ⟨_, _, _, (a11.trans rfl), rfl, rfl, rfl, (szk (k := 1) rfl rfl), rfl⟩⟩⟩ rfl)) ?_
 refine zd [[101]] ?_
 refine de fol ?_
 refine z [4, 8] ?_
 exact rt []
theorem c_frac_Neg {n : Nat} {x0} : ∀ r, m_frac_Neg n x0 = some r → FnOk Tryz.prog 229 [L_frac_Frac x0] [] (L_frac_Frac r) [] := by
 unfold m_frac_Neg
 refine fs Tryz.func229 fun w S0 γ hγ => ?_
 refine z [2] ?_
 refine o (bx' 100) ?_
 refine o (al' 101) ?_
 refine z [1, 2, 32] ?_
 refine cb (ca c_frac_Norm) fun r1 => ?_
 refine o (al' 102) ?_
 refine z [34, 1, 2, 33, 36] ?_
 refine cb (ca c_whole_Neg) fun r3 => ?_
 refine z [33] ?_
 refine o (stP (L_frac_Frac (⟨r3, r1.Den⟩ : M_frac_Frac)) [0]) ?_
 refine z [1, 2, 32, 34, 1, 8] ?_
 exact rt []
theorem c__run_fracs__Neg {n : Nat} {x0_g} {x1} : ∀ r, m__run_fracs__Neg n x0_g x1 = some r → FnOk Tryz.prog 224 [.agg [.own 0], L_frac_Frac x1] [(0, .bx 132 (L_gauge_Gauge x0_g))] (L_frac_Frac r) [(0, .bx 132 (L_gauge_Gauge x0_g))] := by
 unfold m__run_fracs__Neg
 refine fs Tryz.func224 fun w S0 γ hγ => ?_
 refine z [2] ?_
 refine o (bx' 100) ?_
 refine o (bx' 101) ?_
 refine o (al' 102) ?_
 refine z [1, 2, 32] ?_
 refine cb (ca c_frac_Neg) fun r1 => ?_
 refine z [34, 1, 8] ?_
 exact rt [(0, 0)]
theorem c_frac_power {n : Nat} {x0} {x1} : ∀ r, m_frac_power n x0 x1 = some r → FnOk Tryz.prog 232 [sli 1 (List.map u32 x0), i64 x1] [] (sli 1 (List.map u32 r)) [] := by
 unfold m_frac_power
 refine fs Tryz.func232 fun w S0 γ hγ => ?_
 refine z [2] ?_
 refine s1 (asg rfl (kLm (k := 1) u32)) ?_
 refine z [1, 2] ?_
 refine cb (ca c_nat_Of) fun r1 => ?_
 refine z [31, 1, 5, 2, 30, 30, 1, 7] ?_
 refine sloopE 0 (fun t => t) (fun s11 => [(0, sli 1 (List.map u32 x0)), (4, sli 1 (List.map u32 ([] : List Nat))), (5, sli 1 (List.map u32 s11.1)), (7, i64 x1), (8, i64 s11.2)]) (fun s11 => []) (fun t9 => [(4, sli 1 (List.map u32 ([] : List Nat))), (5, sli 1 (List.map u32 t9))]) (fun t9 => []) eI ?_ ?_
 · intro hj10 s11
   refine z [2, 46, 1, 5] ?_
   refine c ?_ ?_
   · refine z [9, 4, 5, 7, 6, 30, 30] ?_
     refine cb (ca c_prod_Mul) fun r12 => ?_
     refine z [31, 3, 11, 4, 6, 40, 30, 3] ?_
     exact sgo eI
   refine z [14, 15] ?_
   exact su (sj (hj10 _) eI)
 intro t9
 refine z [13, 4, 2, 30, 31, 1, 8] ?_
 exact rt []
theorem c_frac_Pow {n : Nat} {x0} {x1} : ∀ r, m_frac_Pow n x0 x1 = some r → FnOk Tryz.prog 230 [L_frac_Frac x0, i64 x1] [] (.tup [L_frac_Frac r.1, bl r.2]) [] := by
 unfold m_frac_Pow
 refine fs Tryz.func230 fun w S0 γ hγ => ?_
 refine z [2] ?_
 refine o (bx' 100) ?_
 refine o (al' 101) ?_
 refine z [31, 1, 5] ?_
 refine sjq (fun s5 => [(1, i64 x1), (2, .own 100), (4, .own 101), (5, bl false), (24, bl s5)]) (fun s5 => [(100, .bx 54 (L_frac_Frac x0)), (101, .bx 54 (L_frac_Frac (⟨(⟨false, []⟩ : M_whole_Whole), []⟩ : M_frac_Frac)))]) ?_ ?_
 · intro j3 hj4
   refine z [6, 30, 46, 30] ?_
   refine sifd 12 rfl ?_ ?_
   · refine z [23, 23, 38, 30, 23, 23, 23, 24, 24, 24, 23, 38, 1] ?_
     exact sj (hj4 _) (eR [(100, 100), (101, 101)])
   refine z [22, 22, 37, 30] ?_
   refine sifd 16 rfl ?_ ?_
   · refine z [23, 23, 23, 24, 24, 24, 23, 38, 1] ?_
     exact sj (hj4 _) (eR [(100, 100), (101, 101)])
   refine z [22, 22, 22] ?_
   refine sifd 19 rfl ?_ ?_
   · refine z [22] ?_
     refine b fun r6 h7 => ?_
     refine og' (c0 (c_frac_Sign _ h7)) ?_
     refine z [22, 22, 37, 1] ?_
     exact sj (hj4 _) (eR [(100, 100), (101, 101)])
   refine z [23, 23, 23, 22, 37, 1] ?_
   exact sj (hj4 _) (eR [(100, 100), (101, 101)])
 intro s5
 refine c ?_ ?_
 · refine z [2] ?_
   refine cb (ca c_frac_Of) fun r8 => ?_
   refine z [34, 31, 1, 8, 10] ?_
   exact rt []
 refine z [9, 4, 2, 32] ?_
 refine cb (ca c_frac_Norm) fun r10 => ?_
 refine o (al' 102) ?_
 refine z [34, 1, 2, 30, 30, 82, 88, 31, 1, 5] ?_
 refine b fun r12 h13 => ?_
 refine b fun r14 h15 => ?_
 refine sd ?_
 refine zd [[102], [], [102], []] ?_
 refine dd [] (fun _ _ _ _ => c0 (c_frac_power _ h13)) ?_
 refine zd [[102], [102], []] ?_
 refine dd [] (fun _ _ _ _ => c0 (c_frac_power _ h15)) ?_
 refine zd [[], []] ?_
 refine de fol ?_
 refine z [4] ?_
 refine sjq (fun s18 => [(4, .own 101), (5, bl false), (6, .own 102), (7, i64 (max x1 (wrap64 (-x1)))), (8, sli 1 (List.map u32 s18.1)), (9, sli 1 (List.map u32 s18.2))]) (fun s18 => [(101, .bx 54 (L_frac_Frac (⟨(⟨false, []⟩ : M_whole_Whole), []⟩ : M_frac_Frac))), (102, .bx 54 (L_frac_Frac r10))]) ?_ ?_
 · intro j16 hj17
   refine z [2, 30, 46, 1] ?_
   refine c ?_ ?_
   · refine z [6, 30, 30, 31, 31, 1] ?_
     exact sj (hj17 _) (eR [(101, 101), (102, 102)])
   refine z [9, 4] ?_
   exact sj (hj17 _) (eR [(101, 101), (102, 102)])
 intro s18
 refine sjq (fun s25 => [(4, .own 101), (5, bl true)]) (fun s25 => [(101, .bx 54 (L_frac_Frac s25))]) ?_ ?_
 · intro j23 hj24
   refine z [6, 33, 45, 36, 30] ?_
   refine sifd 48 rfl ?_ ?_
   · refine z [22, 22, 22, 38, 30] ?_
     refine s1 (bld (l := [bl (decide ((Int.tmod (max x1 (wrap64 (-x1))) (2 : Int)) = (1 : Int))), sli 1 (List.map u32 s18.1)]) pl_52.h ti_52.h zr_whole_Whole ⟨_, _, _, rfl, rfl, rfl, rfl, (szk (k := 1) rfl rfl), ⟨_, _, _, rfl, rfl, rfl, rfl, (szk (k := 1) rfl rfl), rfl⟩⟩ rfl) ?_
     refine cb (ca c_whole_Norm) fun r26 => ?_
     refine z [30] ?_
     refine s1 (bld (l := [L_whole_Whole r26, sli 1 (List.map u32 s18.2)]) pl_54.h ti_54.h zr_frac_Frac ⟨_, _, _, rfl, rfl, rfl, rfl, (szk (k := 2) rfl rfl), ⟨_, _, _, rfl, rfl, rfl, rfl, (szk (k := 1) rfl rfl), rfl⟩⟩ rfl) ?_
     refine z [34, 31, 1] ?_
     exact sj (hj24 _) (eR [(101, 101)])
   refine z [23, 23, 23, 37, 30] ?_
   refine s1 (bld (l := [bl false, sli 1 (List.map u32 s18.1)]) pl_52.h ti_52.h zr_whole_Whole ⟨_, _, _, rfl, rfl, rfl, rfl, (szk (k := 1) rfl rfl), ⟨_, _, _, rfl, rfl, rfl, rfl, (szk (k := 1) rfl rfl), rfl⟩⟩ rfl) ?_
   refine cb (ca c_whole_Norm) fun r28 => ?_
   refine z [30] ?_
   refine s1 (bld (l := [L_whole_Whole r28, sli 1 (List.map u32 s18.2)]) pl_54.h ti_54.h zr_frac_Frac ⟨_, _, _, rfl, rfl, rfl, rfl, (szk (k := 2) rfl rfl), ⟨_, _, _, rfl, rfl, rfl, rfl, (szk (k := 1) rfl rfl), rfl⟩⟩ rfl) ?_
   refine z [34, 31, 1] ?_
   exact sj (hj24 _) (eR [(101, 101)])
 intro s25
 refine z [8] ?_
 exact rt []
theorem c__run_fracs__Pow {n : Nat} {x0_g} {x1} {x2} : ∀ r, m__run_fracs__Pow n x0_g x1 x2 = some r → FnOk Tryz.prog 226 [.agg [.own 0], L_frac_Frac x1, i64 x2] [(0, .bx 132 (L_gauge_Gauge x0_g))] (.tup [L_frac_Frac r.1, bl r.2]) [(0, .bx 132 (L_gauge_Gauge x0_g))] := by
 unfold m__run_fracs__Pow
 refine fs Tryz.func226 fun w S0 γ hγ => ?_
 refine z [2] ?_
 refine o (bx' 100) ?_
 refine o (bx' 101) ?_
 refine o (al' 102) ?_
 refine z [31, 1, 2, 32, 30] ?_
 refine cb (ca c_frac_Pow) fun r1 => ?_
 refine z [35, 35, 34, 31, 1, 8] ?_
 exact rt [(0, 0)]
theorem c__run_fracs__Add {n : Nat} {x0_g} {x1} {x2} : ∀ r, m__run_fracs__Add n x0_g x1 x2 = some r → FnOk Tryz.prog 221 [.agg [.own 0], L_frac_Frac x1, L_frac_Frac x2] [(0, .bx 132 (L_gauge_Gauge x0_g))] (L_frac_Frac r) [(0, .bx 132 (L_gauge_Gauge x0_g))] := by
 unfold m__run_fracs__Add
 refine fs Tryz.func221 fun w S0 γ hγ => ?_
 refine z [2] ?_
 refine o (bx' 100) ?_
 refine o (bx' 101) ?_
 refine o (bx' 102) ?_
 refine o (al' 103) ?_
 refine z [1, 2, 32, 32] ?_
 refine cb (ca c_frac_Add) fun r1 => ?_
 refine z [34, 1, 8] ?_
 exact rt [(0, 0)]
theorem c_frac_Sub {n : Nat} {x0} {x1} : ∀ r, m_frac_Sub n x0 x1 = some r → FnOk Tryz.prog 231 [L_frac_Frac x0, L_frac_Frac x1] [] (L_frac_Frac r) [] := by
 unfold m_frac_Sub
 refine fs Tryz.func231 fun w S0 γ hγ => ?_
 refine z [2] ?_
 refine o (bx' 100) ?_
 refine o (bx' 101) ?_
 refine o (al' 102) ?_
 refine z [1, 2, 32] ?_
 refine cb (ca c_frac_parts) fun r1 => ?_
 refine z [30, 35, 35] ?_
 refine o (al' 103) ?_
 refine z [34, 31, 1, 2, 32] ?_
 refine cb (ca c_frac_parts) fun r3 => ?_
 refine z [30, 35, 35] ?_
 refine o (al' 104) ?_
 refine z [34, 31, 1, 5] ?_
 refine b fun r5 h6 => ?_
 refine b fun r7 h8 => ?_
 refine b fun r9 h10 => ?_
 refine b fun r11 h12 => ?_
 refine b fun r13 h14 => ?_
 refine sd ?_
 refine zd [[103], []] ?_
 refine dd [] (fun _ _ _ _ => c0 (c_frac_cross _ h6)) ?_
 refine zd [[104], []] ?_
 refine dd [] (fun _ _ _ _ => c0 (c_frac_cross _ h8)) ?_
 refine dd [] (fun _ _ _ _ => c0 (c_whole_Sub _ h10)) ?_
 refine zd [[], []] ?_
 refine dd [] (fun _ _ _ _ => c0 (c_prod_Mul _ h12)) ?_
 refine dd [] (fun _ _ _ _ => c0 (c_frac_cancel _ h14)) ?_
 refine zd [[102]] ?_
 refine de fol ?_
 refine z [4, 8] ?_
 exact rt []
theorem c__run_fracs__Sub {n : Nat} {x0_g} {x1} {x2} : ∀ r, m__run_fracs__Sub n x0_g x1 x2 = some r → FnOk Tryz.prog 228 [.agg [.own 0], L_frac_Frac x1, L_frac_Frac x2] [(0, .bx 132 (L_gauge_Gauge x0_g))] (L_frac_Frac r) [(0, .bx 132 (L_gauge_Gauge x0_g))] := by
 unfold m__run_fracs__Sub
 refine fs Tryz.func228 fun w S0 γ hγ => ?_
 refine z [2] ?_
 refine o (bx' 100) ?_
 refine o (bx' 101) ?_
 refine o (bx' 102) ?_
 refine o (al' 103) ?_
 refine z [1, 2, 32, 32] ?_
 refine cb (ca c_frac_Sub) fun r1 => ?_
 refine z [34, 1, 8] ?_
 exact rt [(0, 0)]
theorem c__run_fracs__Mul {n : Nat} {x0_g} {x1} {x2} : ∀ r, m__run_fracs__Mul n x0_g x1 x2 = some r → FnOk Tryz.prog 223 [.agg [.own 0], L_frac_Frac x1, L_frac_Frac x2] [(0, .bx 132 (L_gauge_Gauge x0_g))] (L_frac_Frac r) [(0, .bx 132 (L_gauge_Gauge x0_g))] := by
 unfold m__run_fracs__Mul
 refine fs Tryz.func223 fun w S0 γ hγ => ?_
 refine z [2] ?_
 refine o (bx' 100) ?_
 refine o (bx' 101) ?_
 refine o (bx' 102) ?_
 refine o (al' 103) ?_
 refine z [1, 2, 32, 32] ?_
 refine cb (ca c_frac_Mul) fun r1 => ?_
 refine z [34, 1, 8] ?_
 exact rt [(0, 0)]
theorem c__run_fracs__Quo {n : Nat} {x0_g} {x1} {x2} : ∀ r, m__run_fracs__Quo n x0_g x1 x2 = some r → FnOk Tryz.prog 227 [.agg [.own 0], L_frac_Frac x1, L_frac_Frac x2] [(0, .bx 132 (L_gauge_Gauge x0_g))] (.tup [L_frac_Frac r.1, bl r.2]) [(0, .bx 132 (L_gauge_Gauge x0_g))] := by
 unfold m__run_fracs__Quo
 refine fs Tryz.func227 fun w S0 γ hγ => ?_
 refine z [2] ?_
 refine o (bx' 100) ?_
 refine o (bx' 101) ?_
 refine o (bx' 102) ?_
 refine o (al' 103) ?_
 refine z [31, 1, 2, 32, 32] ?_
 refine cb (ca c_frac_Quo) fun r1 => ?_
 refine z [35, 35, 34, 31, 1, 8] ?_
 exact rt [(0, 0)]
theorem c__run_fracs__Of {n : Nat} {x0_g} {x1} : ∀ r, m__run_fracs__Of n x0_g x1 = some r → FnOk Tryz.prog 225 [.agg [.own 0], L_frac_Frac x1] [(0, .bx 132 (L_gauge_Gauge x0_g))] (L_frac_Frac r) [(0, .bx 132 (L_gauge_Gauge x0_g))] := by
 unfold m__run_fracs__Of
 refine fs Tryz.func225 fun w S0 γ hγ => ?_
 refine z [2] ?_
 refine o (bx' 100) ?_
 refine o (bx' 101) ?_
 refine o (al' 102) ?_
 refine z [1, 2, 32] ?_
 refine cb (ca c_frac_Norm) fun r1 => ?_
 refine z [34, 1, 8] ?_
 exact rt [(0, 0)]
theorem c__run_Machine_frac_Frac__run_fracs___leaf {n : Nat} {x0_Arith_g} {x1} {x2} : ∀ r, m__run_Machine_frac_Frac__run_fracs___leaf n x0_Arith_g x1 x2 = some r → FnOk Tryz.prog 149 [.agg [.agg [.own 0]], L_tape_Inst x1, L_run_Inputs_frac_Frac_ x2] [(0, .bx 132 (L_gauge_Gauge x0_Arith_g))] (L_frac_Frac r) [(0, .bx 132 (L_gauge_Gauge x0_Arith_g))] := by
 unfold m__run_Machine_frac_Frac__run_fracs___leaf
 refine fs Tryz.func149 fun w S0 γ hγ => ?_
 refine z [2] ?_
 refine o (bx' 100) ?_
 refine o (bx' 101) ?_
 refine o (bx' 102) ?_
 refine o (al' 103) ?_
 refine z [1, 5, 2, 33, 36, 1, 7, 2, 41, 31, 1] ?_
 refine c ?_ ?_
 · refine z [2, 33] ?_
   refine s1 (ldB [0] rfl (by exact rfl) sh_174.h (by exact rfl) (by exact rfl) rfl rfl (.inl rfl)) ?_
   refine s1 (mkIf Tryz.underlying174 rfl rfl) ?_
   refine z [33, 36] ?_
   refine b fun r1 h2 => ?_
   refine s1 (okm rfl rfl (callI (em := [(0, .bx 132 (L_gauge_Gauge x0_Arith_g))]) (res' := L_frac_Frac r1) [(0, 0)] [] [(0, 0)] rfl me_174_Of (c__run_fracs__Of _ h2) (rn_agg (rns_cons (rn_own rfl) (rns_nil))) ⟨⟨_, rfl, rn_id if_L_frac_Frac⟩, trivial⟩ (MiF.get (mi := [(0, _)]) ⟨⟨_, _, rfl, rfl, rc_bx (rn_id if_L_gauge_Gauge)⟩, trivial⟩) ⟨⟨_, rfl⟩, trivial⟩ rfl trivial ⟨.inr rfl, trivial⟩ rfl ⟨.inl ⟨_, _, rfl, rfl, rc_bx (rn_id if_L_gauge_Gauge)⟩, trivial⟩ ⟨⟨_, rfl⟩, trivial⟩ trivial (rn_id if_L_frac_Frac) rfl)) ?_
   refine z [34, 1, 8, 12, 10] ?_
   exact rt [(0, 0)]
 refine z [2, 41, 31, 1] ?_
 refine c ?_ ?_
 · refine z [2, 33, 36, 33, 36] ?_
   refine b fun y3 h4 => ?_
   refine z [43, 42, 34, 1, 8, 12, 10] ?_
   exact rt [(0, 0)]
 refine z [2, 41, 31, 1] ?_
 refine c ?_ ?_
 · refine z [2, 33, 36, 33, 36] ?_
   refine b fun y5 h6 => ?_
   refine z [43, 42, 34, 1, 8, 12, 10] ?_
   exact rt [(0, 0)]
 refine z [9, 11, 4, 2, 33, 36, 34, 1, 8] ?_
 exact rt [(0, 0)]
end Go.Proofs.YtcmhibdigkdjiaaGreatDoor
