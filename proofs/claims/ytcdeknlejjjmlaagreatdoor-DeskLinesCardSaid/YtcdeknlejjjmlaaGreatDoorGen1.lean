import Derived.Test.YtcdeknlejjjmlaaGreatDoorMod
import Derived.Test.YtcdeknlejjjmlaaGreatDoorSC
import Derived.Test.YtcdeknlejjjmlaaGreatDoorSP
import Derived.Test.YtcdeknlejjjmlaaGreatDoorBld
import Derived.Test.YtcdeknlejjjmlaaGreatDoorLib
import Derived.Test.YtcdeknlejjjmlaaGreatDoorSK
import Derived.Test.YtcdeknlejjjmlaaGreatDoorChecked
set_option maxRecDepth 100000
set_option maxHeartbeats 4000000
namespace Go.Proofs.YtcdeknlejjjmlaaGreatDoor
open Go Go.RowKit
theorem ownK : ownKnob Tryz.prog.godebug = none := by kernel_rfl
theorem laidOutK : laidOutB Tryz.prog = true := by kernel_rfl
abbrev L_retrospectlaw50_Op (x : M_retrospectlaw50_Op) : Ly := .agg [i64 x.Kind, i64 x.X, str x.S]
theorem if_L_retrospectlaw50_Op {a0_ a1_ a2_} : IF (.agg [i64 a0_, i64 a1_, str a2_]) := if_agg (ifs_cons if_i64 (ifs_cons if_i64 (ifs_cons if_str (ifs_nil))))
abbrev L_S_retrospectlaw50_Op (xs : List M_retrospectlaw50_Op) : Ly := sli 3 (xs.map L_retrospectlaw50_Op)
abbrev L_api_Fault (x : M_api_Fault) : Ly := .agg [i64 x.Kind, i64 x.Step, i64 x.Stage, i64 x.At]
theorem if_L_api_Fault {a0_ a1_ a2_ a3_} : IF (.agg [i64 a0_, i64 a1_, i64 a2_, i64 a3_]) := if_agg (ifs_cons if_i64 (ifs_cons if_i64 (ifs_cons if_i64 (ifs_cons if_i64 (ifs_nil)))))
abbrev L_S_u32 (xs : List Nat) : Ly := sli 1 (xs.map u32)
abbrev L_tree_Node (x : M_tree_Node) : Ly := .agg [i64 x.Op, i64 x.I, L_S_u32 x.N]
theorem if_L_tree_Node {a0_ a1_ a2_} : IF (.agg [i64 a0_, i64 a1_, sli 1 a2_]) := if_agg (ifs_cons if_i64 (ifs_cons if_i64 (ifs_cons if_sli (ifs_nil))))
abbrev L_S_tree_Node (xs : List M_tree_Node) : Ly := sli 3 (xs.map L_tree_Node)
abbrev L_tree_Let (x : M_tree_Let) : Ly := .agg [str x.Name, L_S_tree_Node x.Code]
theorem if_L_tree_Let {a0_ a1_} : IF (.agg [str a0_, sli 3 a1_]) := if_agg (ifs_cons if_str (ifs_cons if_sli (ifs_nil)))
abbrev L_S_tree_Let (xs : List M_tree_Let) : Ly := sli 2 (xs.map L_tree_Let)
abbrev L_S_S_tree_Node (xs : List (List M_tree_Node)) : Ly := sli 1 (xs.map L_S_tree_Node)
abbrev L_tree_Field (x : M_tree_Field) : Ly := .agg [L_S_tree_Let x.Lets, L_S_S_tree_Node x.Outs]
theorem if_L_tree_Field {a0_ a1_} : IF (.agg [sli 2 a0_, sli 1 a1_]) := if_agg (ifs_cons if_sli (ifs_cons if_sli (ifs_nil)))
abbrev L_whole_Whole (x : M_whole_Whole) : Ly := .agg [bl x.Neg, L_S_u32 x.Abs]
theorem if_L_whole_Whole {a0_ a1_} : IF (.agg [bl a0_, sli 1 a1_]) := if_agg (ifs_cons if_bl (ifs_cons if_sli (ifs_nil)))
abbrev L_frac_Frac (x : M_frac_Frac) : Ly := .agg [L_whole_Whole x.Num, L_S_u32 x.Den]
theorem if_L_frac_Frac {a0_0_ a0_1_ a1_} : IF (.agg [.agg [bl a0_0_, sli 1 a0_1_], sli 1 a1_]) := if_agg (ifs_cons (if_agg (ifs_cons if_bl (ifs_cons if_sli (ifs_nil)))) (ifs_cons if_sli (ifs_nil)))
abbrev L_tape_Inst (x : M_tape_Inst) : Ly := .agg [i64 x.Op, i64 x.A, i64 x.B, L_frac_Frac x.N]
theorem if_L_tape_Inst {a0_ a1_ a2_ a3_0_0_ a3_0_1_ a3_1_} : IF (.agg [i64 a0_, i64 a1_, i64 a2_, .agg [.agg [bl a3_0_0_, sli 1 a3_0_1_], sli 1 a3_1_]]) := if_agg (ifs_cons if_i64 (ifs_cons if_i64 (ifs_cons if_i64 (ifs_cons (if_agg (ifs_cons (if_agg (ifs_cons if_bl (ifs_cons if_sli (ifs_nil)))) (ifs_cons if_sli (ifs_nil)))) (ifs_nil)))))
abbrev L_S_tape_Inst (xs : List M_tape_Inst) : Ly := sli 6 (xs.map L_tape_Inst)
abbrev L_S_i64 (xs : List Int) : Ly := sli 1 (xs.map i64)
abbrev L_tape_Tape (x : M_tape_Tape) : Ly := .agg [L_S_tape_Inst x.Code, L_S_i64 x.Outs, i64 x.Dim, i64 x.Par]
theorem if_L_tape_Tape {a0_ a1_ a2_ a3_} : IF (.agg [sli 6 a0_, sli 1 a1_, i64 a2_, i64 a3_]) := if_agg (ifs_cons if_sli (ifs_cons if_sli (ifs_cons if_i64 (ifs_cons if_i64 (ifs_nil)))))
abbrev L_S_frac_Frac (xs : List M_frac_Frac) : Ly := sli 3 (xs.map L_frac_Frac)
abbrev L_S_S_frac_Frac (xs : List (List M_frac_Frac)) : Ly := sli 1 (xs.map L_S_frac_Frac)
abbrev L_scheme_Scheme (x : M_scheme_Scheme) : Ly := .agg [str x.Name, L_S_frac_Frac x.C, L_S_S_frac_Frac x.A, L_S_frac_Frac x.B, L_S_frac_Frac x.E]
theorem if_L_scheme_Scheme {a0_ a1_ a2_ a3_ a4_} : IF (.agg [str a0_, sli 3 a1_, sli 1 a2_, sli 3 a3_, sli 3 a4_]) := if_agg (ifs_cons if_str (ifs_cons if_sli (ifs_cons if_sli (ifs_cons if_sli (ifs_cons if_sli (ifs_nil))))))
abbrev L_step_Problem (x : M_step_Problem) : Ly := .agg [L_tape_Tape x.Tape, L_scheme_Scheme x.Scheme, L_S_frac_Frac x.P, i64 x.Bits]
theorem if_L_step_Problem {a0_0_ a0_1_ a0_2_ a0_3_ a1_0_ a1_1_ a1_2_ a1_3_ a1_4_ a2_ a3_} : IF (.agg [.agg [sli 6 a0_0_, sli 1 a0_1_, i64 a0_2_, i64 a0_3_], .agg [str a1_0_, sli 3 a1_1_, sli 1 a1_2_, sli 3 a1_3_, sli 3 a1_4_], sli 3 a2_, i64 a3_]) := if_agg (ifs_cons (if_agg (ifs_cons if_sli (ifs_cons if_sli (ifs_cons if_i64 (ifs_cons if_i64 (ifs_nil)))))) (ifs_cons (if_agg (ifs_cons if_str (ifs_cons if_sli (ifs_cons if_sli (ifs_cons if_sli (ifs_cons if_sli (ifs_nil))))))) (ifs_cons if_sli (ifs_cons if_i64 (ifs_nil)))))
abbrev L_pace_Rules (x : M_pace_Rules) : Ly := .agg [L_frac_Frac x.Tol, L_frac_Frac x.Safe, L_frac_Frac x.Low, L_frac_Frac x.High, L_frac_Frac x.Least, i64 x.Fine, i64 x.Most]
theorem if_L_pace_Rules {a0_0_0_ a0_0_1_ a0_1_ a1_0_0_ a1_0_1_ a1_1_ a2_0_0_ a2_0_1_ a2_1_ a3_0_0_ a3_0_1_ a3_1_ a4_0_0_ a4_0_1_ a4_1_ a5_ a6_} : IF (.agg [.agg [.agg [bl a0_0_0_, sli 1 a0_0_1_], sli 1 a0_1_], .agg [.agg [bl a1_0_0_, sli 1 a1_0_1_], sli 1 a1_1_], .agg [.agg [bl a2_0_0_, sli 1 a2_0_1_], sli 1 a2_1_], .agg [.agg [bl a3_0_0_, sli 1 a3_0_1_], sli 1 a3_1_], .agg [.agg [bl a4_0_0_, sli 1 a4_0_1_], sli 1 a4_1_], i64 a5_, i64 a6_]) := if_agg (ifs_cons (if_agg (ifs_cons (if_agg (ifs_cons if_bl (ifs_cons if_sli (ifs_nil)))) (ifs_cons if_sli (ifs_nil)))) (ifs_cons (if_agg (ifs_cons (if_agg (ifs_cons if_bl (ifs_cons if_sli (ifs_nil)))) (ifs_cons if_sli (ifs_nil)))) (ifs_cons (if_agg (ifs_cons (if_agg (ifs_cons if_bl (ifs_cons if_sli (ifs_nil)))) (ifs_cons if_sli (ifs_nil)))) (ifs_cons (if_agg (ifs_cons (if_agg (ifs_cons if_bl (ifs_cons if_sli (ifs_nil)))) (ifs_cons if_sli (ifs_nil)))) (ifs_cons (if_agg (ifs_cons (if_agg (ifs_cons if_bl (ifs_cons if_sli (ifs_nil)))) (ifs_cons if_sli (ifs_nil)))) (ifs_cons if_i64 (ifs_cons if_i64 (ifs_nil))))))))
abbrev L_adapt_Task (x : M_adapt_Task) : Ly := .agg [L_step_Problem x.Problem, L_pace_Rules x.Rules, L_frac_Frac x.Start, L_frac_Frac x.End, L_frac_Frac x.First, L_S_frac_Frac x.Y]
theorem if_L_adapt_Task {a0_0_0_ a0_0_1_ a0_0_2_ a0_0_3_ a0_1_0_ a0_1_1_ a0_1_2_ a0_1_3_ a0_1_4_ a0_2_ a0_3_ a1_0_0_0_ a1_0_0_1_ a1_0_1_ a1_1_0_0_ a1_1_0_1_ a1_1_1_ a1_2_0_0_ a1_2_0_1_ a1_2_1_ a1_3_0_0_ a1_3_0_1_ a1_3_1_ a1_4_0_0_ a1_4_0_1_ a1_4_1_ a1_5_ a1_6_ a2_0_0_ a2_0_1_ a2_1_ a3_0_0_ a3_0_1_ a3_1_ a4_0_0_ a4_0_1_ a4_1_ a5_} : IF (.agg [.agg [.agg [sli 6 a0_0_0_, sli 1 a0_0_1_, i64 a0_0_2_, i64 a0_0_3_], .agg [str a0_1_0_, sli 3 a0_1_1_, sli 1 a0_1_2_, sli 3 a0_1_3_, sli 3 a0_1_4_], sli 3 a0_2_, i64 a0_3_], .agg [.agg [.agg [bl a1_0_0_0_, sli 1 a1_0_0_1_], sli 1 a1_0_1_], .agg [.agg [bl a1_1_0_0_, sli 1 a1_1_0_1_], sli 1 a1_1_1_], .agg [.agg [bl a1_2_0_0_, sli 1 a1_2_0_1_], sli 1 a1_2_1_], .agg [.agg [bl a1_3_0_0_, sli 1 a1_3_0_1_], sli 1 a1_3_1_], .agg [.agg [bl a1_4_0_0_, sli 1 a1_4_0_1_], sli 1 a1_4_1_], i64 a1_5_, i64 a1_6_], .agg [.agg [bl a2_0_0_, sli 1 a2_0_1_], sli 1 a2_1_], .agg [.agg [bl a3_0_0_, sli 1 a3_0_1_], sli 1 a3_1_], .agg [.agg [bl a4_0_0_, sli 1 a4_0_1_], sli 1 a4_1_], sli 3 a5_]) := if_agg (ifs_cons (if_agg (ifs_cons (if_agg (ifs_cons if_sli (ifs_cons if_sli (ifs_cons if_i64 (ifs_cons if_i64 (ifs_nil)))))) (ifs_cons (if_agg (ifs_cons if_str (ifs_cons if_sli (ifs_cons if_sli (ifs_cons if_sli (ifs_cons if_sli (ifs_nil))))))) (ifs_cons if_sli (ifs_cons if_i64 (ifs_nil)))))) (ifs_cons (if_agg (ifs_cons (if_agg (ifs_cons (if_agg (ifs_cons if_bl (ifs_cons if_sli (ifs_nil)))) (ifs_cons if_sli (ifs_nil)))) (ifs_cons (if_agg (ifs_cons (if_agg (ifs_cons if_bl (ifs_cons if_sli (ifs_nil)))) (ifs_cons if_sli (ifs_nil)))) (ifs_cons (if_agg (ifs_cons (if_agg (ifs_cons if_bl (ifs_cons if_sli (ifs_nil)))) (ifs_cons if_sli (ifs_nil)))) (ifs_cons (if_agg (ifs_cons (if_agg (ifs_cons if_bl (ifs_cons if_sli (ifs_nil)))) (ifs_cons if_sli (ifs_nil)))) (ifs_cons (if_agg (ifs_cons (if_agg (ifs_cons if_bl (ifs_cons if_sli (ifs_nil)))) (ifs_cons if_sli (ifs_nil)))) (ifs_cons if_i64 (ifs_cons if_i64 (ifs_nil))))))))) (ifs_cons (if_agg (ifs_cons (if_agg (ifs_cons if_bl (ifs_cons if_sli (ifs_nil)))) (ifs_cons if_sli (ifs_nil)))) (ifs_cons (if_agg (ifs_cons (if_agg (ifs_cons if_bl (ifs_cons if_sli (ifs_nil)))) (ifs_cons if_sli (ifs_nil)))) (ifs_cons (if_agg (ifs_cons (if_agg (ifs_cons if_bl (ifs_cons if_sli (ifs_nil)))) (ifs_cons if_sli (ifs_nil)))) (ifs_cons if_sli (ifs_nil)))))))
abbrev L_engine_Request (x : M_engine_Request) : Ly := .agg [str x.Do, L_tree_Field x.Field, L_adapt_Task x.Task, L_S_frac_Frac x.W, L_S_frac_Frac x.U, L_S_frac_Frac x.V, L_frac_Frac x.S, i64 x.K]
theorem if_L_engine_Request {a0_ a1_0_ a1_1_ a2_0_0_0_ a2_0_0_1_ a2_0_0_2_ a2_0_0_3_ a2_0_1_0_ a2_0_1_1_ a2_0_1_2_ a2_0_1_3_ a2_0_1_4_ a2_0_2_ a2_0_3_ a2_1_0_0_0_ a2_1_0_0_1_ a2_1_0_1_ a2_1_1_0_0_ a2_1_1_0_1_ a2_1_1_1_ a2_1_2_0_0_ a2_1_2_0_1_ a2_1_2_1_ a2_1_3_0_0_ a2_1_3_0_1_ a2_1_3_1_ a2_1_4_0_0_ a2_1_4_0_1_ a2_1_4_1_ a2_1_5_ a2_1_6_ a2_2_0_0_ a2_2_0_1_ a2_2_1_ a2_3_0_0_ a2_3_0_1_ a2_3_1_ a2_4_0_0_ a2_4_0_1_ a2_4_1_ a2_5_ a3_ a4_ a5_ a6_0_0_ a6_0_1_ a6_1_ a7_} : IF (.agg [str a0_, .agg [sli 2 a1_0_, sli 1 a1_1_], .agg [.agg [.agg [sli 6 a2_0_0_0_, sli 1 a2_0_0_1_, i64 a2_0_0_2_, i64 a2_0_0_3_], .agg [str a2_0_1_0_, sli 3 a2_0_1_1_, sli 1 a2_0_1_2_, sli 3 a2_0_1_3_, sli 3 a2_0_1_4_], sli 3 a2_0_2_, i64 a2_0_3_], .agg [.agg [.agg [bl a2_1_0_0_0_, sli 1 a2_1_0_0_1_], sli 1 a2_1_0_1_], .agg [.agg [bl a2_1_1_0_0_, sli 1 a2_1_1_0_1_], sli 1 a2_1_1_1_], .agg [.agg [bl a2_1_2_0_0_, sli 1 a2_1_2_0_1_], sli 1 a2_1_2_1_], .agg [.agg [bl a2_1_3_0_0_, sli 1 a2_1_3_0_1_], sli 1 a2_1_3_1_], .agg [.agg [bl a2_1_4_0_0_, sli 1 a2_1_4_0_1_], sli 1 a2_1_4_1_], i64 a2_1_5_, i64 a2_1_6_], .agg [.agg [bl a2_2_0_0_, sli 1 a2_2_0_1_], sli 1 a2_2_1_], .agg [.agg [bl a2_3_0_0_, sli 1 a2_3_0_1_], sli 1 a2_3_1_], .agg [.agg [bl a2_4_0_0_, sli 1 a2_4_0_1_], sli 1 a2_4_1_], sli 3 a2_5_], sli 3 a3_, sli 3 a4_, sli 3 a5_, .agg [.agg [bl a6_0_0_, sli 1 a6_0_1_], sli 1 a6_1_], i64 a7_]) := if_agg (ifs_cons if_str (ifs_cons (if_agg (ifs_cons if_sli (ifs_cons if_sli (ifs_nil)))) (ifs_cons (if_agg (ifs_cons (if_agg (ifs_cons (if_agg (ifs_cons if_sli (ifs_cons if_sli (ifs_cons if_i64 (ifs_cons if_i64 (ifs_nil)))))) (ifs_cons (if_agg (ifs_cons if_str (ifs_cons if_sli (ifs_cons if_sli (ifs_cons if_sli (ifs_cons if_sli (ifs_nil))))))) (ifs_cons if_sli (ifs_cons if_i64 (ifs_nil)))))) (ifs_cons (if_agg (ifs_cons (if_agg (ifs_cons (if_agg (ifs_cons if_bl (ifs_cons if_sli (ifs_nil)))) (ifs_cons if_sli (ifs_nil)))) (ifs_cons (if_agg (ifs_cons (if_agg (ifs_cons if_bl (ifs_cons if_sli (ifs_nil)))) (ifs_cons if_sli (ifs_nil)))) (ifs_cons (if_agg (ifs_cons (if_agg (ifs_cons if_bl (ifs_cons if_sli (ifs_nil)))) (ifs_cons if_sli (ifs_nil)))) (ifs_cons (if_agg (ifs_cons (if_agg (ifs_cons if_bl (ifs_cons if_sli (ifs_nil)))) (ifs_cons if_sli (ifs_nil)))) (ifs_cons (if_agg (ifs_cons (if_agg (ifs_cons if_bl (ifs_cons if_sli (ifs_nil)))) (ifs_cons if_sli (ifs_nil)))) (ifs_cons if_i64 (ifs_cons if_i64 (ifs_nil))))))))) (ifs_cons (if_agg (ifs_cons (if_agg (ifs_cons if_bl (ifs_cons if_sli (ifs_nil)))) (ifs_cons if_sli (ifs_nil)))) (ifs_cons (if_agg (ifs_cons (if_agg (ifs_cons if_bl (ifs_cons if_sli (ifs_nil)))) (ifs_cons if_sli (ifs_nil)))) (ifs_cons (if_agg (ifs_cons (if_agg (ifs_cons if_bl (ifs_cons if_sli (ifs_nil)))) (ifs_cons if_sli (ifs_nil)))) (ifs_cons if_sli (ifs_nil)))))))) (ifs_cons if_sli (ifs_cons if_sli (ifs_cons if_sli (ifs_cons (if_agg (ifs_cons (if_agg (ifs_cons if_bl (ifs_cons if_sli (ifs_nil)))) (ifs_cons if_sli (ifs_nil)))) (ifs_cons if_i64 (ifs_nil)))))))))
abbrev L_wire_Piece (x : M_wire_Piece) : Ly := .agg [str x.Name, str x.Text]
theorem if_L_wire_Piece {a0_ a1_} : IF (.agg [str a0_, str a1_]) := if_agg (ifs_cons if_str (ifs_cons if_str (ifs_nil)))
abbrev L_wire_reader (x : M_wire_reader) : Ly := .agg [str x.s, i64 x.at_]
theorem if_L_wire_reader {a0_ a1_} : IF (.agg [str a0_, i64 a1_]) := if_agg (ifs_cons if_str (ifs_cons if_i64 (ifs_nil)))
abbrev L_lex_Word (x : M_lex_Word) : Ly := .agg [i64 x.Kind, str x.Text, i64 x.At]
theorem if_L_lex_Word {a0_ a1_ a2_} : IF (.agg [i64 a0_, str a1_, i64 a2_]) := if_agg (ifs_cons if_i64 (ifs_cons if_str (ifs_cons if_i64 (ifs_nil))))
abbrev L_A9_u8 (x : M_A9_u8) : Ly := .agg [u8 x.a0, u8 x.a1, u8 x.a2, u8 x.a3, u8 x.a4, u8 x.a5, u8 x.a6, u8 x.a7, u8 x.a8]
theorem if_L_A9_u8 {a0_ a1_ a2_ a3_ a4_ a5_ a6_ a7_ a8_} : IF (.agg [u8 a0_, u8 a1_, u8 a2_, u8 a3_, u8 a4_, u8 a5_, u8 a6_, u8 a7_, u8 a8_]) := if_agg (ifs_cons if_u8 (ifs_cons if_u8 (ifs_cons if_u8 (ifs_cons if_u8 (ifs_cons if_u8 (ifs_cons if_u8 (ifs_cons if_u8 (ifs_cons if_u8 (ifs_cons if_u8 (ifs_nil))))))))))
abbrev L_S_wire_Piece (xs : List M_wire_Piece) : Ly := sli 2 (xs.map L_wire_Piece)
abbrev L_engine_reader (x : M_engine_reader) : Ly := .agg [L_S_wire_Piece x.l, str x.where_, L_api_Fault x.f]
theorem if_L_engine_reader {a0_ a1_ a2_0_ a2_1_ a2_2_ a2_3_} : IF (.agg [sli 2 a0_, str a1_, .agg [i64 a2_0_, i64 a2_1_, i64 a2_2_, i64 a2_3_]]) := if_agg (ifs_cons if_sli (ifs_cons if_str (ifs_cons (if_agg (ifs_cons if_i64 (ifs_cons if_i64 (ifs_cons if_i64 (ifs_cons if_i64 (ifs_nil)))))) (ifs_nil))))
abbrev L_S_string (xs : List (List UInt8)) : Ly := sli 1 (xs.map str)
abbrev L_S_lex_Word (xs : List M_lex_Word) : Ly := sli 3 (xs.map L_lex_Word)
abbrev L_parse_reader (x : M_parse_reader) : Ly := .agg [L_S_lex_Word x.words, i64 x.at_, i64 x.end_, i64 x.deep, L_S_string x.names]
theorem if_L_parse_reader {a0_ a1_ a2_ a3_ a4_} : IF (.agg [sli 3 a0_, i64 a1_, i64 a2_, i64 a3_, sli 1 a4_]) := if_agg (ifs_cons if_sli (ifs_cons if_i64 (ifs_cons if_i64 (ifs_cons if_i64 (ifs_cons if_sli (ifs_nil))))))
abbrev L_past_Try (x : M_past_Try) : Ly := .agg [L_frac_Frac x.T, L_frac_Frac x.Want, L_frac_Frac x.H, L_frac_Frac x.Err, L_S_frac_Frac x.Y, bl x.Ok]
theorem if_L_past_Try {a0_0_0_ a0_0_1_ a0_1_ a1_0_0_ a1_0_1_ a1_1_ a2_0_0_ a2_0_1_ a2_1_ a3_0_0_ a3_0_1_ a3_1_ a4_ a5_} : IF (.agg [.agg [.agg [bl a0_0_0_, sli 1 a0_0_1_], sli 1 a0_1_], .agg [.agg [bl a1_0_0_, sli 1 a1_0_1_], sli 1 a1_1_], .agg [.agg [bl a2_0_0_, sli 1 a2_0_1_], sli 1 a2_1_], .agg [.agg [bl a3_0_0_, sli 1 a3_0_1_], sli 1 a3_1_], sli 3 a4_, bl a5_]) := if_agg (ifs_cons (if_agg (ifs_cons (if_agg (ifs_cons if_bl (ifs_cons if_sli (ifs_nil)))) (ifs_cons if_sli (ifs_nil)))) (ifs_cons (if_agg (ifs_cons (if_agg (ifs_cons if_bl (ifs_cons if_sli (ifs_nil)))) (ifs_cons if_sli (ifs_nil)))) (ifs_cons (if_agg (ifs_cons (if_agg (ifs_cons if_bl (ifs_cons if_sli (ifs_nil)))) (ifs_cons if_sli (ifs_nil)))) (ifs_cons (if_agg (ifs_cons (if_agg (ifs_cons if_bl (ifs_cons if_sli (ifs_nil)))) (ifs_cons if_sli (ifs_nil)))) (ifs_cons if_sli (ifs_cons if_bl (ifs_nil)))))))
abbrev L_S_past_Try (xs : List M_past_Try) : Ly := sli 14 (xs.map L_past_Try)
abbrev L_past_History (x : M_past_History) : Ly := .agg [L_S_past_Try x.Tries, L_frac_Frac x.T, L_S_frac_Frac x.Y]
theorem if_L_past_History {a0_ a1_0_0_ a1_0_1_ a1_1_ a2_} : IF (.agg [sli 14 a0_, .agg [.agg [bl a1_0_0_, sli 1 a1_0_1_], sli 1 a1_1_], sli 3 a2_]) := if_agg (ifs_cons if_sli (ifs_cons (if_agg (ifs_cons (if_agg (ifs_cons if_bl (ifs_cons if_sli (ifs_nil)))) (ifs_cons if_sli (ifs_nil)))) (ifs_cons if_sli (ifs_nil))))
instance ti_3 : CTy Tryz.prog 3 1 8 (.int .i64 0) := ⟨tyI (by kernel_rfl)⟩
instance ti_37 : CTy Tryz.prog 37 2 16 (.agg #[.chan none, .bool false]) := ⟨tyI (by kernel_rfl)⟩
instance pl_37 : CPl Tryz.prog 37 [(0, 1), (1, 1)] := ⟨⟨_, Tryz.underlying37, by kernel_rfl⟩⟩
instance : CUn Tryz.prog 22 (.slice 29) := ⟨Tryz.underlying22⟩
instance ti_9 : CTy Tryz.prog 9 1 16 (.string ⟨#[]⟩) := ⟨tyI (by kernel_rfl)⟩
instance ti_53 : CTy Tryz.prog 53 2 16 (.agg #[.chan none, .bool false]) := ⟨tyI (by kernel_rfl)⟩
instance pl_53 : CPl Tryz.prog 53 [(0, 1), (1, 1)] := ⟨⟨_, Tryz.underlying53, by kernel_rfl⟩⟩
instance ti_48 : CTy Tryz.prog 48 5 40 (.agg #[.pointer none, .pointer none, .int .i64 0, .int .i64 0, .bool false]) := ⟨tyI (by kernel_rfl)⟩
instance pl_48 : CPl Tryz.prog 48 [(0, 1), (1, 1), (2, 1), (3, 1), (4, 1)] := ⟨⟨_, Tryz.underlying48, by kernel_rfl⟩⟩
instance ti_41 : CTy Tryz.prog 41 4 32 (.agg #[.int .i64 0, .int .i64 0, .int .i64 0, .int .i64 0]) := ⟨tyI (by kernel_rfl)⟩
theorem zr_api_Fault : Zr (L_api_Fault (⟨0, 0, 0, 0⟩ : M_api_Fault)) [.int .i64 0, .int .i64 0, .int .i64 0, .int .i64 0] := zr_agg (zrs_cons (c1 := [.int .i64 0]) zr_i64 (zrs_cons (c1 := [.int .i64 0]) zr_i64 (zrs_cons (c1 := [.int .i64 0]) zr_i64 (zrs_cons (c1 := [.int .i64 0]) zr_i64 (zrs_nil)))))
instance : CZy Tryz.prog 41 (L_api_Fault (⟨0, 0, 0, 0⟩ : M_api_Fault)) := ⟨_, _, _, ti_41.h, zr_api_Fault⟩
instance ti_4 : CTy Tryz.prog 4 1 1 (.bool false) := ⟨tyI (by kernel_rfl)⟩
instance fd_48_4 : CFd Tryz.prog 48 4 4 := ⟨fdA Tryz.underlying48 rfl rfl ti_4.h rfl⟩
instance : CUn Tryz.prog 4 (.bool) := ⟨Tryz.underlying4⟩
instance sh_4 : CSh Tryz.prog 4 false 1 := ⟨shp Tryz.underlying4 rfl ti_4.h⟩
instance pl_41 : CPl Tryz.prog 41 [(0, 1), (1, 1), (2, 1), (3, 1)] := ⟨⟨_, Tryz.underlying41, by kernel_rfl⟩⟩
instance sh_41 : CSh Tryz.prog 41 true 4 := ⟨shp Tryz.underlying41 rfl ti_41.h⟩
instance ti_45 : CTy Tryz.prog 45 1 8 (.pointer none) := ⟨tyI (by kernel_rfl)⟩
instance fd_48_0 : CFd Tryz.prog 48 0 0 := ⟨fdA Tryz.underlying48 rfl rfl ti_45.h rfl⟩
instance sh_45 : CSh Tryz.prog 45 false 1 := ⟨shp Tryz.underlying45 rfl ti_45.h⟩
instance fd_53_1 : CFd Tryz.prog 53 1 1 := ⟨fdA Tryz.underlying53 rfl rfl ti_4.h rfl⟩
instance ti_51 : CTy Tryz.prog 51 1 8 (.chan none) := ⟨tyI (by kernel_rfl)⟩
instance fd_53_0 : CFd Tryz.prog 53 0 0 := ⟨fdA Tryz.underlying53 rfl rfl ti_51.h rfl⟩
instance sh_51 : CSh Tryz.prog 51 false 1 := ⟨shp Tryz.underlying51 rfl ti_51.h⟩
instance fd_48_2 : CFd Tryz.prog 48 2 2 := ⟨fdA Tryz.underlying48 rfl rfl ti_3.h rfl⟩
instance : CUn Tryz.prog 3 (.int .i64) := ⟨Tryz.underlying3⟩
instance sh_3 : CSh Tryz.prog 3 false 1 := ⟨shp Tryz.underlying3 rfl ti_3.h⟩
instance fd_48_1 : CFd Tryz.prog 48 1 1 := ⟨fdA Tryz.underlying48 rfl rfl ti_45.h rfl⟩
instance fd_48_3 : CFd Tryz.prog 48 3 3 := ⟨fdA Tryz.underlying48 rfl rfl ti_3.h rfl⟩
instance ti_77 : CTy Tryz.prog 77 48 896 (.agg #[.string ⟨#[]⟩, .slice none 0 0, .slice none 0 0, .slice none 0 0, .slice none 0 0, .int .i64 0, .int .i64 0, .string ⟨#[]⟩, .slice none 0 0, .slice none 0 0, .slice none 0 0, .slice none 0 0, .slice none 0 0, .int .i64 0, .bool false, .slice none 0 0, .slice none 0 0, .bool false, .slice none 0 0, .slice none 0 0, .bool false, .slice none 0 0, .slice none 0 0, .bool false, .slice none 0 0, .slice none 0 0, .bool false, .slice none 0 0, .slice none 0 0, .int .i64 0, .int .i64 0, .bool false, .slice none 0 0, .slice none 0 0, .bool false, .slice none 0 0, .slice none 0 0, .bool false, .slice none 0 0, .slice none 0 0, .slice none 0 0, .slice none 0 0, .slice none 0 0, .slice none 0 0, .bool false, .slice none 0 0, .slice none 0 0, .int .i64 0]) := ⟨tyI (by kernel_rfl)⟩
theorem zr_whole_Whole : Zr (L_whole_Whole (⟨false, []⟩ : M_whole_Whole)) [.bool false, .slice none 0 0] := zr_agg (zrs_cons (c1 := [.bool false]) zr_bl (zrs_cons (c1 := [.slice none 0 0]) (zr_sli (k := 1)) (zrs_nil)))
theorem zr_frac_Frac : Zr (L_frac_Frac (⟨(⟨false, []⟩ : M_whole_Whole), []⟩ : M_frac_Frac)) [.bool false, .slice none 0 0, .slice none 0 0] := zr_agg (zrs_cons (c1 := [.bool false, .slice none 0 0]) zr_whole_Whole (zrs_cons (c1 := [.slice none 0 0]) (zr_sli (k := 1)) (zrs_nil)))
theorem zr_pace_Rules : Zr (L_pace_Rules (⟨(⟨(⟨false, []⟩ : M_whole_Whole), []⟩ : M_frac_Frac), (⟨(⟨false, []⟩ : M_whole_Whole), []⟩ : M_frac_Frac), (⟨(⟨false, []⟩ : M_whole_Whole), []⟩ : M_frac_Frac), (⟨(⟨false, []⟩ : M_whole_Whole), []⟩ : M_frac_Frac), (⟨(⟨false, []⟩ : M_whole_Whole), []⟩ : M_frac_Frac), 0, 0⟩ : M_pace_Rules)) [.bool false, .slice none 0 0, .slice none 0 0, .bool false, .slice none 0 0, .slice none 0 0, .bool false, .slice none 0 0, .slice none 0 0, .bool false, .slice none 0 0, .slice none 0 0, .bool false, .slice none 0 0, .slice none 0 0, .int .i64 0, .int .i64 0] := zr_agg (zrs_cons (c1 := [.bool false, .slice none 0 0, .slice none 0 0]) zr_frac_Frac (zrs_cons (c1 := [.bool false, .slice none 0 0, .slice none 0 0]) zr_frac_Frac (zrs_cons (c1 := [.bool false, .slice none 0 0, .slice none 0 0]) zr_frac_Frac (zrs_cons (c1 := [.bool false, .slice none 0 0, .slice none 0 0]) zr_frac_Frac (zrs_cons (c1 := [.bool false, .slice none 0 0, .slice none 0 0]) zr_frac_Frac (zrs_cons (c1 := [.int .i64 0]) zr_i64 (zrs_cons (c1 := [.int .i64 0]) zr_i64 (zrs_nil))))))))
theorem zr_scheme_Scheme : Zr (L_scheme_Scheme (⟨[], [], [], [], []⟩ : M_scheme_Scheme)) [.string ⟨#[]⟩, .slice none 0 0, .slice none 0 0, .slice none 0 0, .slice none 0 0] := zr_agg (zrs_cons (c1 := [.string ⟨#[]⟩]) zr_str (zrs_cons (c1 := [.slice none 0 0]) (zr_sli (k := 3)) (zrs_cons (c1 := [.slice none 0 0]) (zr_sli (k := 1)) (zrs_cons (c1 := [.slice none 0 0]) (zr_sli (k := 3)) (zrs_cons (c1 := [.slice none 0 0]) (zr_sli (k := 3)) (zrs_nil))))))
theorem zr_tape_Tape : Zr (L_tape_Tape (⟨[], [], 0, 0⟩ : M_tape_Tape)) [.slice none 0 0, .slice none 0 0, .int .i64 0, .int .i64 0] := zr_agg (zrs_cons (c1 := [.slice none 0 0]) (zr_sli (k := 6)) (zrs_cons (c1 := [.slice none 0 0]) (zr_sli (k := 1)) (zrs_cons (c1 := [.int .i64 0]) zr_i64 (zrs_cons (c1 := [.int .i64 0]) zr_i64 (zrs_nil)))))
theorem zr_step_Problem : Zr (L_step_Problem (⟨(⟨[], [], 0, 0⟩ : M_tape_Tape), (⟨[], [], [], [], []⟩ : M_scheme_Scheme), [], 0⟩ : M_step_Problem)) [.slice none 0 0, .slice none 0 0, .int .i64 0, .int .i64 0, .string ⟨#[]⟩, .slice none 0 0, .slice none 0 0, .slice none 0 0, .slice none 0 0, .slice none 0 0, .int .i64 0] := zr_agg (zrs_cons (c1 := [.slice none 0 0, .slice none 0 0, .int .i64 0, .int .i64 0]) zr_tape_Tape (zrs_cons (c1 := [.string ⟨#[]⟩, .slice none 0 0, .slice none 0 0, .slice none 0 0, .slice none 0 0]) zr_scheme_Scheme (zrs_cons (c1 := [.slice none 0 0]) (zr_sli (k := 3)) (zrs_cons (c1 := [.int .i64 0]) zr_i64 (zrs_nil)))))
theorem zr_adapt_Task : Zr (L_adapt_Task (⟨(⟨(⟨[], [], 0, 0⟩ : M_tape_Tape), (⟨[], [], [], [], []⟩ : M_scheme_Scheme), [], 0⟩ : M_step_Problem), (⟨(⟨(⟨false, []⟩ : M_whole_Whole), []⟩ : M_frac_Frac), (⟨(⟨false, []⟩ : M_whole_Whole), []⟩ : M_frac_Frac), (⟨(⟨false, []⟩ : M_whole_Whole), []⟩ : M_frac_Frac), (⟨(⟨false, []⟩ : M_whole_Whole), []⟩ : M_frac_Frac), (⟨(⟨false, []⟩ : M_whole_Whole), []⟩ : M_frac_Frac), 0, 0⟩ : M_pace_Rules), (⟨(⟨false, []⟩ : M_whole_Whole), []⟩ : M_frac_Frac), (⟨(⟨false, []⟩ : M_whole_Whole), []⟩ : M_frac_Frac), (⟨(⟨false, []⟩ : M_whole_Whole), []⟩ : M_frac_Frac), []⟩ : M_adapt_Task)) [.slice none 0 0, .slice none 0 0, .int .i64 0, .int .i64 0, .string ⟨#[]⟩, .slice none 0 0, .slice none 0 0, .slice none 0 0, .slice none 0 0, .slice none 0 0, .int .i64 0, .bool false, .slice none 0 0, .slice none 0 0, .bool false, .slice none 0 0, .slice none 0 0, .bool false, .slice none 0 0, .slice none 0 0, .bool false, .slice none 0 0, .slice none 0 0, .bool false, .slice none 0 0, .slice none 0 0, .int .i64 0, .int .i64 0, .bool false, .slice none 0 0, .slice none 0 0, .bool false, .slice none 0 0, .slice none 0 0, .bool false, .slice none 0 0, .slice none 0 0, .slice none 0 0] := zr_agg (zrs_cons (c1 := [.slice none 0 0, .slice none 0 0, .int .i64 0, .int .i64 0, .string ⟨#[]⟩, .slice none 0 0, .slice none 0 0, .slice none 0 0, .slice none 0 0, .slice none 0 0, .int .i64 0]) zr_step_Problem (zrs_cons (c1 := [.bool false, .slice none 0 0, .slice none 0 0, .bool false, .slice none 0 0, .slice none 0 0, .bool false, .slice none 0 0, .slice none 0 0, .bool false, .slice none 0 0, .slice none 0 0, .bool false, .slice none 0 0, .slice none 0 0, .int .i64 0, .int .i64 0]) zr_pace_Rules (zrs_cons (c1 := [.bool false, .slice none 0 0, .slice none 0 0]) zr_frac_Frac (zrs_cons (c1 := [.bool false, .slice none 0 0, .slice none 0 0]) zr_frac_Frac (zrs_cons (c1 := [.bool false, .slice none 0 0, .slice none 0 0]) zr_frac_Frac (zrs_cons (c1 := [.slice none 0 0]) (zr_sli (k := 3)) (zrs_nil)))))))
theorem zr_tree_Field : Zr (L_tree_Field (⟨[], []⟩ : M_tree_Field)) [.slice none 0 0, .slice none 0 0] := zr_agg (zrs_cons (c1 := [.slice none 0 0]) (zr_sli (k := 2)) (zrs_cons (c1 := [.slice none 0 0]) (zr_sli (k := 1)) (zrs_nil)))
theorem zr_engine_Request : Zr (L_engine_Request (⟨[], (⟨[], []⟩ : M_tree_Field), (⟨(⟨(⟨[], [], 0, 0⟩ : M_tape_Tape), (⟨[], [], [], [], []⟩ : M_scheme_Scheme), [], 0⟩ : M_step_Problem), (⟨(⟨(⟨false, []⟩ : M_whole_Whole), []⟩ : M_frac_Frac), (⟨(⟨false, []⟩ : M_whole_Whole), []⟩ : M_frac_Frac), (⟨(⟨false, []⟩ : M_whole_Whole), []⟩ : M_frac_Frac), (⟨(⟨false, []⟩ : M_whole_Whole), []⟩ : M_frac_Frac), (⟨(⟨false, []⟩ : M_whole_Whole), []⟩ : M_frac_Frac), 0, 0⟩ : M_pace_Rules), (⟨(⟨false, []⟩ : M_whole_Whole), []⟩ : M_frac_Frac), (⟨(⟨false, []⟩ : M_whole_Whole), []⟩ : M_frac_Frac), (⟨(⟨false, []⟩ : M_whole_Whole), []⟩ : M_frac_Frac), []⟩ : M_adapt_Task), [], [], [], (⟨(⟨false, []⟩ : M_whole_Whole), []⟩ : M_frac_Frac), 0⟩ : M_engine_Request)) [.string ⟨#[]⟩, .slice none 0 0, .slice none 0 0, .slice none 0 0, .slice none 0 0, .int .i64 0, .int .i64 0, .string ⟨#[]⟩, .slice none 0 0, .slice none 0 0, .slice none 0 0, .slice none 0 0, .slice none 0 0, .int .i64 0, .bool false, .slice none 0 0, .slice none 0 0, .bool false, .slice none 0 0, .slice none 0 0, .bool false, .slice none 0 0, .slice none 0 0, .bool false, .slice none 0 0, .slice none 0 0, .bool false, .slice none 0 0, .slice none 0 0, .int .i64 0, .int .i64 0, .bool false, .slice none 0 0, .slice none 0 0, .bool false, .slice none 0 0, .slice none 0 0, .bool false, .slice none 0 0, .slice none 0 0, .slice none 0 0, .slice none 0 0, .slice none 0 0, .slice none 0 0, .bool false, .slice none 0 0, .slice none 0 0, .int .i64 0] := zr_agg (zrs_cons (c1 := [.string ⟨#[]⟩]) zr_str (zrs_cons (c1 := [.slice none 0 0, .slice none 0 0]) zr_tree_Field (zrs_cons (c1 := [.slice none 0 0, .slice none 0 0, .int .i64 0, .int .i64 0, .string ⟨#[]⟩, .slice none 0 0, .slice none 0 0, .slice none 0 0, .slice none 0 0, .slice none 0 0, .int .i64 0, .bool false, .slice none 0 0, .slice none 0 0, .bool false, .slice none 0 0, .slice none 0 0, .bool false, .slice none 0 0, .slice none 0 0, .bool false, .slice none 0 0, .slice none 0 0, .bool false, .slice none 0 0, .slice none 0 0, .int .i64 0, .int .i64 0, .bool false, .slice none 0 0, .slice none 0 0, .bool false, .slice none 0 0, .slice none 0 0, .bool false, .slice none 0 0, .slice none 0 0, .slice none 0 0]) zr_adapt_Task (zrs_cons (c1 := [.slice none 0 0]) (zr_sli (k := 3)) (zrs_cons (c1 := [.slice none 0 0]) (zr_sli (k := 3)) (zrs_cons (c1 := [.slice none 0 0]) (zr_sli (k := 3)) (zrs_cons (c1 := [.bool false, .slice none 0 0, .slice none 0 0]) zr_frac_Frac (zrs_cons (c1 := [.int .i64 0]) zr_i64 (zrs_nil)))))))))
instance : CZy Tryz.prog 77 (L_engine_Request (⟨[], (⟨[], []⟩ : M_tree_Field), (⟨(⟨(⟨[], [], 0, 0⟩ : M_tape_Tape), (⟨[], [], [], [], []⟩ : M_scheme_Scheme), [], 0⟩ : M_step_Problem), (⟨(⟨(⟨false, []⟩ : M_whole_Whole), []⟩ : M_frac_Frac), (⟨(⟨false, []⟩ : M_whole_Whole), []⟩ : M_frac_Frac), (⟨(⟨false, []⟩ : M_whole_Whole), []⟩ : M_frac_Frac), (⟨(⟨false, []⟩ : M_whole_Whole), []⟩ : M_frac_Frac), (⟨(⟨false, []⟩ : M_whole_Whole), []⟩ : M_frac_Frac), 0, 0⟩ : M_pace_Rules), (⟨(⟨false, []⟩ : M_whole_Whole), []⟩ : M_frac_Frac), (⟨(⟨false, []⟩ : M_whole_Whole), []⟩ : M_frac_Frac), (⟨(⟨false, []⟩ : M_whole_Whole), []⟩ : M_frac_Frac), []⟩ : M_adapt_Task), [], [], [], (⟨(⟨false, []⟩ : M_whole_Whole), []⟩ : M_frac_Frac), 0⟩ : M_engine_Request)) := ⟨_, _, _, ti_77.h, zr_engine_Request⟩
instance ti_117 : CTy Tryz.prog 117 2 24 (.agg #[.string ⟨#[]⟩, .int .i64 0]) := ⟨tyI (by kernel_rfl)⟩
instance pl_117 : CPl Tryz.prog 117 [(0, 1), (1, 1)] := ⟨⟨_, Tryz.underlying117, by kernel_rfl⟩⟩
theorem zr_wire_reader : Zr (L_wire_reader (⟨[], 0⟩ : M_wire_reader)) [.string ⟨#[]⟩, .int .i64 0] := zr_agg (zrs_cons (c1 := [.string ⟨#[]⟩]) zr_str (zrs_cons (c1 := [.int .i64 0]) zr_i64 (zrs_nil)))
instance fd_117_1 : CFd Tryz.prog 117 1 1 := ⟨fdA Tryz.underlying117 rfl rfl ti_3.h rfl⟩
instance : CUn Tryz.prog 9 (.string) := ⟨Tryz.underlying9⟩
instance ti_102 : CTy Tryz.prog 102 2 32 (.agg #[.string ⟨#[]⟩, .string ⟨#[]⟩]) := ⟨tyI (by kernel_rfl)⟩
theorem zr_wire_Piece : Zr (L_wire_Piece (⟨[], []⟩ : M_wire_Piece)) [.string ⟨#[]⟩, .string ⟨#[]⟩] := zr_agg (zrs_cons (c1 := [.string ⟨#[]⟩]) zr_str (zrs_cons (c1 := [.string ⟨#[]⟩]) zr_str (zrs_nil)))
instance : CZy Tryz.prog 102 (L_wire_Piece (⟨[], []⟩ : M_wire_Piece)) := ⟨_, _, _, ti_102.h, zr_wire_Piece⟩
instance fd_117_0 : CFd Tryz.prog 117 0 0 := ⟨fdA Tryz.underlying117 rfl rfl ti_9.h rfl⟩
instance sh_9 : CSh Tryz.prog 9 false 1 := ⟨shp Tryz.underlying9 rfl ti_9.h⟩
instance ti_284 : CTy Tryz.prog 284 3 32 (.agg #[.int .i64 0, .string ⟨#[]⟩, .int .i64 0]) := ⟨tyI (by kernel_rfl)⟩
instance pl_284 : CPl Tryz.prog 284 [(0, 1), (1, 1), (2, 1)] := ⟨⟨_, Tryz.underlying284, by kernel_rfl⟩⟩
theorem zr_lex_Word : Zr (L_lex_Word (⟨0, [], 0⟩ : M_lex_Word)) [.int .i64 0, .string ⟨#[]⟩, .int .i64 0] := zr_agg (zrs_cons (c1 := [.int .i64 0]) zr_i64 (zrs_cons (c1 := [.string ⟨#[]⟩]) zr_str (zrs_cons (c1 := [.int .i64 0]) zr_i64 (zrs_nil))))
instance fd_284_1 : CFd Tryz.prog 284 1 1 := ⟨fdA Tryz.underlying284 rfl rfl ti_9.h rfl⟩
theorem fol : Tryz.prog.follows .mixedOrders = true := by kernel_rfl
instance fd_284_0 : CFd Tryz.prog 284 0 0 := ⟨fdA Tryz.underlying284 rfl rfl ti_3.h rfl⟩
instance : CUn Tryz.prog 21 (.int .i32) := ⟨Tryz.underlying21⟩
instance : CUn Tryz.prog 5 (.int .u8) := ⟨Tryz.underlying5⟩
instance pl_102 : CPl Tryz.prog 102 [(0, 1), (1, 1)] := ⟨⟨_, Tryz.underlying102, by kernel_rfl⟩⟩
instance sh_102 : CSh Tryz.prog 102 true 2 := ⟨shp Tryz.underlying102 rfl ti_102.h⟩
instance : CUn Tryz.prog 316 (.int .u32) := ⟨Tryz.underlying316⟩
instance : CUn Tryz.prog 67 (.slice 316) := ⟨Tryz.underlying67⟩
instance ti_316 : CTy Tryz.prog 316 1 4 (.int .u32 0) := ⟨tyI (by kernel_rfl)⟩
instance sh_316 : CSh Tryz.prog 316 false 1 := ⟨shp Tryz.underlying316 rfl ti_316.h⟩
instance : CUn Tryz.prog 212 (.int .u64) := ⟨Tryz.underlying212⟩
theorem eq_41_2 : EqF Tryz.prog 2 41 (fun x : M_api_Fault => .agg [i64 x.Kind, i64 x.Step, i64 x.Stage, i64 x.At]) eqb_api_Fault :=
  eqf_struct Tryz.underlying41 (by kernel_rfl) (eqfs_cons rfl rfl sh_3.h (fun _ => rfl) (fun _ => rfl) (eqf_comp (fun x : M_api_Fault => x.Kind) (eqf_i64 (n := 0) Tryz.underlying3)) (eqfs_cons rfl rfl sh_3.h (fun _ => rfl) (fun _ => rfl) (eqf_comp (fun x : M_api_Fault => x.Step) (eqf_i64 (n := 0) Tryz.underlying3)) (eqfs_cons rfl rfl sh_3.h (fun _ => rfl) (fun _ => rfl) (eqf_comp (fun x : M_api_Fault => x.Stage) (eqf_i64 (n := 0) Tryz.underlying3)) (eqfs_cons rfl rfl sh_3.h (fun _ => rfl) (fun _ => rfl) (eqf_comp (fun x : M_api_Fault => x.At) (eqf_i64 (n := 0) Tryz.underlying3)) (eqfs_nil)))))
theorem eg_41 : Tryz.prog.eqGuardType Tryz.prog.depth 41 = false := by kernel_rfl
instance ti_416 : CTy Tryz.prog 416 9 9 (.agg #[.int .u8 0, .int .u8 0, .int .u8 0, .int .u8 0, .int .u8 0, .int .u8 0, .int .u8 0, .int .u8 0, .int .u8 0]) := ⟨tyI (by kernel_rfl)⟩
theorem zr_A9_u8 : Zr (L_A9_u8 (⟨0, 0, 0, 0, 0, 0, 0, 0, 0⟩ : M_A9_u8)) [.int .u8 0, .int .u8 0, .int .u8 0, .int .u8 0, .int .u8 0, .int .u8 0, .int .u8 0, .int .u8 0, .int .u8 0] := zr_agg (zrs_cons (c1 := [.int .u8 0]) zr_u8 (zrs_cons (c1 := [.int .u8 0]) zr_u8 (zrs_cons (c1 := [.int .u8 0]) zr_u8 (zrs_cons (c1 := [.int .u8 0]) zr_u8 (zrs_cons (c1 := [.int .u8 0]) zr_u8 (zrs_cons (c1 := [.int .u8 0]) zr_u8 (zrs_cons (c1 := [.int .u8 0]) zr_u8 (zrs_cons (c1 := [.int .u8 0]) zr_u8 (zrs_cons (c1 := [.int .u8 0]) zr_u8 (zrs_nil))))))))))
instance : CZy Tryz.prog 416 (L_A9_u8 (⟨0, 0, 0, 0, 0, 0, 0, 0, 0⟩ : M_A9_u8)) := ⟨_, _, _, ti_416.h, zr_A9_u8⟩
instance ti_5 : CTy Tryz.prog 5 1 1 (.int .u8 0) := ⟨tyI (by kernel_rfl)⟩
instance : CUn Tryz.prog 416 (.array 9 5) := ⟨Tryz.underlying416⟩
instance sh_5 : CSh Tryz.prog 5 false 1 := ⟨shp Tryz.underlying5 rfl ti_5.h⟩
theorem ofl_ok_A9_u8 : ∀ l : List Nat, l.length = 9 → (.agg (l.map u8) : Ly) = L_A9_u8 (ofl_A9_u8 l)
  | [a0, a1, a2, a3, a4, a5, a6, a7, a8], _ => rfl
  | [], h => by simp at h
  | [_], h => by simp at h
  | [_, _], h => by simp at h
  | [_, _, _], h => by simp at h
  | [_, _, _, _], h => by simp at h
  | [_, _, _, _, _], h => by simp at h
  | [_, _, _, _, _, _], h => by simp at h
  | [_, _, _, _, _, _, _], h => by simp at h
  | [_, _, _, _, _, _, _, _], h => by simp at h
  | _ :: _ :: _ :: _ :: _ :: _ :: _ :: _ :: _ :: _ :: _, h => by simp at h
instance : CUn Tryz.prog 139 (.slice 5) := ⟨Tryz.underlying139⟩
instance : CUn Tryz.prog 110 (.slice 9) := ⟨Tryz.underlying110⟩
instance ti_141 : CTy Tryz.prog 141 2 32 (.agg #[.pointer none, .slice none 0 0]) := ⟨tyI (by kernel_rfl)⟩
instance : CUn Tryz.prog 88 (.slice 102) := ⟨Tryz.underlying88⟩
instance fd_102_0 : CFd Tryz.prog 102 0 0 := ⟨fdA Tryz.underlying102 rfl rfl ti_9.h rfl⟩
instance fd_102_1 : CFd Tryz.prog 102 1 1 := ⟨fdA Tryz.underlying102 rfl rfl ti_9.h rfl⟩
instance ti_93 : CTy Tryz.prog 93 6 72 (.agg #[.slice none 0 0, .string ⟨#[]⟩, .int .i64 0, .int .i64 0, .int .i64 0, .int .i64 0]) := ⟨tyI (by kernel_rfl)⟩
instance pl_93 : CPl Tryz.prog 93 [(0, 1), (1, 1), (2, 4)] := ⟨⟨_, Tryz.underlying93, by kernel_rfl⟩⟩
theorem zr_engine_reader : Zr (L_engine_reader (⟨[], [], (⟨0, 0, 0, 0⟩ : M_api_Fault)⟩ : M_engine_reader)) [.slice none 0 0, .string ⟨#[]⟩, .int .i64 0, .int .i64 0, .int .i64 0, .int .i64 0] := zr_agg (zrs_cons (c1 := [.slice none 0 0]) (zr_sli (k := 2)) (zrs_cons (c1 := [.string ⟨#[]⟩]) zr_str (zrs_cons (c1 := [.int .i64 0, .int .i64 0, .int .i64 0, .int .i64 0]) zr_api_Fault (zrs_nil))))
instance ti_88 : CTy Tryz.prog 88 1 24 (.slice none 0 0) := ⟨tyI (by kernel_rfl)⟩
instance fd_93_0 : CFd Tryz.prog 93 0 0 := ⟨fdA Tryz.underlying93 rfl rfl ti_88.h rfl⟩
instance sh_88 : CSh Tryz.prog 88 false 1 := ⟨shp Tryz.underlying88 rfl ti_88.h⟩
instance fd_93_2 : CFd Tryz.prog 93 2 2 := ⟨fdA Tryz.underlying93 rfl rfl ti_41.h rfl⟩
instance fd_93_1 : CFd Tryz.prog 93 1 1 := ⟨fdA Tryz.underlying93 rfl rfl ti_9.h rfl⟩
instance ti_57 : CTy Tryz.prog 57 2 48 (.agg #[.slice none 0 0, .slice none 0 0]) := ⟨tyI (by kernel_rfl)⟩
instance : CZy Tryz.prog 57 (L_tree_Field (⟨[], []⟩ : M_tree_Field)) := ⟨_, _, _, ti_57.h, zr_tree_Field⟩
instance : CUn Tryz.prog 290 (.slice 284) := ⟨Tryz.underlying290⟩
instance ti_294 : CTy Tryz.prog 294 5 72 (.agg #[.slice none 0 0, .int .i64 0, .int .i64 0, .int .i64 0, .slice none 0 0]) := ⟨tyI (by kernel_rfl)⟩
instance pl_294 : CPl Tryz.prog 294 [(0, 1), (1, 1), (2, 1), (3, 1), (4, 1)] := ⟨⟨_, Tryz.underlying294, by kernel_rfl⟩⟩
theorem zr_parse_reader : Zr (L_parse_reader (⟨[], 0, 0, 0, []⟩ : M_parse_reader)) [.slice none 0 0, .int .i64 0, .int .i64 0, .int .i64 0, .slice none 0 0] := zr_agg (zrs_cons (c1 := [.slice none 0 0]) (zr_sli (k := 3)) (zrs_cons (c1 := [.int .i64 0]) zr_i64 (zrs_cons (c1 := [.int .i64 0]) zr_i64 (zrs_cons (c1 := [.int .i64 0]) zr_i64 (zrs_cons (c1 := [.slice none 0 0]) (zr_sli (k := 1)) (zrs_nil))))))
instance pl_57 : CPl Tryz.prog 57 [(0, 1), (1, 1)] := ⟨⟨_, Tryz.underlying57, by kernel_rfl⟩⟩
instance sh_57 : CSh Tryz.prog 57 true 2 := ⟨shp Tryz.underlying57 rfl ti_57.h⟩
instance : CZy Tryz.prog 284 (L_lex_Word (⟨0, [], 0⟩ : M_lex_Word)) := ⟨_, _, _, ti_284.h, zr_lex_Word⟩
instance fd_294_1 : CFd Tryz.prog 294 1 1 := ⟨fdA Tryz.underlying294 rfl rfl ti_3.h rfl⟩
instance ti_290 : CTy Tryz.prog 290 1 24 (.slice none 0 0) := ⟨tyI (by kernel_rfl)⟩
instance fd_294_0 : CFd Tryz.prog 294 0 0 := ⟨fdA Tryz.underlying294 rfl rfl ti_290.h rfl⟩
instance sh_290 : CSh Tryz.prog 290 false 1 := ⟨shp Tryz.underlying290 rfl ti_290.h⟩
instance sh_284 : CSh Tryz.prog 284 true 3 := ⟨shp Tryz.underlying284 rfl ti_284.h⟩
theorem ff_284_1 : ∃ fs F, Tryz.prog.underlying 284 = some (.struct fs) ∧ fs[1]? = some F ∧ F.offset = 1 ∧ Shp Tryz.prog F.type false 1 := ⟨_, _, Tryz.underlying284, rfl, rfl, sh_9.h⟩
instance fd_294_2 : CFd Tryz.prog 294 2 2 := ⟨fdA Tryz.underlying294 rfl rfl ti_3.h rfl⟩
instance fd_284_2 : CFd Tryz.prog 284 2 2 := ⟨fdA Tryz.underlying284 rfl rfl ti_3.h rfl⟩
instance ti_54 : CTy Tryz.prog 54 1 24 (.slice none 0 0) := ⟨tyI (by kernel_rfl)⟩
instance fd_57_0 : CFd Tryz.prog 57 0 0 := ⟨fdA Tryz.underlying57 rfl rfl ti_54.h rfl⟩
instance : CUn Tryz.prog 54 (.slice 144) := ⟨Tryz.underlying54⟩
instance sh_54 : CSh Tryz.prog 54 false 1 := ⟨shp Tryz.underlying54 rfl ti_54.h⟩
instance ti_226 : CTy Tryz.prog 226 3 40 (.agg #[.int .i64 0, .int .i64 0, .slice none 0 0]) := ⟨tyI (by kernel_rfl)⟩
instance pl_226 : CPl Tryz.prog 226 [(0, 1), (1, 1), (2, 1)] := ⟨⟨_, Tryz.underlying226, by kernel_rfl⟩⟩
theorem zr_tree_Node : Zr (L_tree_Node (⟨0, 0, []⟩ : M_tree_Node)) [.int .i64 0, .int .i64 0, .slice none 0 0] := zr_agg (zrs_cons (c1 := [.int .i64 0]) zr_i64 (zrs_cons (c1 := [.int .i64 0]) zr_i64 (zrs_cons (c1 := [.slice none 0 0]) (zr_sli (k := 1)) (zrs_nil))))
instance : CUn Tryz.prog 142 (.slice 226) := ⟨Tryz.underlying142⟩
instance fd_294_3 : CFd Tryz.prog 294 3 3 := ⟨fdA Tryz.underlying294 rfl rfl ti_3.h rfl⟩
instance ti_110 : CTy Tryz.prog 110 1 24 (.slice none 0 0) := ⟨tyI (by kernel_rfl)⟩
instance fd_294_4 : CFd Tryz.prog 294 4 4 := ⟨fdA Tryz.underlying294 rfl rfl ti_110.h rfl⟩
instance sh_110 : CSh Tryz.prog 110 false 1 := ⟨shp Tryz.underlying110 rfl ti_110.h⟩
instance ti_144 : CTy Tryz.prog 144 2 40 (.agg #[.string ⟨#[]⟩, .slice none 0 0]) := ⟨tyI (by kernel_rfl)⟩
instance pl_144 : CPl Tryz.prog 144 [(0, 1), (1, 1)] := ⟨⟨_, Tryz.underlying144, by kernel_rfl⟩⟩
theorem zr_tree_Let : Zr (L_tree_Let (⟨[], []⟩ : M_tree_Let)) [.string ⟨#[]⟩, .slice none 0 0] := zr_agg (zrs_cons (c1 := [.string ⟨#[]⟩]) zr_str (zrs_cons (c1 := [.slice none 0 0]) (zr_sli (k := 3)) (zrs_nil)))
instance ti_55 : CTy Tryz.prog 55 1 24 (.slice none 0 0) := ⟨tyI (by kernel_rfl)⟩
instance fd_57_1 : CFd Tryz.prog 57 1 1 := ⟨fdA Tryz.underlying57 rfl rfl ti_55.h rfl⟩
instance : CUn Tryz.prog 55 (.slice 142) := ⟨Tryz.underlying55⟩
instance sh_55 : CSh Tryz.prog 55 false 1 := ⟨shp Tryz.underlying55 rfl ti_55.h⟩
instance ti_142 : CTy Tryz.prog 142 1 24 (.slice none 0 0) := ⟨tyI (by kernel_rfl)⟩
instance fd_77_0 : CFd Tryz.prog 77 0 0 := ⟨fdA Tryz.underlying77 rfl rfl ti_9.h rfl⟩
instance fd_77_1 : CFd Tryz.prog 77 1 1 := ⟨fdA Tryz.underlying77 rfl rfl ti_57.h rfl⟩
instance pl_77 : CPl Tryz.prog 77 [(0, 1), (1, 2), (3, 38), (41, 1), (42, 1), (43, 1), (44, 3), (47, 1)] := ⟨⟨_, Tryz.underlying77, by kernel_rfl⟩⟩
instance sh_77 : CSh Tryz.prog 77 true 48 := ⟨shp Tryz.underlying77 rfl ti_77.h⟩
instance fd_41_0 : CFd Tryz.prog 41 0 0 := ⟨fdA Tryz.underlying41 rfl rfl ti_3.h rfl⟩
instance fd_41_1 : CFd Tryz.prog 41 1 1 := ⟨fdA Tryz.underlying41 rfl rfl ti_3.h rfl⟩
instance fd_41_2 : CFd Tryz.prog 41 2 2 := ⟨fdA Tryz.underlying41 rfl rfl ti_3.h rfl⟩
instance fd_41_3 : CFd Tryz.prog 41 3 3 := ⟨fdA Tryz.underlying41 rfl rfl ti_3.h rfl⟩
instance : CUn Tryz.prog 26 (.slice 3) := ⟨Tryz.underlying26⟩
instance ti_75 : CTy Tryz.prog 75 38 696 (.agg #[.slice none 0 0, .slice none 0 0, .int .i64 0, .int .i64 0, .string ⟨#[]⟩, .slice none 0 0, .slice none 0 0, .slice none 0 0, .slice none 0 0, .slice none 0 0, .int .i64 0, .bool false, .slice none 0 0, .slice none 0 0, .bool false, .slice none 0 0, .slice none 0 0, .bool false, .slice none 0 0, .slice none 0 0, .bool false, .slice none 0 0, .slice none 0 0, .bool false, .slice none 0 0, .slice none 0 0, .int .i64 0, .int .i64 0, .bool false, .slice none 0 0, .slice none 0 0, .bool false, .slice none 0 0, .slice none 0 0, .bool false, .slice none 0 0, .slice none 0 0, .slice none 0 0]) := ⟨tyI (by kernel_rfl)⟩
instance fd_77_2 : CFd Tryz.prog 77 2 3 := ⟨fdA Tryz.underlying77 rfl rfl ti_75.h rfl⟩
instance sh_75 : CSh Tryz.prog 75 true 38 := ⟨shp Tryz.underlying75 rfl ti_75.h⟩
instance ti_84 : CTy Tryz.prog 84 5 104 (.agg #[.slice none 0 0, .bool false, .slice none 0 0, .slice none 0 0, .slice none 0 0]) := ⟨tyI (by kernel_rfl)⟩
theorem zr_past_History : Zr (L_past_History (⟨[], (⟨(⟨false, []⟩ : M_whole_Whole), []⟩ : M_frac_Frac), []⟩ : M_past_History)) [.slice none 0 0, .bool false, .slice none 0 0, .slice none 0 0, .slice none 0 0] := zr_agg (zrs_cons (c1 := [.slice none 0 0]) (zr_sli (k := 14)) (zrs_cons (c1 := [.bool false, .slice none 0 0, .slice none 0 0]) zr_frac_Frac (zrs_cons (c1 := [.slice none 0 0]) (zr_sli (k := 3)) (zrs_nil))))
instance : CZy Tryz.prog 84 (L_past_History (⟨[], (⟨(⟨false, []⟩ : M_whole_Whole), []⟩ : M_frac_Frac), []⟩ : M_past_History)) := ⟨_, _, _, ti_84.h, zr_past_History⟩
instance sh_84 : CSh Tryz.prog 84 true 5 := ⟨shp Tryz.underlying84 rfl ti_84.h⟩
instance ti_29 : CTy Tryz.prog 29 3 32 (.agg #[.int .i64 0, .int .i64 0, .string ⟨#[]⟩]) := ⟨tyI (by kernel_rfl)⟩
instance sh_29 : CSh Tryz.prog 29 true 3 := ⟨shp Tryz.underlying29 rfl ti_29.h⟩
theorem zr_retrospectlaw50_Op : Zr (L_retrospectlaw50_Op (⟨0, 0, []⟩ : M_retrospectlaw50_Op)) [.int .i64 0, .int .i64 0, .string ⟨#[]⟩] := zr_agg (zrs_cons (c1 := [.int .i64 0]) zr_i64 (zrs_cons (c1 := [.int .i64 0]) zr_i64 (zrs_cons (c1 := [.string ⟨#[]⟩]) zr_str (zrs_nil))))
instance : CZy Tryz.prog 29 (L_retrospectlaw50_Op (⟨0, 0, []⟩ : M_retrospectlaw50_Op)) := ⟨_, _, _, ti_29.h, zr_retrospectlaw50_Op⟩
instance fd_29_0 : CFd Tryz.prog 29 0 0 := ⟨fdA Tryz.underlying29 rfl rfl ti_3.h rfl⟩
instance ti_35 : CTy Tryz.prog 35 1 8 (.chan none) := ⟨tyI (by kernel_rfl)⟩
instance fd_37_0 : CFd Tryz.prog 37 0 0 := ⟨fdA Tryz.underlying37 rfl rfl ti_35.h rfl⟩
instance sh_35 : CSh Tryz.prog 35 false 1 := ⟨shp Tryz.underlying35 rfl ti_35.h⟩
instance fd_37_1 : CFd Tryz.prog 37 1 1 := ⟨fdA Tryz.underlying37 rfl rfl ti_4.h rfl⟩
instance fd_29_1 : CFd Tryz.prog 29 1 1 := ⟨fdA Tryz.underlying29 rfl rfl ti_3.h rfl⟩
theorem c_desk_NewLine_int_ {x0} : ∀ r, m_desk_NewLine_int_ x0 = some r → FnOk Tryz.prog 4 [i64 x0] [] (.own 50) [(50, .bx 37 (.agg [.own 70, bl r.2])), (70, chC chVI r.1)] := by
 unfold m_desk_NewLine_int_
 refine fs Tryz.func4 fun w S0 γ hγ => ?_
 apply z [2, 31, 1, 2, 30, 88, 89]
 refine b fun _ h1 => ?_
 refine so (mkCho chVI (y := 100) (grd_some h1) Tryz.underlying35 ti_3.h rfl rfl rfl rfl) ?_
 refine s1 (bld (l := [.own 100, bl false]) pl_37.h ti_37.h (zr_agg (zrs_cons (c1 := [.chan none]) zr_nch (zrs_cons (c1 := [.bool false]) zr_bl (zrs_nil)))) ⟨_, _, _, rfl, rfl, rfl, rfl, (szk (k := 1) rfl rfl), rfl⟩ rfl) ?_
 refine o (bx' 101) ?_
 apply z [31, 1, 8]
 exact rt [(50, 101), (70, 100)]
theorem c_desk_NewLine_string_ {x0} : ∀ r, m_desk_NewLine_string_ x0 = some r → FnOk Tryz.prog 16 [i64 x0] [] (.own 50) [(50, .bx 53 (.agg [.own 70, bl r.2])), (70, chC chVS r.1)] := by
 unfold m_desk_NewLine_string_
 refine fs Tryz.func16 fun w S0 γ hγ => ?_
 apply z [2, 31, 1, 2, 30, 88, 89]
 refine b fun _ h1 => ?_
 refine so (mkCho chVS (y := 100) (grd_some h1) Tryz.underlying51 ti_9.h rfl rfl rfl rfl) ?_
 refine s1 (bld (l := [.own 100, bl false]) pl_53.h ti_53.h (zr_agg (zrs_cons (c1 := [.chan none]) zr_nch (zrs_cons (c1 := [.bool false]) zr_bl (zrs_nil)))) ⟨_, _, _, rfl, rfl, rfl, rfl, (szk (k := 1) rfl rfl), rfl⟩ rfl) ?_
 refine o (bx' 101) ?_
 apply z [31, 1, 8]
 exact rt [(50, 101), (70, 100)]
theorem c_desk_New {x0} : ∀ r, m_desk_New x0 = some r → FnOk Tryz.prog 12 [i64 x0] [] (.own 50) [(50, .bx 48 (.agg [.own 70, .own 72, i64 r.2.2.2.2.1, i64 r.2.2.2.2.2.1, bl r.2.2.2.2.2.2])), (70, .bx 53 (.agg [.own 71, bl r.2.1])), (71, chC chVS r.1), (72, .bx 53 (.agg [.own 73, bl r.2.2.2.1])), (73, chC chVS r.2.2.1)] := by
 unfold m_desk_New
 refine fs Tryz.func12 fun w S0 γ hγ => ?_
 apply z [2, 31, 1, 2, 30]
 refine b fun r1 h2 => ?_
 refine o (cG (c_desk_NewLine_string_ _ h2) [] [(100, 50), (101, 70)] []) ?_
 apply z [30]
 refine b fun r3 h4 => ?_
 refine o (cG (c_desk_NewLine_string_ _ h4) [] [(102, 50), (103, 70)] []) ?_
 refine s1 (bld (l := [.own 100, .own 102, i64 0, i64 0, bl false]) pl_48.h ti_48.h (zr_agg (zrs_cons (c1 := [.pointer none]) zr_por (zrs_cons (c1 := [.pointer none]) zr_por (zrs_cons (c1 := [.int .i64 0]) zr_i64 (zrs_cons (c1 := [.int .i64 0]) zr_i64 (zrs_cons (c1 := [.bool false]) zr_bl (zrs_nil))))))) ⟨_, _, _, rfl, rfl, rfl, rfl, (szk (k := 1) rfl rfl), ⟨_, _, _, rfl, rfl, rfl, rfl, (szk (k := 1) rfl rfl), rfl⟩⟩ rfl) ?_
 refine o (bx' 104) ?_
 apply z [31, 1, 8]
 exact rt [(50, 104), (70, 100), (71, 101), (72, 102), (73, 103)]
end Go.Proofs.YtcdeknlejjjmlaaGreatDoor
