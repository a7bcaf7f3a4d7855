import Derived.Test.YtiobbiamnjapgaaDoorMod
import Derived.Test.YtiobbiamnjapgaaDoorBld
import Derived.Test.YtiobbiamnjapgaaDoorLib
import Derived.Test.YtiobbiamnjapgaaDoorChecked
set_option maxRecDepth 100000
set_option maxHeartbeats 4000000
namespace Go.Proofs.YtiobbiamnjapgaaDoor
open Go Go.RowKit
theorem ownK : ownKnob Tryd.prog.godebug = none := by kernel_rfl
theorem laidOutK : laidOutB Tryd.prog = true := by kernel_rfl
abbrev L_S_u32 (xs : List Nat) : Ly := sli 1 (xs.map u32)
abbrev L_retrospectref09_Frac (x : M_retrospectref09_Frac) : Ly := .agg [bl x.Neg, L_S_u32 x.N, L_S_u32 x.D]
theorem if_L_retrospectref09_Frac {a0_ a1_ a2_} : IF (.agg [bl a0_, sli 1 a1_, sli 1 a2_]) := if_agg (ifs_cons if_bl (ifs_cons if_sli (ifs_cons if_sli (ifs_nil))))
abbrev L_retrospectref24_Inst (x : M_retrospectref24_Inst) : Ly := .agg [i64 x.Op, i64 x.A, i64 x.B, L_retrospectref09_Frac x.N]
theorem if_L_retrospectref24_Inst {a0_ a1_ a2_ a3_0_ a3_1_ a3_2_} : IF (.agg [i64 a0_, i64 a1_, i64 a2_, .agg [bl a3_0_, sli 1 a3_1_, sli 1 a3_2_]]) := if_agg (ifs_cons if_i64 (ifs_cons if_i64 (ifs_cons if_i64 (ifs_cons (if_agg (ifs_cons if_bl (ifs_cons if_sli (ifs_cons if_sli (ifs_nil))))) (ifs_nil)))))
abbrev L_S_retrospectref24_Inst (xs : List M_retrospectref24_Inst) : Ly := sli 6 (xs.map L_retrospectref24_Inst)
abbrev L_S_i64 (xs : List Int) : Ly := sli 1 (xs.map i64)
abbrev L_retrospectref24_Tape (x : M_retrospectref24_Tape) : Ly := .agg [L_S_retrospectref24_Inst x.Code, L_S_i64 x.Outs, i64 x.Dim, i64 x.Par]
theorem if_L_retrospectref24_Tape {a0_ a1_ a2_ a3_} : IF (.agg [sli 6 a0_, sli 1 a1_, i64 a2_, i64 a3_]) := if_agg (ifs_cons if_sli (ifs_cons if_sli (ifs_cons if_i64 (ifs_cons if_i64 (ifs_nil)))))
abbrev L_whole_Whole (x : M_whole_Whole) : Ly := .agg [bl x.Neg, L_S_u32 x.Abs]
theorem if_L_whole_Whole {a0_ a1_} : IF (.agg [bl a0_, sli 1 a1_]) := if_agg (ifs_cons if_bl (ifs_cons if_sli (ifs_nil)))
abbrev L_frac_Frac (x : M_frac_Frac) : Ly := .agg [L_whole_Whole x.Num, L_S_u32 x.Den]
theorem if_L_frac_Frac {a0_0_ a0_1_ a1_} : IF (.agg [.agg [bl a0_0_, sli 1 a0_1_], sli 1 a1_]) := if_agg (ifs_cons (if_agg (ifs_cons if_bl (ifs_cons if_sli (ifs_nil)))) (ifs_cons if_sli (ifs_nil)))
abbrev L_tape_Inst (x : M_tape_Inst) : Ly := .agg [i64 x.Op, i64 x.A, i64 x.B, L_frac_Frac x.N]
theorem if_L_tape_Inst {a0_ a1_ a2_ a3_0_0_ a3_0_1_ a3_1_} : IF (.agg [i64 a0_, i64 a1_, i64 a2_, .agg [.agg [bl a3_0_0_, sli 1 a3_0_1_], sli 1 a3_1_]]) := if_agg (ifs_cons if_i64 (ifs_cons if_i64 (ifs_cons if_i64 (ifs_cons (if_agg (ifs_cons (if_agg (ifs_cons if_bl (ifs_cons if_sli (ifs_nil)))) (ifs_cons if_sli (ifs_nil)))) (ifs_nil)))))
abbrev L_S_tape_Inst (xs : List M_tape_Inst) : Ly := sli 6 (xs.map L_tape_Inst)
abbrev L_tape_Tape (x : M_tape_Tape) : Ly := .agg [L_S_tape_Inst x.Code, L_S_i64 x.Outs, i64 x.Dim, i64 x.Par]
theorem if_L_tape_Tape {a0_ a1_ a2_ a3_} : IF (.agg [sli 6 a0_, sli 1 a1_, i64 a2_, i64 a3_]) := if_agg (ifs_cons if_sli (ifs_cons if_sli (ifs_cons if_i64 (ifs_cons if_i64 (ifs_nil)))))
abbrev L_tape_numbers (x : M_tape_numbers) : Ly := .agg [i64 x.op, i64 x.a, i64 x.b]
theorem if_L_tape_numbers {a0_ a1_ a2_} : IF (.agg [i64 a0_, i64 a1_, i64 a2_]) := if_agg (ifs_cons if_i64 (ifs_cons if_i64 (ifs_cons if_i64 (ifs_nil))))
abbrev L_A12_string (x : M_A12_string) : Ly := .agg [str x.a0, str x.a1, str x.a2, str x.a3, str x.a4, str x.a5, str x.a6, str x.a7, str x.a8, str x.a9, str x.a10, str x.a11]
theorem if_L_A12_string {a0_ a1_ a2_ a3_ a4_ a5_ a6_ a7_ a8_ a9_ a10_ a11_} : IF (.agg [str a0_, str a1_, str a2_, str a3_, str a4_, str a5_, str a6_, str a7_, str a8_, str a9_, str a10_, str a11_]) := if_agg (ifs_cons if_str (ifs_cons if_str (ifs_cons if_str (ifs_cons if_str (ifs_cons if_str (ifs_cons if_str (ifs_cons if_str (ifs_cons if_str (ifs_cons if_str (ifs_cons if_str (ifs_cons if_str (ifs_cons if_str (ifs_nil)))))))))))))
abbrev L_A9_u8 (x : M_A9_u8) : Ly := .agg [u8 x.a0, u8 x.a1, u8 x.a2, u8 x.a3, u8 x.a4, u8 x.a5, u8 x.a6, u8 x.a7, u8 x.a8]
theorem if_L_A9_u8 {a0_ a1_ a2_ a3_ a4_ a5_ a6_ a7_ a8_} : IF (.agg [u8 a0_, u8 a1_, u8 a2_, u8 a3_, u8 a4_, u8 a5_, u8 a6_, u8 a7_, u8 a8_]) := if_agg (ifs_cons if_u8 (ifs_cons if_u8 (ifs_cons if_u8 (ifs_cons if_u8 (ifs_cons if_u8 (ifs_cons if_u8 (ifs_cons if_u8 (ifs_cons if_u8 (ifs_cons if_u8 (ifs_nil))))))))))
abbrev L_S_bool (xs : List Bool) : Ly := sli 1 (xs.map bl)
theorem ti_43 : TyI Tryd.prog 43 4 64 (.agg #[.slice none 0 0, .slice none 0 0, .int .i64 0, .int .i64 0]) := tyI (by kernel_rfl)
theorem sh_43 : Shp Tryd.prog 43 true 4 := shp Tryd.underlying43 rfl ti_43
theorem ti_40 : TyI Tryd.prog 40 1 24 (.slice none 0 0) := tyI (by kernel_rfl)
theorem fd_43_0 : FldAt Tryd.prog 43 0 0 := by
  obtain ⟨i, h1, _, h3, _⟩ := ti_40
  exact ⟨_, _, Tryd.underlying43, rfl, rfl, i, h1, by rw [h3]; decide⟩
theorem sh_40 : Shp Tryd.prog 40 false 1 := shp Tryd.underlying40 rfl ti_40
theorem ti_93 : TyI Tryd.prog 93 6 80 (.agg #[.int .i64 0, .int .i64 0, .int .i64 0, .bool false, .slice none 0 0, .slice none 0 0]) := tyI (by kernel_rfl)
theorem ti_91 : TyI Tryd.prog 91 3 56 (.agg #[.bool false, .slice none 0 0, .slice none 0 0]) := tyI (by kernel_rfl)
theorem fd_93_3 : FldAt Tryd.prog 93 3 3 := by
  obtain ⟨i, h1, _, h3, _⟩ := ti_91
  exact ⟨_, _, Tryd.underlying93, rfl, rfl, i, h1, by rw [h3]; decide⟩
theorem sh_91 : Shp Tryd.prog 91 true 3 := shp Tryd.underlying91 rfl ti_91
theorem ti_53 : TyI Tryd.prog 53 1 24 (.slice none 0 0) := tyI (by kernel_rfl)
theorem fd_91_1 : FldAt Tryd.prog 91 1 1 := by
  obtain ⟨i, h1, _, h3, _⟩ := ti_53
  exact ⟨_, _, Tryd.underlying91, rfl, rfl, i, h1, by rw [h3]; decide⟩
theorem sh_53 : Shp Tryd.prog 53 false 1 := shp Tryd.underlying53 rfl ti_53
theorem fd_91_2 : FldAt Tryd.prog 91 2 2 := by
  obtain ⟨i, h1, _, h3, _⟩ := ti_53
  exact ⟨_, _, Tryd.underlying91, rfl, rfl, i, h1, by rw [h3]; decide⟩
theorem ti_41 : TyI Tryd.prog 41 1 24 (.slice none 0 0) := tyI (by kernel_rfl)
theorem fd_43_1 : FldAt Tryd.prog 43 1 1 := by
  obtain ⟨i, h1, _, h3, _⟩ := ti_41
  exact ⟨_, _, Tryd.underlying43, rfl, rfl, i, h1, by rw [h3]; decide⟩
theorem sh_41 : Shp Tryd.prog 41 false 1 := shp Tryd.underlying41 rfl ti_41
theorem ti_59 : TyI Tryd.prog 59 6 80 (.agg #[.int .i64 0, .int .i64 0, .int .i64 0, .bool false, .slice none 0 0, .slice none 0 0]) := tyI (by kernel_rfl)
theorem pl_59 : Plc Tryd.prog 59 [(0, 1), (1, 1), (2, 1), (3, 3)] := ⟨_, Tryd.underlying59, by kernel_rfl⟩
theorem zr_whole_Whole : Zr (L_whole_Whole (⟨false, []⟩ : M_whole_Whole)) [.bool false, .slice none 0 0] := zr_agg (zrs_cons (c1 := [.bool false]) zr_bl (zrs_cons (c1 := [.slice none 0 0]) (zr_sli (k := 1)) (zrs_nil)))
theorem zr_frac_Frac : Zr (L_frac_Frac (⟨(⟨false, []⟩ : M_whole_Whole), []⟩ : M_frac_Frac)) [.bool false, .slice none 0 0, .slice none 0 0] := zr_agg (zrs_cons (c1 := [.bool false, .slice none 0 0]) zr_whole_Whole (zrs_cons (c1 := [.slice none 0 0]) (zr_sli (k := 1)) (zrs_nil)))
theorem zr_tape_Inst : Zr (L_tape_Inst (⟨0, 0, 0, (⟨(⟨false, []⟩ : M_whole_Whole), []⟩ : M_frac_Frac)⟩ : M_tape_Inst)) [.int .i64 0, .int .i64 0, .int .i64 0, .bool false, .slice none 0 0, .slice none 0 0] := zr_agg (zrs_cons (c1 := [.int .i64 0]) zr_i64 (zrs_cons (c1 := [.int .i64 0]) zr_i64 (zrs_cons (c1 := [.int .i64 0]) zr_i64 (zrs_cons (c1 := [.bool false, .slice none 0 0, .slice none 0 0]) zr_frac_Frac (zrs_nil)))))
theorem ti_3 : TyI Tryd.prog 3 1 8 (.int .i64 0) := tyI (by kernel_rfl)
theorem ti_47 : TyI Tryd.prog 47 4 64 (.agg #[.slice none 0 0, .slice none 0 0, .int .i64 0, .int .i64 0]) := tyI (by kernel_rfl)
theorem pl_47 : Plc Tryd.prog 47 [(0, 1), (1, 1), (2, 1), (3, 1)] := ⟨_, Tryd.underlying47, by kernel_rfl⟩
theorem zr_tape_Tape : Zr (L_tape_Tape (⟨[], [], 0, 0⟩ : M_tape_Tape)) [.slice none 0 0, .slice none 0 0, .int .i64 0, .int .i64 0] := zr_agg (zrs_cons (c1 := [.slice none 0 0]) (zr_sli (k := 6)) (zrs_cons (c1 := [.slice none 0 0]) (zr_sli (k := 1)) (zrs_cons (c1 := [.int .i64 0]) zr_i64 (zrs_cons (c1 := [.int .i64 0]) zr_i64 (zrs_nil)))))
theorem sh_47 : Shp Tryd.prog 47 true 4 := shp Tryd.underlying47 rfl ti_47
theorem fd_47_2 : FldAt Tryd.prog 47 2 2 := by
  obtain ⟨i, h1, _, h3, _⟩ := ti_3
  exact ⟨_, _, Tryd.underlying47, rfl, rfl, i, h1, by rw [h3]; decide⟩
theorem sh_3 : Shp Tryd.prog 3 false 1 := shp Tryd.underlying3 rfl ti_3
theorem fd_47_3 : FldAt Tryd.prog 47 3 3 := by
  obtain ⟨i, h1, _, h3, _⟩ := ti_3
  exact ⟨_, _, Tryd.underlying47, rfl, rfl, i, h1, by rw [h3]; decide⟩
theorem fd_47_1 : FldAt Tryd.prog 47 1 1 := by
  obtain ⟨i, h1, _, h3, _⟩ := ti_41
  exact ⟨_, _, Tryd.underlying47, rfl, rfl, i, h1, by rw [h3]; decide⟩
theorem ti_45 : TyI Tryd.prog 45 1 24 (.slice none 0 0) := tyI (by kernel_rfl)
theorem fd_47_0 : FldAt Tryd.prog 47 0 0 := by
  obtain ⟨i, h1, _, h3, _⟩ := ti_45
  exact ⟨_, _, Tryd.underlying47, rfl, rfl, i, h1, by rw [h3]; decide⟩
theorem sh_45 : Shp Tryd.prog 45 false 1 := shp Tryd.underlying45 rfl ti_45
theorem sh_59 : Shp Tryd.prog 59 true 6 := shp Tryd.underlying59 rfl ti_59
theorem fd_59_0 : FldAt Tryd.prog 59 0 0 := by
  obtain ⟨i, h1, _, h3, _⟩ := ti_3
  exact ⟨_, _, Tryd.underlying59, rfl, rfl, i, h1, by rw [h3]; decide⟩
theorem ti_130 : TyI Tryd.prog 130 3 24 (.agg #[.int .i64 0, .int .i64 0, .int .i64 0]) := tyI (by kernel_rfl)
theorem zr_tape_numbers : Zr (L_tape_numbers (⟨0, 0, 0⟩ : M_tape_numbers)) [.int .i64 0, .int .i64 0, .int .i64 0] := zr_agg (zrs_cons (c1 := [.int .i64 0]) zr_i64 (zrs_cons (c1 := [.int .i64 0]) zr_i64 (zrs_cons (c1 := [.int .i64 0]) zr_i64 (zrs_nil))))
theorem fd_59_1 : FldAt Tryd.prog 59 1 1 := by
  obtain ⟨i, h1, _, h3, _⟩ := ti_3
  exact ⟨_, _, Tryd.underlying59, rfl, rfl, i, h1, by rw [h3]; decide⟩
theorem fd_59_2 : FldAt Tryd.prog 59 2 2 := by
  obtain ⟨i, h1, _, h3, _⟩ := ti_3
  exact ⟨_, _, Tryd.underlying59, rfl, rfl, i, h1, by rw [h3]; decide⟩
theorem pl_130 : Plc Tryd.prog 130 [(0, 1), (1, 1), (2, 1)] := ⟨_, Tryd.underlying130, by kernel_rfl⟩
theorem sh_130 : Shp Tryd.prog 130 true 3 := shp Tryd.underlying130 rfl ti_130
theorem eq_130_2 : EqF Tryd.prog 2 130 (fun x : M_tape_numbers => .agg [i64 x.op, i64 x.a, i64 x.b]) eqb_tape_numbers :=
  eqf_struct Tryd.underlying130 (by kernel_rfl) (eqfs_cons rfl rfl sh_3 (fun _ => rfl) (fun _ => rfl) (eqf_comp (fun x : M_tape_numbers => x.op) (eqf_i64 (n := 0) Tryd.underlying3)) (eqfs_cons rfl rfl sh_3 (fun _ => rfl) (fun _ => rfl) (eqf_comp (fun x : M_tape_numbers => x.a) (eqf_i64 (n := 0) Tryd.underlying3)) (eqfs_cons rfl rfl sh_3 (fun _ => rfl) (fun _ => rfl) (eqf_comp (fun x : M_tape_numbers => x.b) (eqf_i64 (n := 0) Tryd.underlying3)) (eqfs_nil))))
theorem eg_130 : Tryd.prog.eqGuardType Tryd.prog.depth 130 = false := by kernel_rfl
theorem ti_57 : TyI Tryd.prog 57 3 56 (.agg #[.bool false, .slice none 0 0, .slice none 0 0]) := tyI (by kernel_rfl)
theorem fd_59_3 : FldAt Tryd.prog 59 3 3 := by
  obtain ⟨i, h1, _, h3, _⟩ := ti_57
  exact ⟨_, _, Tryd.underlying59, rfl, rfl, i, h1, by rw [h3]; decide⟩
theorem sh_57 : Shp Tryd.prog 57 true 3 := shp Tryd.underlying57 rfl ti_57
theorem ti_55 : TyI Tryd.prog 55 2 32 (.agg #[.bool false, .slice none 0 0]) := tyI (by kernel_rfl)
theorem fd_57_1 : FldAt Tryd.prog 57 1 2 := by
  obtain ⟨i, h1, _, h3, _⟩ := ti_53
  exact ⟨_, _, Tryd.underlying57, rfl, rfl, i, h1, by rw [h3]; decide⟩
theorem ti_139 : TyI Tryd.prog 139 1 4 (.int .u32 0) := tyI (by kernel_rfl)
theorem sh_139 : Shp Tryd.prog 139 false 1 := shp Tryd.underlying139 rfl ti_139
theorem pl_55 : Plc Tryd.prog 55 [(0, 1), (1, 1)] := ⟨_, Tryd.underlying55, by kernel_rfl⟩
theorem sh_55 : Shp Tryd.prog 55 true 2 := shp Tryd.underlying55 rfl ti_55
theorem fd_57_0 : FldAt Tryd.prog 57 0 0 := by
  obtain ⟨i, h1, _, h3, _⟩ := ti_55
  exact ⟨_, _, Tryd.underlying57, rfl, rfl, i, h1, by rw [h3]; decide⟩
theorem fol : Tryd.prog.follows .mixedOrders = true := by kernel_rfl
theorem fd_55_1 : FldAt Tryd.prog 55 1 1 := by
  obtain ⟨i, h1, _, h3, _⟩ := ti_53
  exact ⟨_, _, Tryd.underlying55, rfl, rfl, i, h1, by rw [h3]; decide⟩
theorem ti_4 : TyI Tryd.prog 4 1 1 (.bool false) := tyI (by kernel_rfl)
theorem fd_55_0 : FldAt Tryd.prog 55 0 0 := by
  obtain ⟨i, h1, _, h3, _⟩ := ti_4
  exact ⟨_, _, Tryd.underlying55, rfl, rfl, i, h1, by rw [h3]; decide⟩
theorem sh_4 : Shp Tryd.prog 4 false 1 := shp Tryd.underlying4 rfl ti_4
theorem pl_57 : Plc Tryd.prog 57 [(0, 2), (2, 1)] := ⟨_, Tryd.underlying57, by kernel_rfl⟩
theorem ti_82 : TyI Tryd.prog 82 2 32 (.agg #[.pointer none, .slice none 0 0]) := tyI (by kernel_rfl)
theorem ti_153 : TyI Tryd.prog 153 12 192 (.agg #[.string ⟨#[]⟩, .string ⟨#[]⟩, .string ⟨#[]⟩, .string ⟨#[]⟩, .string ⟨#[]⟩, .string ⟨#[]⟩, .string ⟨#[]⟩, .string ⟨#[]⟩, .string ⟨#[]⟩, .string ⟨#[]⟩, .string ⟨#[]⟩, .string ⟨#[]⟩]) := tyI (by kernel_rfl)
theorem ti_9 : TyI Tryd.prog 9 1 16 (.string ⟨#[]⟩) := tyI (by kernel_rfl)
theorem zr_A12_string : Zr (L_A12_string (⟨[], [], [], [], [], [], [], [], [], [], [], []⟩ : M_A12_string)) [.string ⟨#[]⟩, .string ⟨#[]⟩, .string ⟨#[]⟩, .string ⟨#[]⟩, .string ⟨#[]⟩, .string ⟨#[]⟩, .string ⟨#[]⟩, .string ⟨#[]⟩, .string ⟨#[]⟩, .string ⟨#[]⟩, .string ⟨#[]⟩, .string ⟨#[]⟩] := zr_agg (zrs_cons (c1 := [.string ⟨#[]⟩]) zr_str (zrs_cons (c1 := [.string ⟨#[]⟩]) zr_str (zrs_cons (c1 := [.string ⟨#[]⟩]) zr_str (zrs_cons (c1 := [.string ⟨#[]⟩]) zr_str (zrs_cons (c1 := [.string ⟨#[]⟩]) zr_str (zrs_cons (c1 := [.string ⟨#[]⟩]) zr_str (zrs_cons (c1 := [.string ⟨#[]⟩]) zr_str (zrs_cons (c1 := [.string ⟨#[]⟩]) zr_str (zrs_cons (c1 := [.string ⟨#[]⟩]) zr_str (zrs_cons (c1 := [.string ⟨#[]⟩]) zr_str (zrs_cons (c1 := [.string ⟨#[]⟩]) zr_str (zrs_cons (c1 := [.string ⟨#[]⟩]) zr_str (zrs_nil)))))))))))))
theorem sh_153 : Shp Tryd.prog 153 true 12 := shp Tryd.underlying153 rfl ti_153
theorem sh_9 : Shp Tryd.prog 9 false 1 := shp Tryd.underlying9 rfl ti_9
theorem ti_172 : TyI Tryd.prog 172 9 9 (.agg #[.int .u8 0, .int .u8 0, .int .u8 0, .int .u8 0, .int .u8 0, .int .u8 0, .int .u8 0, .int .u8 0, .int .u8 0]) := tyI (by kernel_rfl)
theorem zr_A9_u8 : Zr (L_A9_u8 (⟨0, 0, 0, 0, 0, 0, 0, 0, 0⟩ : M_A9_u8)) [.int .u8 0, .int .u8 0, .int .u8 0, .int .u8 0, .int .u8 0, .int .u8 0, .int .u8 0, .int .u8 0, .int .u8 0] := zr_agg (zrs_cons (c1 := [.int .u8 0]) zr_u8 (zrs_cons (c1 := [.int .u8 0]) zr_u8 (zrs_cons (c1 := [.int .u8 0]) zr_u8 (zrs_cons (c1 := [.int .u8 0]) zr_u8 (zrs_cons (c1 := [.int .u8 0]) zr_u8 (zrs_cons (c1 := [.int .u8 0]) zr_u8 (zrs_cons (c1 := [.int .u8 0]) zr_u8 (zrs_cons (c1 := [.int .u8 0]) zr_u8 (zrs_cons (c1 := [.int .u8 0]) zr_u8 (zrs_nil))))))))))
theorem ti_5 : TyI Tryd.prog 5 1 1 (.int .u8 0) := tyI (by kernel_rfl)
theorem sh_5 : Shp Tryd.prog 5 false 1 := shp Tryd.underlying5 rfl ti_5
theorem ofl_ok_A9_u8 : ∀ l : List Nat, l.length = 9 → (.agg (l.map u8) : Ly) = L_A9_u8 (ofl_A9_u8 l)
  | [a0, a1, a2, a3, a4, a5, a6, a7, a8], _ => rfl
  | [], h => by simp at h
  | [_], h => by simp at h
  | [_, _], h => by simp at h
  | [_, _, _], h => by simp at h
  | [_, _, _, _], h => by simp at h
  | [_, _, _, _, _], h => by simp at h
  | [_, _, _, _, _, _], h => by simp at h
  | [_, _, _, _, _, _, _], h => by simp at h
  | [_, _, _, _, _, _, _, _], h => by simp at h
  | _ :: _ :: _ :: _ :: _ :: _ :: _ :: _ :: _ :: _ :: _, h => by simp at h
theorem fd_43_2 : FldAt Tryd.prog 43 2 2 := by
  obtain ⟨i, h1, _, h3, _⟩ := ti_3
  exact ⟨_, _, Tryd.underlying43, rfl, rfl, i, h1, by rw [h3]; decide⟩
theorem fd_43_3 : FldAt Tryd.prog 43 3 3 := by
  obtain ⟨i, h1, _, h3, _⟩ := ti_3
  exact ⟨_, _, Tryd.underlying43, rfl, rfl, i, h1, by rw [h3]; decide⟩
theorem sh_93 : Shp Tryd.prog 93 true 6 := shp Tryd.underlying93 rfl ti_93
theorem zr_retrospectref09_Frac : Zr (L_retrospectref09_Frac (⟨false, [], []⟩ : M_retrospectref09_Frac)) [.bool false, .slice none 0 0, .slice none 0 0] := zr_agg (zrs_cons (c1 := [.bool false]) zr_bl (zrs_cons (c1 := [.slice none 0 0]) (zr_sli (k := 1)) (zrs_cons (c1 := [.slice none 0 0]) (zr_sli (k := 1)) (zrs_nil))))
theorem zr_retrospectref24_Inst : Zr (L_retrospectref24_Inst (⟨0, 0, 0, (⟨false, [], []⟩ : M_retrospectref09_Frac)⟩ : M_retrospectref24_Inst)) [.int .i64 0, .int .i64 0, .int .i64 0, .bool false, .slice none 0 0, .slice none 0 0] := zr_agg (zrs_cons (c1 := [.int .i64 0]) zr_i64 (zrs_cons (c1 := [.int .i64 0]) zr_i64 (zrs_cons (c1 := [.int .i64 0]) zr_i64 (zrs_cons (c1 := [.bool false, .slice none 0 0, .slice none 0 0]) zr_retrospectref09_Frac (zrs_nil)))))
theorem fd_93_0 : FldAt Tryd.prog 93 0 0 := by
  obtain ⟨i, h1, _, h3, _⟩ := ti_3
  exact ⟨_, _, Tryd.underlying93, rfl, rfl, i, h1, by rw [h3]; decide⟩
theorem fd_93_1 : FldAt Tryd.prog 93 1 1 := by
  obtain ⟨i, h1, _, h3, _⟩ := ti_3
  exact ⟨_, _, Tryd.underlying93, rfl, rfl, i, h1, by rw [h3]; decide⟩
theorem fd_93_2 : FldAt Tryd.prog 93 2 2 := by
  obtain ⟨i, h1, _, h3, _⟩ := ti_3
  exact ⟨_, _, Tryd.underlying93, rfl, rfl, i, h1, by rw [h3]; decide⟩
theorem fd_91_0 : FldAt Tryd.prog 91 0 0 := by
  obtain ⟨i, h1, _, h3, _⟩ := ti_4
  exact ⟨_, _, Tryd.underlying91, rfl, rfl, i, h1, by rw [h3]; decide⟩
theorem c_retrospectref09_Long {x0 : M_retrospectref09_Frac} {x1 : Int} : ∀ r, m_retrospectref09_Long x0 x1 = some r → FnOk Tryd.prog 33 [L_retrospectref09_Frac x0, i64 x1] [] (bl r) [] := by
  unfold m_retrospectref09_Long
  refine fn_of_sq (res := fun (r : Bool) => bl r) (mo := fun (r : Bool) => []) Tryd.func33 rfl rfl (by kernel_rfl) rfl ?_
  intro w S0 γ hγ
  refine sseq ?_
  refine sreg ?_
  refine so (box (y := 100) (by exact rfl) rfl rfl rfl) ?_
  refine s1 (asg rfl kB) ?_
  refine snil ?_
  refine pnm ?_
  refine sjq (fun (s3 : Bool) => [(4, bl s3)]) (fun (s3 : Bool) => []) ?_ ?_
  · intro j1 hj2
    refine sreg ?_
    refine s1 (faO rfl fd_91_1 rfl rfl) ?_
    refine s1 (ldB [1] rfl (by exact rfl) sh_53 (by exact rfl) (by exact rfl) rfl rfl (.inl rfl)) ?_
    refine s1 (lenL (f := u32) Tryd.underlying53 rfl rfl) ?_
    refine s1 (mv rfl rfl) ?_
    refine s1 (gtI rfl rfl rfl) ?_
    refine s1 (mv rfl rfl) ?_
    refine sifd 10 rfl ?_ ?_
    · refine spB 10 rfl rfl rfl ?_
      refine spB 10 rfl rfl rfl ?_
      refine spB 10 rfl rfl rfl ?_
      refine spB 10 rfl rfl rfl ?_
      refine spB 10 rfl rfl rfl ?_
      refine s1 (pickT rfl rfl kB) ?_
      refine s1 (asg rfl rfl) ?_
      refine snil ?_
      refine pnm ?_
      exact sj (hj2 _) (entR [] rfl (keepS hγ trivial) (by exact trivial) (by exact trivial) ⟨⟨_, rfl, rn_id if_bl⟩, trivial⟩)
    · refine sg 10 rfl rfl (faO rfl fd_91_2 rfl rfl) ?_
      refine sg 10 rfl rfl (ldB [2] rfl (by exact rfl) sh_53 (by exact rfl) (by exact rfl) rfl rfl (.inl rfl)) ?_
      refine sg 10 rfl rfl (lenL (f := u32) Tryd.underlying53 rfl rfl) ?_
      refine sg 10 rfl rfl (mv rfl rfl) ?_
      refine sg 10 rfl rfl (gtI rfl rfl rfl) ?_
      refine s1 (pickF rfl rfl rfl) ?_
      refine s1 (asg rfl rfl) ?_
      refine snil ?_
      refine pnm ?_
      exact sj (hj2 _) (entR [] rfl (keepS hγ trivial) (by exact trivial) (by exact trivial) ⟨⟨_, rfl, rn_id if_bl⟩, trivial⟩)
  · intro s3
    refine sret ?_
    exact ret [] [.tmp 4] [_] [_] .ret hγ (.inl rfl) rfl ⟨rfl, trivial⟩ rfl trivial trivial trivial (rns_cons (rn_id if_bl) (rns_nil)) rfl
theorem c_retrospectref24_Long {n : Nat} {x0 : M_retrospectref24_Tape} {x1 : Int} {x2 : Int} : ∀ r, m_retrospectref24_Long n x0 x1 x2 = some r → FnOk Tryd.prog 15 [L_retrospectref24_Tape x0, i64 x1, i64 x2] [] (bl r) [] := by
  unfold m_retrospectref24_Long
  refine fn_of_sq (res := fun (r : Bool) => bl r) (mo := fun (r : Bool) => []) Tryd.func15 rfl rfl (by kernel_rfl) rfl ?_
  intro w S0 γ hγ
  refine sseq ?_
  refine sreg ?_
  refine so (box (y := 100) (by exact rfl) rfl rfl rfl) ?_
  refine s1 (asg rfl kB) ?_
  refine snil ?_
  refine pnm ?_
  refine sseq ?_
  refine sseq ?_
  refine sreg ?_
  refine s1 (asg rfl (kI (x := 0) rfl)) ?_
  refine snil ?_
  refine pnm ?_
  refine sblk ?_
  refine sloopE 0 Lp.go (fun (s19 : Int) => [(1, i64 x1), (2, i64 x2), (3, .own 100), (6, bl false), (7, i64 s19)]) (fun (s19 : Int) => [(100, .bx 43 (L_retrospectref24_Tape x0))]) (fun (t17 : Unit) => [(1, i64 x1), (3, .own 100), (6, bl false)]) (fun (t17 : Unit) => [(100, .bx 43 (L_retrospectref24_Tape x0))]) (entR [(100, 100)] rfl (keepS hγ trivial) ⟨⟨_, rfl⟩, trivial⟩ ⟨⟨_, _, rfl, rfl, rci (rc_bx (rn_id if_L_retrospectref24_Tape))⟩, trivial⟩ ⟨⟨_, rfl, rn_id if_i64⟩, ⟨_, rfl, rn_id if_i64⟩, ⟨_, rfl, rn_own rfl⟩, ⟨_, rfl, rn_id if_bl⟩, ⟨_, rfl, rn_id if_i64⟩, trivial⟩) ?_ ?_
  · intro hj18 s19
    refine sseq ?_
    refine sjq (fun (s22 : Bool) => [(1, i64 x1), (2, i64 x2), (3, .own 100), (6, bl false), (7, i64 s19), (17, bl s22)]) (fun (s22 : Bool) => [(100, .bx 43 (L_retrospectref24_Tape x0))]) ?_ ?_
    · intro j20 hj21
      refine sreg ?_
      refine s1 (mv rfl rfl) ?_
      refine s1 (faO rfl fd_43_0 rfl rfl) ?_
      refine s1 (ldB [0] rfl (by exact rfl) sh_40 (by exact rfl) (by exact rfl) rfl rfl (.inl rfl)) ?_
      refine s1 (lenL (f := L_retrospectref24_Inst) Tryd.underlying40 rfl rfl) ?_
      refine s1 (ltI rfl rfl rfl) ?_
      refine s1 (mv rfl rfl) ?_
      refine sifd 13 rfl ?_ ?_
      · refine sg 13 rfl rfl (mv rfl rfl) ?_
        refine sg 13 rfl rfl (mv rfl rfl) ?_
        refine sg 13 rfl rfl (ltI rfl rfl rfl) ?_
        refine s1 (pickT rfl rfl rfl) ?_
        refine snil ?_
        refine pnm ?_
        exact sj (hj21 _) (entR [(100, 100)] rfl (keepS hγ trivial) ⟨⟨_, rfl⟩, trivial⟩ ⟨⟨_, _, rfl, rfl, rci (rc_bx (rn_id if_L_retrospectref24_Tape))⟩, trivial⟩ ⟨⟨_, rfl, rn_id if_i64⟩, ⟨_, rfl, rn_id if_i64⟩, ⟨_, rfl, rn_own rfl⟩, ⟨_, rfl, rn_id if_bl⟩, ⟨_, rfl, rn_id if_i64⟩, ⟨_, rfl, rn_id if_bl⟩, trivial⟩)
      · refine spB 13 rfl rfl rfl ?_
        refine spB 13 rfl rfl rfl ?_
        refine spB 13 rfl rfl rfl ?_
        refine s1 (pickF rfl rfl kB) ?_
        refine snil ?_
        refine pnm ?_
        exact sj (hj21 _) (entR [(100, 100)] rfl (keepS hγ trivial) ⟨⟨_, rfl⟩, trivial⟩ ⟨⟨_, _, rfl, rfl, rci (rc_bx (rn_id if_L_retrospectref24_Tape))⟩, trivial⟩ ⟨⟨_, rfl, rn_id if_i64⟩, ⟨_, rfl, rn_id if_i64⟩, ⟨_, rfl, rn_own rfl⟩, ⟨_, rfl, rn_id if_bl⟩, ⟨_, rfl, rn_id if_i64⟩, ⟨_, rfl, rn_id if_bl⟩, trivial⟩)
    · intro s22
      refine scond rfl ?_ ?_
      · refine sskip ?_
        refine pnm ?_
        refine sseq ?_
        refine sblk ?_
        refine sseq ?_
        refine sreg ?_
        refine s1 (faO rfl fd_43_0 rfl rfl) ?_
        refine s1 (ldB [0] rfl (by exact rfl) sh_40 (by exact rfl) (by exact rfl) rfl rfl (.inl rfl)) ?_
        refine s1 (mv rfl rfl) ?_
        refine bd fun y23 h24 => ?_
        refine s1 (ixR (f := L_retrospectref24_Inst) Tryd.underlying40 ti_93 h24 rfl rfl rfl) ?_
        refine s1 (faR fd_93_3 (by exact rfl) rfl rfl) ?_
        refine s1 (ldR sh_91 (by exact rfl) (by exact rfl) rfl rfl) ?_
        refine s1 (mv rfl rfl) ?_
        refine bd fun r25 h26 => ?_
        refine s1 (call0 (c_retrospectref09_Long _ h26) ⟨⟨_, rfl, rn_id if_L_retrospectref09_Frac⟩, ⟨_, rfl, rn_id if_i64⟩, trivial⟩ (if_bl) rfl) ?_
        refine snil ?_
        refine pnm ?_
        refine scond rfl ?_ ?_
        · refine sseq ?_
          refine sreg ?_
          refine s1 (asg rfl kB) ?_
          refine snil ?_
          refine pnm ?_
          refine sret ?_
          refine pbl ?_
          refine pth ?_
          refine sout (fun h => by cases h) ?_
          refine pbl ?_
          refine pth ?_
          exact ret [] [.tmp 6] [_] [_] .ret hγ (.inl rfl) rfl ⟨rfl, trivial⟩ rfl trivial trivial trivial (rns_cons (rn_id if_bl) (rns_nil)) rfl
        · refine sskip ?_
          refine pbn ?_
          refine pnm ?_
          refine sreg ?_
          refine s1 (mv rfl rfl) ?_
          refine s1 (addI rfl rfl (kI (x := 1) rfl)) ?_
          refine s1 (asg rfl rfl) ?_
          refine snil ?_
          exact sgo (entR [(100, 100)] rfl (keepS hγ trivial) ⟨⟨_, rfl⟩, trivial⟩ ⟨⟨_, _, rfl, rfl, rci (rc_bx (rn_id if_L_retrospectref24_Tape))⟩, trivial⟩ ⟨⟨_, rfl, rn_id if_i64⟩, ⟨_, rfl, rn_id if_i64⟩, ⟨_, rfl, rn_own rfl⟩, ⟨_, rfl, rn_id if_bl⟩, ⟨_, rfl, rn_id if_i64⟩, trivial⟩)
      · refine sexit ?_
        refine ptx ?_
        exact sout (fun h => by cases h) (sj (hj18 _) (entR [(100, 100)] rfl (keepS hγ trivial) ⟨⟨_, rfl⟩, trivial⟩ ⟨⟨_, _, rfl, rfl, rci (rc_bx (rn_id if_L_retrospectref24_Tape))⟩, trivial⟩ ⟨⟨_, rfl, rn_id if_i64⟩, ⟨_, rfl, rn_own rfl⟩, ⟨_, rfl, rn_id if_bl⟩, trivial⟩))
  · intro t17
    refine slpk ?_
    refine sx ?_
    refine pnm ?_
    refine sjq (fun (s29 : Bool) => [(6, bl s29)]) (fun (s29 : Bool) => []) ?_ ?_
    · intro j27 hj28
      refine sreg ?_
      refine s1 (faO rfl fd_43_0 rfl rfl) ?_
      refine s1 (ldB [0] rfl (by exact rfl) sh_40 (by exact rfl) (by exact rfl) rfl rfl (.inl rfl)) ?_
      refine s1 (lenL (f := L_retrospectref24_Inst) Tryd.underlying40 rfl rfl) ?_
      refine s1 (mv rfl rfl) ?_
      refine s1 (gtI rfl rfl rfl) ?_
      refine s1 (mv rfl rfl) ?_
      refine sifd 33 rfl ?_ ?_
      · refine spB 33 rfl rfl rfl ?_
        refine spB 33 rfl rfl rfl ?_
        refine spB 33 rfl rfl rfl ?_
        refine spB 33 rfl rfl rfl ?_
        refine spB 33 rfl rfl rfl ?_
        refine s1 (pickT rfl rfl kB) ?_
        refine s1 (asg rfl rfl) ?_
        refine snil ?_
        refine pnm ?_
        exact sj (hj28 _) (entR [] rfl (keepS hγ trivial) (by exact trivial) (by exact trivial) ⟨⟨_, rfl, rn_id if_bl⟩, trivial⟩)
      · refine sg 33 rfl rfl (faO rfl fd_43_1 rfl rfl) ?_
        refine sg 33 rfl rfl (ldB [1] rfl (by exact rfl) sh_41 (by exact rfl) (by exact rfl) rfl rfl (.inl rfl)) ?_
        refine sg 33 rfl rfl (lenL (f := i64) Tryd.underlying41 rfl rfl) ?_
        refine sg 33 rfl rfl (mv rfl rfl) ?_
        refine sg 33 rfl rfl (gtI rfl rfl rfl) ?_
        refine s1 (pickF rfl rfl rfl) ?_
        refine s1 (asg rfl rfl) ?_
        refine snil ?_
        refine pnm ?_
        exact sj (hj28 _) (entR [] rfl (keepS hγ trivial) (by exact trivial) (by exact trivial) ⟨⟨_, rfl, rn_id if_bl⟩, trivial⟩)
    · intro s29
      refine sret ?_
      exact ret [] [.tmp 6] [_] [_] .ret hγ (.inl rfl) rfl ⟨rfl, trivial⟩ rfl trivial trivial trivial (rns_cons (rn_id if_bl) (rns_nil)) rfl
theorem c_tape_below {x0 : Int} {x1 : Int} : ∀ r, m_tape_below x0 x1 = some r → FnOk Tryd.prog 50 [i64 x0, i64 x1] [] (bl r) [] := by
  unfold m_tape_below
  refine fn_of_sq (res := fun (r : Bool) => bl r) (mo := fun (r : Bool) => []) Tryd.func50 rfl rfl (by kernel_rfl) rfl ?_
  intro w S0 γ hγ
  refine sseq ?_
  refine sreg ?_
  refine s1 (asg rfl kB) ?_
  refine snil ?_
  refine pnm ?_
  refine sjq (fun (s3 : Bool) => [(4, bl s3)]) (fun (s3 : Bool) => []) ?_ ?_
  · intro j1 hj2
    refine sreg ?_
    refine s1 (mv rfl rfl) ?_
    refine s1 (geI rfl rfl (kI (x := 0) rfl)) ?_
    refine s1 (mv rfl rfl) ?_
    refine sifd 7 rfl ?_ ?_
    · refine sg 7 rfl rfl (mv rfl rfl) ?_
      refine sg 7 rfl rfl (mv rfl rfl) ?_
      refine sg 7 rfl rfl (ltI rfl rfl rfl) ?_
      refine s1 (pickT rfl rfl rfl) ?_
      refine s1 (asg rfl rfl) ?_
      refine snil ?_
      refine pnm ?_
      exact sj (hj2 _) (entI ⟨rfl, trivial⟩ eqm0)
    · refine spB 7 rfl rfl rfl ?_
      refine spB 7 rfl rfl rfl ?_
      refine spB 7 rfl rfl rfl ?_
      refine s1 (pickF rfl rfl kB) ?_
      refine s1 (asg rfl rfl) ?_
      refine snil ?_
      refine pnm ?_
      exact sj (hj2 _) (entI ⟨rfl, trivial⟩ eqm0)
  · intro s3
    refine sret ?_
    exact ret [] [.tmp 4] [_] [_] .ret hγ (.inl rfl) rfl ⟨rfl, trivial⟩ rfl trivial trivial trivial (rns_cons (rn_id if_bl) (rns_nil)) rfl
theorem c_tape_whole {x0 : M_tape_Tape} : ∀ r, m_tape_whole x0 = some r → FnOk Tryd.prog 48 [L_tape_Tape x0] [] (bl r) [] := by
  unfold m_tape_whole
  refine fn_of_sq (res := fun (r : Bool) => bl r) (mo := fun (r : Bool) => []) Tryd.func48 rfl rfl (by kernel_rfl) rfl ?_
  intro w S0 γ hγ
  refine sseq ?_
  refine sreg ?_
  refine so (box (y := 100) (by exact rfl) rfl rfl rfl) ?_
  refine s1 (asg rfl kB) ?_
  refine snil ?_
  refine pnm ?_
  refine sjq (fun (s7 : Bool) => [(2, bl s7)]) (fun (s7 : Bool) => []) ?_ ?_
  · intro j5 hj6
    refine sreg ?_
    refine s1 (faO rfl fd_47_2 rfl rfl) ?_
    refine s1 (ldB [2] rfl (by exact rfl) sh_3 (by exact rfl) (by exact rfl) rfl rfl (.inl rfl)) ?_
    refine s1 (subI rfl rfl (kI (x := 1) rfl)) ?_
    refine bd fun r8 h9 => ?_
    refine s1 (call0 (c_tape_below _ h9) ⟨⟨_, rfl, rn_id if_i64⟩, ⟨_, (kI (x := 6) rfl), rn_id if_i64⟩, trivial⟩ (if_bl) rfl) ?_
    refine s1 (mv rfl rfl) ?_
    refine sifd 7 rfl ?_ ?_
    · refine sg 7 rfl rfl (faO rfl fd_47_3 rfl rfl) ?_
      refine sg 7 rfl rfl (ldB [3] rfl (by exact rfl) sh_3 (by exact rfl) (by exact rfl) rfl rfl (.inl rfl)) ?_
      refine bd fun r10 h11 => ?_
      refine sg 7 rfl rfl (call0 (c_tape_below _ h11) ⟨⟨_, rfl, rn_id if_i64⟩, ⟨_, (kI (x := 7) rfl), rn_id if_i64⟩, trivial⟩ (if_bl) rfl) ?_
      refine s1 (pickT rfl rfl rfl) ?_
      refine s1 (mv rfl rfl) ?_
      refine sifd 12 rfl ?_ ?_
      · refine sg 12 rfl rfl (faO rfl fd_47_1 rfl rfl) ?_
        refine sg 12 rfl rfl (ldB [1] rfl (by exact rfl) sh_41 (by exact rfl) (by exact rfl) rfl rfl (.inl rfl)) ?_
        refine sg 12 rfl rfl (lenL (f := i64) Tryd.underlying41 rfl rfl) ?_
        refine sg 12 rfl rfl (faO rfl fd_47_2 rfl rfl) ?_
        refine sg 12 rfl rfl (ldB [2] rfl (by exact rfl) sh_3 (by exact rfl) (by exact rfl) rfl rfl (.inl rfl)) ?_
        refine sg 12 rfl rfl (eqI rfl rfl rfl) ?_
        refine s1 (pickT rfl rfl rfl) ?_
        refine s1 (mv rfl rfl) ?_
        refine sifd 20 rfl ?_ ?_
        · refine sg 20 rfl rfl (faO rfl fd_47_0 rfl rfl) ?_
          refine sg 20 rfl rfl (ldB [0] rfl (by exact rfl) sh_45 (by exact rfl) (by exact rfl) rfl rfl (.inl rfl)) ?_
          refine sg 20 rfl rfl (lenL (f := L_tape_Inst) Tryd.underlying45 rfl rfl) ?_
          refine sg 20 rfl rfl (leI rfl rfl (kI (x := 300) rfl)) ?_
          refine s1 (pickT rfl rfl rfl) ?_
          refine s1 (asg rfl rfl) ?_
          refine snil ?_
          refine pnm ?_
          exact sj (hj6 _) (entR [] rfl (keepS hγ trivial) (by exact trivial) (by exact trivial) ⟨⟨_, rfl, rn_id if_bl⟩, trivial⟩)
        · refine spB 20 rfl rfl rfl ?_
          refine spB 20 rfl rfl rfl ?_
          refine spB 20 rfl rfl rfl ?_
          refine spB 20 rfl rfl rfl ?_
          refine s1 (pickF rfl rfl kB) ?_
          refine s1 (asg rfl rfl) ?_
          refine snil ?_
          refine pnm ?_
          exact sj (hj6 _) (entR [] rfl (keepS hγ trivial) (by exact trivial) (by exact trivial) ⟨⟨_, rfl, rn_id if_bl⟩, trivial⟩)
      · refine spB 12 rfl rfl rfl ?_
        refine spB 12 rfl rfl rfl ?_
        refine spB 12 rfl rfl rfl ?_
        refine spB 12 rfl rfl rfl ?_
        refine spB 12 rfl rfl rfl ?_
        refine spB 12 rfl rfl rfl ?_
        refine s1 (pickF rfl rfl kB) ?_
        refine s1 (mv rfl rfl) ?_
        refine spB 20 rfl rfl rfl ?_
        refine spB 20 rfl rfl rfl ?_
        refine spB 20 rfl rfl rfl ?_
        refine spB 20 rfl rfl rfl ?_
        refine s1 (pickF rfl rfl kB) ?_
        refine s1 (asg rfl rfl) ?_
        refine snil ?_
        refine pnm ?_
        exact sj (hj6 _) (entR [] rfl (keepS hγ trivial) (by exact trivial) (by exact trivial) ⟨⟨_, rfl, rn_id if_bl⟩, trivial⟩)
    · refine spB 7 rfl rfl rfl ?_
      refine spB 7 rfl rfl rfl ?_
      refine spB 7 rfl rfl rfl ?_
      refine s1 (pickF rfl rfl kB) ?_
      refine s1 (mv rfl rfl) ?_
      refine spB 12 rfl rfl rfl ?_
      refine spB 12 rfl rfl rfl ?_
      refine spB 12 rfl rfl rfl ?_
      refine spB 12 rfl rfl rfl ?_
      refine spB 12 rfl rfl rfl ?_
      refine spB 12 rfl rfl rfl ?_
      refine s1 (pickF rfl rfl kB) ?_
      refine s1 (mv rfl rfl) ?_
      refine spB 20 rfl rfl rfl ?_
      refine spB 20 rfl rfl rfl ?_
      refine spB 20 rfl rfl rfl ?_
      refine spB 20 rfl rfl rfl ?_
      refine s1 (pickF rfl rfl kB) ?_
      refine s1 (asg rfl rfl) ?_
      refine snil ?_
      refine pnm ?_
      exact sj (hj6 _) (entR [] rfl (keepS hγ trivial) (by exact trivial) (by exact trivial) ⟨⟨_, rfl, rn_id if_bl⟩, trivial⟩)
  · intro s7
    refine sret ?_
    exact ret [] [.tmp 2] [_] [_] .ret hγ (.inl rfl) rfl ⟨rfl, trivial⟩ rfl trivial trivial trivial (rns_cons (rn_id if_bl) (rns_nil)) rfl
theorem c_tape_of {x0 : M_tape_Inst} : ∀ r, m_tape_of x0 = some r → FnOk Tryd.prog 63 [L_tape_Inst x0] [] (L_tape_numbers r) [] := by
  unfold m_tape_of
  refine fn_of_sq (res := fun (r : M_tape_numbers) => L_tape_numbers r) (mo := fun (r : M_tape_numbers) => []) Tryd.func63 rfl rfl (by kernel_rfl) rfl ?_
  intro w S0 γ hγ
  refine sseq ?_
  refine sreg ?_
  refine so (box (y := 100) (by exact rfl) rfl rfl rfl) ?_
  refine so (al (y := 101) (ly := L_tape_numbers (⟨0, 0, 0⟩ : M_tape_numbers)) ti_130 zr_tape_numbers rfl rfl) ?_
  refine snil ?_
  refine pnm ?_
  refine sseq ?_
  refine sreg ?_
  refine s1 (faO rfl fd_59_0 rfl rfl) ?_
  refine s1 (ldB [0] rfl (by exact rfl) sh_3 (by exact rfl) (by exact rfl) rfl rfl (.inl rfl)) ?_
  refine s1 (faO rfl fd_59_1 rfl rfl) ?_
  refine s1 (ldB [1] rfl (by exact rfl) sh_3 (by exact rfl) (by exact rfl) rfl rfl (.inl rfl)) ?_
  refine s1 (faO rfl fd_59_2 rfl rfl) ?_
  refine s1 (ldB [2] rfl (by exact rfl) sh_3 (by exact rfl) (by exact rfl) rfl rfl (.inl rfl)) ?_
  refine s1 (bld (l := [i64 x0.Op, i64 x0.A, i64 x0.B]) pl_130 ti_130 zr_tape_numbers ⟨_, _, _, rfl, rfl, rfl, rfl, (szk (k := 1) rfl rfl), ⟨_, _, _, rfl, rfl, rfl, rfl, (szk (k := 1) rfl rfl), ⟨_, _, _, rfl, rfl, rfl, rfl, (szk (k := 1) rfl rfl), rfl⟩⟩⟩ rfl) ?_
  refine so (stB2 (ly2 := L_tape_numbers (⟨x0.Op, x0.A, x0.B⟩ : M_tape_numbers)) [] (by exact rfl) rfl (by exact rfl) sh_130 (by exact rfl) (by exact rfl) (by exact rfl) rfl (.inr ⟨rfl, rfl, _, _, rfl⟩) rfl) ?_
  refine snil ?_
  refine pnm ?_
  refine sret ?_
  exact ret [] [.cell 2 130] [_] [_] .ret hγ (.inl rfl) rfl ⟨⟨101, _, rfl, rfl, sh_130⟩, trivial⟩ rfl trivial trivial trivial (rns_cons (rn_id if_L_tape_numbers) (rns_nil)) rfl
theorem c_nat_trim {n : Nat} {x0 : (List Nat)} : ∀ r, m_nat_trim n x0 = some r → FnOk Tryd.prog 81 [sli 1 (List.map u32 x0)] [] (sli 1 (List.map u32 r)) [] := by
  unfold m_nat_trim
  refine fn_of_sq (res := fun (r : (List Nat)) => sli 1 (List.map u32 r)) (mo := fun (r : (List Nat)) => []) Tryd.func81 rfl rfl (by kernel_rfl) rfl ?_
  intro w S0 γ hγ
  refine sseq ?_
  refine sreg ?_
  refine s1 (asg rfl (kLm (k := 1) u32)) ?_
  refine snil ?_
  refine pnm ?_
  refine sseq ?_
  refine sreg ?_
  refine s1 (mv rfl rfl) ?_
  refine s1 (lenL (f := u32) Tryd.underlying53 rfl rfl) ?_
  refine s1 (asg rfl rfl) ?_
  refine snil ?_
  refine pnm ?_
  refine sseq ?_
  refine sblk ?_
  refine sloopE 0 (fun t => t) (fun (s19 : Int) => [(0, sli 1 (List.map u32 x0)), (2, sli 1 (List.map u32 ([] : List Nat))), (3, i64 s19)]) (fun (s19 : Int) => []) (fun (t17 : Int) => [(0, sli 1 (List.map u32 x0)), (2, sli 1 (List.map u32 ([] : List Nat))), (3, i64 t17)]) (fun (t17 : Int) => []) (entI ⟨rfl, rfl, rfl, trivial⟩ eqm0) ?_ ?_
  · intro hj18 s19
    refine sseq ?_
    refine sjq (fun (s24 : Bool) => [(0, sli 1 (List.map u32 x0)), (2, sli 1 (List.map u32 ([] : List Nat))), (3, i64 s19), (15, bl s24)]) (fun (s24 : Bool) => []) ?_ ?_
    · intro j22 hj23
      refine sreg ?_
      refine s1 (mv rfl rfl) ?_
      refine s1 (gtI rfl rfl (kI (x := 0) rfl)) ?_
      refine s1 (mv rfl rfl) ?_
      refine sifd 8 rfl ?_ ?_
      · refine sg 8 rfl rfl (mv rfl rfl) ?_
        refine sg 8 rfl rfl (mv rfl rfl) ?_
        refine sg 8 rfl rfl (subI rfl rfl (kI (x := 1) rfl)) ?_
        refine bd fun y25 h26 => ?_
        refine sg 8 rfl rfl (ixR (f := u32) Tryd.underlying53 ti_139 h26 rfl rfl rfl) ?_
        refine sg 8 rfl rfl (ldR sh_139 (by exact rfl) (by exact rfl) rfl rfl) ?_
        refine sg 8 rfl rfl (eqU .u32 rfl rfl (k32 (x := 0) rfl)) ?_
        refine s1 (pickT rfl rfl rfl) ?_
        refine snil ?_
        refine pnm ?_
        exact sj (hj23 _) (entI ⟨rfl, rfl, rfl, rfl, trivial⟩ eqm0)
      · refine spB 8 rfl rfl rfl ?_
        refine spB 8 rfl rfl rfl ?_
        refine spB 8 rfl rfl rfl ?_
        refine spB 8 rfl rfl rfl ?_
        refine spB 8 rfl rfl rfl ?_
        refine spB 8 rfl rfl rfl ?_
        refine s1 (pickF rfl rfl kB) ?_
        refine snil ?_
        refine pnm ?_
        exact sj (hj23 _) (entI ⟨rfl, rfl, rfl, rfl, trivial⟩ eqm0)
    · intro s24
      refine scond rfl ?_ ?_
      · refine sskip ?_
        refine pnm ?_
        refine sblk ?_
        refine sreg ?_
        refine s1 (mv rfl rfl) ?_
        refine s1 (subI rfl rfl (kI (x := 1) rfl)) ?_
        refine s1 (asg rfl rfl) ?_
        refine snil ?_
        refine pbn ?_
        exact sgo (entI ⟨rfl, rfl, rfl, trivial⟩ eqm0)
      · refine sexit ?_
        refine ptx ?_
        exact sout (fun h => by cases h) (sj (hj18 _) (entI ⟨rfl, rfl, rfl, trivial⟩ eqm0))
  · intro t17
    refine sx ?_
    refine pnm ?_
    refine sseq ?_
    refine sreg ?_
    refine s1 (mv rfl rfl) ?_
    refine s1 (mv rfl rfl) ?_
    refine bd fun y27 h28 => ?_
    refine s1 (slR (f := u32) h28 Tryd.underlying53 ti_139 rfl rfl bnd0 (bnd rfl)) ?_
    refine s1 (asg rfl rfl) ?_
    refine snil ?_
    refine pnm ?_
    refine sret ?_
    exact ret [] [.tmp 2] [_] [_] .ret hγ (.inl rfl) rfl ⟨rfl, trivial⟩ rfl trivial trivial trivial (rns_cons (rn_id if_sli) (rns_nil)) rfl
theorem c_nat_Zero {n : Nat} {x0 : (List Nat)} : ∀ r, m_nat_Zero n x0 = some r → FnOk Tryd.prog 77 [sli 1 (List.map u32 x0)] [] (bl r) [] := by
  unfold m_nat_Zero
  refine fn_of_sq (res := fun (r : Bool) => bl r) (mo := fun (r : Bool) => []) Tryd.func77 rfl rfl (by kernel_rfl) rfl ?_
  intro w S0 γ hγ
  refine sseq ?_
  refine sreg ?_
  refine s1 (asg rfl kB) ?_
  refine snil ?_
  refine pnm ?_
  refine sseq ?_
  refine sreg ?_
  refine s1 (mv rfl rfl) ?_
  refine bd fun r1 h2 => ?_
  refine s1 (call0 (c_nat_trim _ h2) ⟨⟨_, rfl, rn_id if_sli⟩, trivial⟩ (if_sli) rfl) ?_
  refine s1 (lenL (f := u32) Tryd.underlying53 rfl rfl) ?_
  refine s1 (eqI rfl rfl (kI (x := 0) rfl)) ?_
  refine s1 (asg rfl rfl) ?_
  refine snil ?_
  refine pnm ?_
  refine sret ?_
  exact ret [] [.tmp 2] [_] [_] .ret hγ (.inl rfl) rfl ⟨rfl, trivial⟩ rfl trivial trivial trivial (rns_cons (rn_id if_bl) (rns_nil)) rfl
theorem c_nat_Of {n : Nat} {x0 : Nat} : ∀ r, m_nat_Of n x0 = some r → FnOk Tryd.prog 92 [u64 x0] [] (sli 1 (List.map u32 r)) [] := by
  unfold m_nat_Of
  refine fn_of_sq (res := fun (r : (List Nat)) => sli 1 (List.map u32 r)) (mo := fun (r : (List Nat)) => []) Tryd.func92 rfl rfl (by kernel_rfl) rfl ?_
  intro w S0 γ hγ
  refine sseq ?_
  refine sreg ?_
  refine s1 (asg rfl (kLm (k := 1) u32)) ?_
  refine snil ?_
  refine pnm ?_
  refine sseq ?_
  refine sreg ?_
  refine s1 (mv rfl rfl) ?_
  refine s1 (cvU uk32 Tryd.underlying119 Tryd.underlying139 rfl rfl) ?_
  refine s1 (mv rfl rfl) ?_
  refine s1 (shrU uk64 rfl rfl rfl (k64 (x := 32) rfl)) ?_
  refine s1 (cvU uk32 Tryd.underlying119 Tryd.underlying139 rfl rfl) ?_
  refine so (bsl (y := 100) (ls := List.map u32 ([(x0 % 4294967296), ((x0 / 2 ^ 32) % 4294967296)] : List Nat)) Tryd.underlying53 ti_139 rfl rfl rfl rfl rfl ⟨rfl, rfl, (by exact rfl), (by exact rfl), rfl, rfl, (by exact rfl), (by exact rfl), trivial⟩ rfl rfl) ?_
  refine frz (id := 100) [(8, sli 1 (List.map u32 ([(x0 % 4294967296), ((x0 / 2 ^ 32) % 4294967296)] : List Nat)))] [] rfl (ifs_map (f := u32) (fun _ => if_u32) ([(x0 % 4294967296), ((x0 / 2 ^ 32) % 4294967296)] : List Nat)) ⟨⟨_, rfl, fz_own⟩, trivial⟩ trivial ?_
  refine bd fun r1 h2 => ?_
  refine s1 (call0 (c_nat_trim _ h2) ⟨⟨_, rfl, rn_id if_sli⟩, trivial⟩ (if_sli) rfl) ?_
  refine s1 (asg rfl rfl) ?_
  refine snil ?_
  refine pnm ?_
  refine sret ?_
  exact ret [] [.tmp 2] [_] [_] .ret hγ (.inl rfl) rfl ⟨rfl, trivial⟩ rfl trivial trivial trivial (rns_cons (rn_id if_sli) (rns_nil)) rfl
theorem c_frac_parts {n : Nat} {x0 : M_frac_Frac} : ∀ r, m_frac_parts n x0 = some r → FnOk Tryd.prog 124 [L_frac_Frac x0] [] (.tup [L_whole_Whole r.1, sli 1 (List.map u32 r.2)]) [] := by
  unfold m_frac_parts
  refine fn_of_sq (res := fun (r : M_whole_Whole × (List Nat)) => .tup [L_whole_Whole r.1, sli 1 (List.map u32 r.2)]) (mo := fun (r : M_whole_Whole × (List Nat)) => []) Tryd.func124 rfl rfl (by kernel_rfl) rfl ?_
  intro w S0 γ hγ
  refine sseq ?_
  refine sreg ?_
  refine so (box (y := 100) (by exact rfl) rfl rfl rfl) ?_
  refine so (al (y := 101) (ly := L_whole_Whole (⟨false, []⟩ : M_whole_Whole)) ti_55 zr_whole_Whole rfl rfl) ?_
  refine s1 (asg rfl (kLm (k := 1) u32)) ?_
  refine snil ?_
  refine pnm ?_
  refine sseq ?_
  refine sseq ?_
  refine sreg ?_
  refine s1 (faO rfl fd_57_1 rfl rfl) ?_
  refine s1 (ldB [1] rfl (by exact rfl) sh_53 (by exact rfl) (by exact rfl) rfl rfl (.inl rfl)) ?_
  refine bd fun r1 h2 => ?_
  refine s1 (call0 (c_nat_Zero _ h2) ⟨⟨_, rfl, rn_id if_sli⟩, trivial⟩ (if_bl) rfl) ?_
  refine snil ?_
  refine pnm ?_
  refine scond rfl ?_ ?_
  · refine sseq ?_
    refine sreg ?_
    refine s1 (bld (l := [bl false, sli 1 (List.map u32 [])]) pl_55 ti_55 zr_whole_Whole rfl rfl) ?_
    refine bd fun r3 h4 => ?_
    refine s1 (call0 (c_nat_Of _ h4) ⟨⟨_, (k64 (x := 1) rfl), rn_id if_u64⟩, trivial⟩ (if_sli) rfl) ?_
    refine so (stB2 (ly2 := L_whole_Whole (⟨false, []⟩ : M_whole_Whole)) [] (by exact rfl) rfl (by exact rfl) sh_55 (by exact rfl) (by exact rfl) (by exact rfl) rfl (.inr ⟨rfl, rfl, _, _, rfl⟩) rfl) ?_
    refine s1 (asg rfl rfl) ?_
    refine snil ?_
    refine pnm ?_
    refine sret ?_
    refine pth ?_
    exact ret [] [.cell 2 55, .tmp 3] [_, _] [_, _] .ret hγ (.inl rfl) rfl ⟨⟨101, _, rfl, rfl, sh_55⟩, rfl, trivial⟩ rfl trivial trivial trivial (rns_cons (rn_id if_L_whole_Whole) (rns_cons (rn_id if_sli) (rns_nil))) rfl
  · refine sskip ?_
    refine pnm ?_
    refine sseq ?_
    refine sdraw [⟨[1], [100], [(9, .ptr 100 0)], []⟩, ⟨[9], [100], [(10, L_whole_Whole x0.Num)], []⟩, ⟨[1], [100], [(11, .ptr 100 2)], []⟩, ⟨[11], [100], [(12, sli 1 (List.map u32 x0.Den))], []⟩, ⟨[2, 10], [101], [], [(101, .bx 55 (L_whole_Whole x0.Num))]⟩, ⟨[12], [], [(3, sli 1 (List.map u32 x0.Den))], []⟩] fol (by kernel_rfl) ⟨fun st mm ⟨a1, _⟩ ⟨g100, _⟩ => og (faO (g100.trans rfl) fd_57_0 rfl (a1.trans rfl)), fun st mm ⟨a9, _⟩ ⟨g100, _⟩ => og (ldB [0] (g100.trans rfl) (by exact rfl) sh_55 (by exact rfl) (by exact rfl) rfl (a9.trans rfl) (.inl rfl)), fun st mm ⟨a1, _⟩ ⟨g100, _⟩ => og (faO (g100.trans rfl) fd_57_1 rfl (a1.trans rfl)), fun st mm ⟨a11, _⟩ ⟨g100, _⟩ => og (ldB [1] (g100.trans rfl) (by exact rfl) sh_53 (by exact rfl) (by exact rfl) rfl (a11.trans rfl) (.inl rfl)), fun st mm ⟨a2, a10, _⟩ ⟨g101, _⟩ => og (stB2 (ly2 := L_whole_Whole x0.Num) [] (by exact rfl) (g101.trans rfl) (by exact rfl) sh_55 (by exact rfl) (by exact rfl) (by exact rfl) (a2.trans rfl) (.inr ⟨rfl, rfl, _, _, (g101.trans rfl)⟩) (a10.trans rfl)), fun st mm ⟨a12, _⟩ _ => og (asg rfl (a12.trans rfl)), trivial⟩ ?_
    refine pnm ?_
    refine sret ?_
    exact ret [] [.cell 2 55, .tmp 3] [_, _] [_, _] .ret hγ (.inl rfl) rfl ⟨⟨101, _, rfl, rfl, sh_55⟩, rfl, trivial⟩ rfl trivial trivial trivial (rns_cons (rn_id if_L_whole_Whole) (rns_cons (rn_id if_sli) (rns_nil))) rfl
theorem c_nat_fresh {x0 : (List Nat)} {x1 : Int} : ∀ r, m_nat_fresh x0 x1 = some r → FnOk Tryd.prog 133 [sli 1 (List.map u32 x0), i64 x1] [] (.own 50) [(50, .sl 139 1 (List.map u32 r))] := by
  unfold m_nat_fresh
  refine fn_of_sq (res := fun (r : (List Nat)) => .own 50) (mo := fun (r : (List Nat)) => [(50, .sl 139 1 (List.map u32 r))]) Tryd.func133 rfl rfl (by kernel_rfl) rfl ?_
  intro w S0 γ hγ
  refine sseq ?_
  refine sreg ?_
  refine s1 (asg rfl (kLm (k := 1) u32)) ?_
  refine snil ?_
  refine pnm ?_
  refine sseq ?_
  refine sreg ?_
  refine s1 (mv rfl rfl) ?_
  refine s1 (lenL (f := u32) Tryd.underlying53 rfl rfl) ?_
  refine s1 (mv rfl rfl) ?_
  refine s1 (addI rfl rfl rfl) ?_
  refine bd fun y1 h2 => ?_
  refine so (mks (y := 100) (f := u32) h2 Tryd.underlying53 ti_139 zr_u32 rfl rfl rfl rfl rfl rfl) ?_
  refine s1 (asg rfl rfl) ?_
  refine snil ?_
  refine pnm ?_
  refine sseq ?_
  refine sreg ?_
  refine s1 (mv rfl rfl) ?_
  refine s1 (mv rfl rfl) ?_
  refine so (cpy (f := u32) rfl Tryd.underlying53 ti_139 rfl rfl (.inl rfl) rfl) ?_
  refine snil ?_
  refine pnm ?_
  refine sseq ?_
  refine sreg ?_
  refine s1 (mv rfl rfl) ?_
  refine s1 (asg rfl rfl) ?_
  refine snil ?_
  refine pnm ?_
  refine sret ?_
  exact ret [(50, 100)] [.tmp 4] [_] [.own 50] .ret hγ (.inl rfl) rfl ⟨rfl, trivial⟩ rfl trivial ⟨⟨_, rfl⟩, trivial⟩ ⟨⟨_, _, rfl, rfl, rci (rc_sl (ifs_map (f := u32) (fun _ => if_u32) (cpyL y1 x0)))⟩, trivial⟩ (rns_cons (rn_own rfl) (rns_nil)) rfl
theorem c_nat_Norm {n : Nat} {x0 : (List Nat)} : ∀ r, m_nat_Norm n x0 = some r → FnOk Tryd.prog 110 [sli 1 (List.map u32 x0)] [] (.own 50) [(50, .sl 139 1 (List.map u32 r))] := by
  unfold m_nat_Norm
  refine fn_of_sq (res := fun (r : (List Nat)) => .own 50) (mo := fun (r : (List Nat)) => [(50, .sl 139 1 (List.map u32 r))]) Tryd.func110 rfl rfl (by kernel_rfl) rfl ?_
  intro w S0 γ hγ
  refine sseq ?_
  refine sreg ?_
  refine s1 (asg rfl (kLm (k := 1) u32)) ?_
  refine snil ?_
  refine pnm ?_
  refine sseq ?_
  refine sreg ?_
  refine s1 (mv rfl rfl) ?_
  refine bd fun r1 h2 => ?_
  refine s1 (call0 (c_nat_trim _ h2) ⟨⟨_, rfl, rn_id if_sli⟩, trivial⟩ (if_sli) rfl) ?_
  refine bd fun r3 h4 => ?_
  refine so (callG (em := [(100, .sl 139 1 (List.map u32 r3))]) (res' := .own 100) [] [(100, 50)] [(100, 50)] (c_nat_fresh _ h4) ⟨⟨_, rfl, rn_id if_sli⟩, ⟨_, (kI (x := 0) rfl), rn_id if_i64⟩, trivial⟩ (MiF.get (mi := []) trivial) trivial rfl ⟨rfl, trivial⟩ ⟨.inl rfl, trivial⟩ rfl ⟨.inl ⟨_, _, rfl, rfl, rc_sl (ifs_map (f := u32) (fun _ => if_u32) r3)⟩, trivial⟩ trivial ⟨⟨_, rfl⟩, trivial⟩ (rn_own rfl) rfl) ?_
  refine s1 (asg rfl rfl) ?_
  refine snil ?_
  refine pnm ?_
  refine sret ?_
  exact ret [(50, 100)] [.tmp 2] [_] [.own 50] .ret hγ (.inl rfl) rfl ⟨rfl, trivial⟩ rfl trivial ⟨⟨_, rfl⟩, trivial⟩ ⟨⟨_, _, rfl, rfl, rci (rc_sl (ifs_map (f := u32) (fun _ => if_u32) r3))⟩, trivial⟩ (rns_cons (rn_own rfl) (rns_nil)) rfl
theorem c_nat_Cmp {n : Nat} {x0 : (List Nat)} {x1 : (List Nat)} : ∀ r, m_nat_Cmp n x0 x1 = some r → FnOk Tryd.prog 91 [sli 1 (List.map u32 x0), sli 1 (List.map u32 x1)] [] (i64 r) [] := by
  unfold m_nat_Cmp
  refine fn_of_sq (res := fun (r : Int) => i64 r) (mo := fun (r : Int) => []) Tryd.func91 rfl rfl (by kernel_rfl) rfl ?_
  intro w S0 γ hγ
  refine sseq ?_
  refine sreg ?_
  refine s1 (asg rfl (kI (x := 0) rfl)) ?_
  refine snil ?_
  refine pnm ?_
  refine sseq ?_
  refine sreg ?_
  refine s1 (mv rfl rfl) ?_
  refine bd fun r1 h2 => ?_
  refine s1 (call0 (c_nat_trim _ h2) ⟨⟨_, rfl, rn_id if_sli⟩, trivial⟩ (if_sli) rfl) ?_
  refine s1 (mv rfl rfl) ?_
  refine bd fun r3 h4 => ?_
  refine s1 (call0 (c_nat_trim _ h4) ⟨⟨_, rfl, rn_id if_sli⟩, trivial⟩ (if_sli) rfl) ?_
  refine s1 (asg rfl rfl) ?_
  refine s1 (asg rfl rfl) ?_
  refine snil ?_
  refine pnm ?_
  refine sseq ?_
  refine sblk ?_
  refine sseq ?_
  refine sreg ?_
  refine s1 (mv rfl rfl) ?_
  refine s1 (lenL (f := u32) Tryd.underlying53 rfl rfl) ?_
  refine s1 (mv rfl rfl) ?_
  refine s1 (lenL (f := u32) Tryd.underlying53 rfl rfl) ?_
  refine s1 (ltI rfl rfl rfl) ?_
  refine s1 (asg rfl rfl) ?_
  refine snil ?_
  refine pnm ?_
  refine scond rfl ?_ ?_
  · refine sseq ?_
    refine sreg ?_
    refine s1 (asg rfl (kI (x := (-1)) rfl)) ?_
    refine snil ?_
    refine pnm ?_
    refine sret ?_
    refine pbl ?_
    refine pth ?_
    exact ret [] [.tmp 4] [_] [_] .ret hγ (.inl rfl) rfl ⟨rfl, trivial⟩ rfl trivial trivial trivial (rns_cons (rn_id if_i64) (rns_nil)) rfl
  · refine sseq ?_
    refine sreg ?_
    refine s1 (mv rfl rfl) ?_
    refine s1 (lenL (f := u32) Tryd.underlying53 rfl rfl) ?_
    refine s1 (mv rfl rfl) ?_
    refine s1 (lenL (f := u32) Tryd.underlying53 rfl rfl) ?_
    refine s1 (gtI rfl rfl rfl) ?_
    refine s1 (asg rfl rfl) ?_
    refine snil ?_
    refine pnm ?_
    refine scond rfl ?_ ?_
    · refine sseq ?_
      refine sreg ?_
      refine s1 (asg rfl (kI (x := 1) rfl)) ?_
      refine snil ?_
      refine pnm ?_
      refine sret ?_
      refine pbl ?_
      refine pth ?_
      exact ret [] [.tmp 4] [_] [_] .ret hγ (.inl rfl) rfl ⟨rfl, trivial⟩ rfl trivial trivial trivial (rns_cons (rn_id if_i64) (rns_nil)) rfl
    · refine sskip ?_
      refine pbn ?_
      refine pnm ?_
      refine sseq ?_
      refine sseq ?_
      refine sreg ?_
      refine s1 (mv rfl rfl) ?_
      refine s1 (lenL (f := u32) Tryd.underlying53 rfl rfl) ?_
      refine s1 (subI rfl rfl (kI (x := 1) rfl)) ?_
      refine s1 (asg rfl rfl) ?_
      refine snil ?_
      refine pnm ?_
      refine sblk ?_
      refine sloopE 1 Lp.go (fun (s25 : Int) => [(0, sli 1 (List.map u32 r1)), (1, sli 1 (List.map u32 r3)), (4, i64 (0 : Int)), (5, i64 s25)]) (fun (s25 : Int) => []) (fun (t23 : Unit) => [(4, i64 (0 : Int))]) (fun (t23 : Unit) => []) (entI ⟨rfl, rfl, rfl, rfl, trivial⟩ eqm0) ?_ ?_
      · intro hj24 s25
        refine sseq ?_
        refine sseq ?_
        refine sreg ?_
        refine s1 (mv rfl rfl) ?_
        refine s1 (geI rfl rfl (kI (x := 0) rfl)) ?_
        refine snil ?_
        refine pnm ?_
        refine scond rfl ?_ ?_
        · refine sskip ?_
          refine pnm ?_
          refine sseq ?_
          refine sblk ?_
          refine sblk ?_
          refine sseq ?_
          refine bd fun y26 h27 => ?_
          refine bd fun y28 h29 => ?_
          refine sdraw [⟨[0], [], [(30, sli 1 (List.map u32 r1))], []⟩, ⟨[5], [], [(31, i64 s25)], []⟩, ⟨[30, 31], [], [(32, .ref (u32 y26))], []⟩, ⟨[32], [], [(33, u32 y26)], []⟩, ⟨[1], [], [(34, sli 1 (List.map u32 r3))], []⟩, ⟨[5], [], [(35, i64 s25)], []⟩, ⟨[34, 35], [], [(36, .ref (u32 y28))], []⟩, ⟨[36], [], [(37, u32 y28)], []⟩, ⟨[33, 37], [], [(38, bl (decide (y26 < y28)))], []⟩, ⟨[38], [], [(29, bl (decide (y26 < y28)))], []⟩] fol (by kernel_rfl) ⟨fun st mm ⟨a0, _⟩ _ => og (mv rfl (a0.trans rfl)), fun st mm ⟨a5, _⟩ _ => og (mv rfl (a5.trans rfl)), fun st mm ⟨a30, a31, _⟩ _ => og (ixR (f := u32) Tryd.underlying53 ti_139 h27 rfl (a30.trans rfl) (a31.trans rfl)), fun st mm ⟨a32, _⟩ _ => og (ldR sh_139 (by exact rfl) (by exact rfl) rfl (a32.trans rfl)), fun st mm ⟨a1, _⟩ _ => og (mv rfl (a1.trans rfl)), fun st mm ⟨a5, _⟩ _ => og (mv rfl (a5.trans rfl)), fun st mm ⟨a34, a35, _⟩ _ => og (ixR (f := u32) Tryd.underlying53 ti_139 h29 rfl (a34.trans rfl) (a35.trans rfl)), fun st mm ⟨a36, _⟩ _ => og (ldR sh_139 (by exact rfl) (by exact rfl) rfl (a36.trans rfl)), fun st mm ⟨a33, a37, _⟩ _ => og (ltU .u32 rfl (a33.trans rfl) (a37.trans rfl)), fun st mm ⟨a38, _⟩ _ => og (asg rfl (a38.trans rfl)), trivial⟩ ?_
          refine pnm ?_
          refine scond rfl ?_ ?_
          · refine sseq ?_
            refine sreg ?_
            refine s1 (asg rfl (kI (x := (-1)) rfl)) ?_
            refine snil ?_
            refine pnm ?_
            refine sret ?_
            refine pbl ?_
            refine pbl ?_
            refine pth ?_
            refine sout (fun h => by cases h) ?_
            refine pbl ?_
            refine pth ?_
            exact ret [] [.tmp 4] [_] [_] .ret hγ (.inl rfl) rfl ⟨rfl, trivial⟩ rfl trivial trivial trivial (rns_cons (rn_id if_i64) (rns_nil)) rfl
          · refine sseq ?_
            refine bd fun y30 h31 => ?_
            refine bd fun y32 h33 => ?_
            refine sdraw [⟨[0], [], [(40, sli 1 (List.map u32 r1))], []⟩, ⟨[5], [], [(41, i64 s25)], []⟩, ⟨[40, 41], [], [(42, .ref (u32 y30))], []⟩, ⟨[42], [], [(43, u32 y30)], []⟩, ⟨[1], [], [(44, sli 1 (List.map u32 r3))], []⟩, ⟨[5], [], [(45, i64 s25)], []⟩, ⟨[44, 45], [], [(46, .ref (u32 y32))], []⟩, ⟨[46], [], [(47, u32 y32)], []⟩, ⟨[43, 47], [], [(48, bl (decide (y32 < y30)))], []⟩, ⟨[48], [], [(39, bl (decide (y32 < y30)))], []⟩] fol (by kernel_rfl) ⟨fun st mm ⟨a0, _⟩ _ => og (mv rfl (a0.trans rfl)), fun st mm ⟨a5, _⟩ _ => og (mv rfl (a5.trans rfl)), fun st mm ⟨a40, a41, _⟩ _ => og (ixR (f := u32) Tryd.underlying53 ti_139 h31 rfl (a40.trans rfl) (a41.trans rfl)), fun st mm ⟨a42, _⟩ _ => og (ldR sh_139 (by exact rfl) (by exact rfl) rfl (a42.trans rfl)), fun st mm ⟨a1, _⟩ _ => og (mv rfl (a1.trans rfl)), fun st mm ⟨a5, _⟩ _ => og (mv rfl (a5.trans rfl)), fun st mm ⟨a44, a45, _⟩ _ => og (ixR (f := u32) Tryd.underlying53 ti_139 h33 rfl (a44.trans rfl) (a45.trans rfl)), fun st mm ⟨a46, _⟩ _ => og (ldR sh_139 (by exact rfl) (by exact rfl) rfl (a46.trans rfl)), fun st mm ⟨a43, a47, _⟩ _ => og (gtU .u32 rfl (a43.trans rfl) (a47.trans rfl)), fun st mm ⟨a48, _⟩ _ => og (asg rfl (a48.trans rfl)), trivial⟩ ?_
            refine pnm ?_
            refine scond rfl ?_ ?_
            · refine sseq ?_
              refine sreg ?_
              refine s1 (asg rfl (kI (x := 1) rfl)) ?_
              refine snil ?_
              refine pnm ?_
              refine sret ?_
              refine pbl ?_
              refine pbl ?_
              refine pth ?_
              refine sout (fun h => by cases h) ?_
              refine pbl ?_
              refine pth ?_
              exact ret [] [.tmp 4] [_] [_] .ret hγ (.inl rfl) rfl ⟨rfl, trivial⟩ rfl trivial trivial trivial (rns_cons (rn_id if_i64) (rns_nil)) rfl
            · refine sskip ?_
              refine pbn ?_
              refine pbn ?_
              refine pnm ?_
              refine sreg ?_
              refine s1 (mv rfl rfl) ?_
              refine s1 (subI rfl rfl (kI (x := 1) rfl)) ?_
              refine s1 (asg rfl rfl) ?_
              refine snil ?_
              exact sgo (entI ⟨rfl, rfl, rfl, rfl, trivial⟩ eqm0)
        · refine sexit ?_
          refine ptx ?_
          exact sout (fun h => by cases h) (sj (hj24 _) (entI ⟨rfl, trivial⟩ eqm0))
      · intro t23
        refine slpk ?_
        refine sx ?_
        refine pnm ?_
        refine sseq ?_
        refine sreg ?_
        refine s1 (asg rfl (kI (x := 0) rfl)) ?_
        refine snil ?_
        refine pnm ?_
        refine sret ?_
        exact ret [] [.tmp 4] [_] [_] .ret hγ (.inl rfl) rfl ⟨rfl, trivial⟩ rfl trivial trivial trivial (rns_cons (rn_id if_i64) (rns_nil)) rfl
theorem c_limb_Div {x0 : Nat} {x1 : Nat} {x2 : Nat} : ∀ r, m_limb_Div x0 x1 x2 = some r → FnOk Tryd.prog 111 [u32 x0, u32 x1, u32 x2] [] (.tup [u32 r.1, u32 r.2.1, bl r.2.2]) [] := by
  unfold m_limb_Div
  refine fn_of_sq (res := fun (r : Nat × Nat × Bool) => .tup [u32 r.1, u32 r.2.1, bl r.2.2]) (mo := fun (r : Nat × Nat × Bool) => []) Tryd.func111 rfl rfl (by kernel_rfl) rfl ?_
  intro w S0 γ hγ
  refine sseq ?_
  refine sreg ?_
  refine s1 (asg rfl (k32 (x := 0) rfl)) ?_
  refine s1 (asg rfl (k32 (x := 0) rfl)) ?_
  refine s1 (asg rfl kB) ?_
  refine snil ?_
  refine pnm ?_
  refine sseq ?_
  refine sseq ?_
  refine sreg ?_
  refine s1 (mv rfl rfl) ?_
  refine s1 (mv rfl rfl) ?_
  refine s1 (geU .u32 rfl rfl rfl) ?_
  refine snil ?_
  refine pnm ?_
  refine scond rfl ?_ ?_
  · refine sseq ?_
    refine sreg ?_
    refine s1 (asg rfl (k32 (x := 0) rfl)) ?_
    refine s1 (asg rfl (k32 (x := 0) rfl)) ?_
    refine s1 (asg rfl kB) ?_
    refine snil ?_
    refine pnm ?_
    refine sret ?_
    refine pth ?_
    exact ret [] [.tmp 6, .tmp 7, .tmp 8] [_, _, _] [_, _, _] .ret hγ (.inl rfl) rfl ⟨rfl, rfl, rfl, trivial⟩ rfl trivial trivial trivial (rns_cons (rn_id if_u32) (rns_cons (rn_id if_u32) (rns_cons (rn_id if_bl) (rns_nil)))) rfl
  · refine sskip ?_
    refine pnm ?_
    refine sseq ?_
    refine sreg ?_
    refine s1 (mv rfl rfl) ?_
    refine s1 (cvUw uk64 uk32 rfl Tryd.underlying139 Tryd.underlying119 rfl rfl) ?_
    refine s1 (shlU uk64 rfl rfl rfl (k64 (x := 32) rfl)) ?_
    refine s1 (mv rfl rfl) ?_
    refine s1 (cvUw uk64 uk32 rfl Tryd.underlying139 Tryd.underlying119 rfl rfl) ?_
    refine s1 (orU uk64 rfl rfl rfl) ?_
    refine s1 (asg rfl rfl) ?_
    refine snil ?_
    refine pnm ?_
    refine sseq ?_
    refine bd fun _ h1 => ?_
    refine bd fun _ h2 => ?_
    refine sdraw [⟨[9], [], [(19, u64 (((x0 * 2 ^ 32) % 18446744073709551616) ||| x1))], []⟩, ⟨[2], [], [(20, u32 x2)], []⟩, ⟨[20], [], [(21, u64 x2)], []⟩, ⟨[19, 21], [], [(22, u64 ((((x0 * 2 ^ 32) % 18446744073709551616) ||| x1) / x2))], []⟩, ⟨[22], [], [(23, u32 (((((x0 * 2 ^ 32) % 18446744073709551616) ||| x1) / x2) % 4294967296))], []⟩, ⟨[9], [], [(24, u64 (((x0 * 2 ^ 32) % 18446744073709551616) ||| x1))], []⟩, ⟨[2], [], [(25, u32 x2)], []⟩, ⟨[25], [], [(26, u64 x2)], []⟩, ⟨[24, 26], [], [(27, u64 ((((x0 * 2 ^ 32) % 18446744073709551616) ||| x1) % x2))], []⟩, ⟨[27], [], [(28, u32 (((((x0 * 2 ^ 32) % 18446744073709551616) ||| x1) % x2) % 4294967296))], []⟩, ⟨[23], [], [(6, u32 (((((x0 * 2 ^ 32) % 18446744073709551616) ||| x1) / x2) % 4294967296))], []⟩, ⟨[28], [], [(7, u32 (((((x0 * 2 ^ 32) % 18446744073709551616) ||| x1) % x2) % 4294967296))], []⟩, ⟨[], [], [(8, bl true)], []⟩] fol (by kernel_rfl) ⟨fun st mm ⟨a9, _⟩ _ => og (mv rfl (a9.trans rfl)), fun st mm ⟨a2, _⟩ _ => og (mv rfl (a2.trans rfl)), fun st mm ⟨a20, _⟩ _ => og (cvUw uk64 uk32 rfl Tryd.underlying139 Tryd.underlying119 rfl (a20.trans rfl)), fun st mm ⟨a19, a21, _⟩ _ => og (quoU uk64 (nzU h1) rfl (a19.trans rfl) (a21.trans rfl)), fun st mm ⟨a22, _⟩ _ => og (cvU uk32 Tryd.underlying119 Tryd.underlying139 rfl (a22.trans rfl)), fun st mm ⟨a9, _⟩ _ => og (mv rfl (a9.trans rfl)), fun st mm ⟨a2, _⟩ _ => og (mv rfl (a2.trans rfl)), fun st mm ⟨a25, _⟩ _ => og (cvUw uk64 uk32 rfl Tryd.underlying139 Tryd.underlying119 rfl (a25.trans rfl)), fun st mm ⟨a24, a26, _⟩ _ => og (remU uk64 (nzU h2) rfl (a24.trans rfl) (a26.trans rfl)), fun st mm ⟨a27, _⟩ _ => og (cvU uk32 Tryd.underlying119 Tryd.underlying139 rfl (a27.trans rfl)), fun st mm ⟨a23, _⟩ _ => og (asg rfl (a23.trans rfl)), fun st mm ⟨a28, _⟩ _ => og (asg rfl (a28.trans rfl)), fun st mm _ _ => og (asg rfl kB), trivial⟩ ?_
    refine pnm ?_
    refine sret ?_
    exact ret [] [.tmp 6, .tmp 7, .tmp 8] [_, _, _] [_, _, _] .ret hγ (.inl rfl) rfl ⟨rfl, rfl, rfl, trivial⟩ rfl trivial trivial trivial (rns_cons (rn_id if_u32) (rns_cons (rn_id if_u32) (rns_cons (rn_id if_bl) (rns_nil)))) rfl
theorem c_quot_Word {n : Nat} {x0 : (List Nat)} {x1 : Nat} : ∀ r, m_quot_Word n x0 x1 = some r → FnOk Tryd.prog 78 [sli 1 (List.map u32 x0), u32 x1] [] (.tup [sli 1 (List.map u32 r.1), u32 r.2.1, bl r.2.2]) [] := by
  unfold m_quot_Word
  refine fn_of_sq (res := fun (r : (List Nat) × Nat × Bool) => .tup [sli 1 (List.map u32 r.1), u32 r.2.1, bl r.2.2]) (mo := fun (r : (List Nat) × Nat × Bool) => []) Tryd.func78 rfl rfl (by kernel_rfl) rfl ?_
  intro w S0 γ hγ
  refine sseq ?_
  refine sreg ?_
  refine s1 (asg rfl (kLm (k := 1) u32)) ?_
  refine s1 (asg rfl (k32 (x := 0) rfl)) ?_
  refine s1 (asg rfl kB) ?_
  refine snil ?_
  refine pnm ?_
  refine sseq ?_
  refine sseq ?_
  refine sreg ?_
  refine s1 (mv rfl rfl) ?_
  refine s1 (eqU .u32 rfl rfl (k32 (x := 0) rfl)) ?_
  refine snil ?_
  refine pnm ?_
  refine scond rfl ?_ ?_
  · refine sseq ?_
    refine sreg ?_
    refine s1 (asg rfl (kLm (k := 1) u32)) ?_
    refine s1 (asg rfl (k32 (x := 0) rfl)) ?_
    refine s1 (asg rfl kB) ?_
    refine snil ?_
    refine pnm ?_
    refine sret ?_
    refine pth ?_
    exact ret [] [.tmp 4, .tmp 5, .tmp 6] [_, _, _] [_, _, _] .ret hγ (.inl rfl) rfl ⟨rfl, rfl, rfl, trivial⟩ rfl trivial trivial trivial (rns_cons (rn_id if_sli) (rns_cons (rn_id if_u32) (rns_cons (rn_id if_bl) (rns_nil)))) rfl
  · refine sskip ?_
    refine pnm ?_
    refine sseq ?_
    refine sreg ?_
    refine s1 (mv rfl rfl) ?_
    refine s1 (lenL (f := u32) Tryd.underlying53 rfl rfl) ?_
    refine bd fun y1 h2 => ?_
    refine so (mks (y := 100) (f := u32) h2 Tryd.underlying53 ti_139 zr_u32 rfl rfl rfl rfl rfl rfl) ?_
    refine s1 (asg rfl rfl) ?_
    refine snil ?_
    refine pnm ?_
    refine sseq ?_
    refine sseq ?_
    refine sreg ?_
    refine s1 (mv rfl rfl) ?_
    refine s1 (lenL (f := u32) Tryd.underlying53 rfl rfl) ?_
    refine s1 (subI rfl rfl (kI (x := 1) rfl)) ?_
    refine s1 (asg rfl rfl) ?_
    refine snil ?_
    refine pnm ?_
    refine sblk ?_
    refine sloopE 0 (fun t => t) (fun (s20 : (List Nat) × Nat × Int) => [(0, sli 1 (List.map u32 x0)), (1, u32 x1), (4, .own 100), (5, u32 s20.2.1), (6, bl false), (7, i64 s20.2.2)]) (fun (s20 : (List Nat) × Nat × Int) => [(100, .sl 139 1 (List.map u32 s20.1))]) (fun (t18 : (List Nat) × Nat) => [(4, .own 100), (5, u32 t18.2), (6, bl false)]) (fun (t18 : (List Nat) × Nat) => [(100, .sl 139 1 (List.map u32 t18.1))]) (entR [(100, 100)] rfl (keepS hγ trivial) ⟨⟨_, rfl⟩, trivial⟩ ⟨⟨_, _, rfl, rfl, rci (rc_sl (ifs_map (f := u32) (fun _ => if_u32) y1))⟩, trivial⟩ ⟨⟨_, rfl, rn_id if_sli⟩, ⟨_, rfl, rn_id if_u32⟩, ⟨_, rfl, rn_own rfl⟩, ⟨_, rfl, rn_id if_u32⟩, ⟨_, rfl, rn_id if_bl⟩, ⟨_, rfl, rn_id if_i64⟩, trivial⟩) ?_ ?_
    · intro hj19 s20
      refine sseq ?_
      refine sseq ?_
      refine sreg ?_
      refine s1 (mv rfl rfl) ?_
      refine s1 (geI rfl rfl (kI (x := 0) rfl)) ?_
      refine snil ?_
      refine pnm ?_
      refine scond rfl ?_ ?_
      · refine sskip ?_
        refine pnm ?_
        refine sseq ?_
        refine sblk ?_
        refine sreg ?_
        refine s1 (mv rfl rfl) ?_
        refine s1 (mv rfl rfl) ?_
        refine s1 (mv rfl rfl) ?_
        refine s1 (mv rfl rfl) ?_
        refine s1 (mv rfl rfl) ?_
        refine bd fun y21 h22 => ?_
        refine s1 (ixR (f := u32) Tryd.underlying53 ti_139 h22 rfl rfl rfl) ?_
        refine s1 (ldR sh_139 (by exact rfl) (by exact rfl) rfl rfl) ?_
        refine s1 (mv rfl rfl) ?_
        refine bd fun r23 h24 => ?_
        refine s1 (call0 (c_limb_Div _ h24) ⟨⟨_, rfl, rn_id if_u32⟩, ⟨_, rfl, rn_id if_u32⟩, ⟨_, rfl, rn_id if_u32⟩, trivial⟩ (if_tup (ifs_cons if_u32 (ifs_cons if_u32 (ifs_cons if_bl (ifs_nil))))) rfl) ?_
        refine s1 (mv rfl rfl) ?_
        refine s1 (ext (by exact rfl) rfl rfl) ?_
        refine s1 (ext (by exact rfl) rfl rfl) ?_
        refine s1 (ext (by exact rfl) rfl rfl) ?_
        refine bd fun y25 h26 => ?_
        refine s1 (ixO (f := u32) rfl Tryd.underlying53 ti_139 h26 rfl rfl rfl) ?_
        refine so (stO (f := u32) r23.1 [] rfl (getI_ix h26) (by exact rfl) (by exact rfl) (by exact rfl) (by exact rfl) sh_139 (by exact rfl) (by exact rfl) (by exact rfl) rfl rfl) ?_
        refine s1 (asg rfl rfl) ?_
        refine snil ?_
        refine pbn ?_
        refine pnm ?_
        refine sreg ?_
        refine s1 (mv rfl rfl) ?_
        refine s1 (subI rfl rfl (kI (x := 1) rfl)) ?_
        refine s1 (asg rfl rfl) ?_
        refine snil ?_
        exact sgo (entR [(100, 100)] rfl (keepS hγ trivial) ⟨⟨_, rfl⟩, trivial⟩ ⟨⟨_, _, rfl, rfl, rci (rc_sl (ifs_map (f := u32) (fun _ => if_u32) (List.set s20.1 (Int.toNat s20.2.2) r23.1)))⟩, trivial⟩ ⟨⟨_, rfl, rn_id if_sli⟩, ⟨_, rfl, rn_id if_u32⟩, ⟨_, rfl, rn_own rfl⟩, ⟨_, rfl, rn_id if_u32⟩, ⟨_, rfl, rn_id if_bl⟩, ⟨_, rfl, rn_id if_i64⟩, trivial⟩)
      · refine sexit ?_
        refine ptx ?_
        exact sout (fun h => by cases h) (sj (hj19 _) (entR [(100, 100)] rfl (keepS hγ trivial) ⟨⟨_, rfl⟩, trivial⟩ ⟨⟨_, _, rfl, rfl, rci (rc_sl (ifs_map (f := u32) (fun _ => if_u32) s20.1))⟩, trivial⟩ ⟨⟨_, rfl, rn_own rfl⟩, ⟨_, rfl, rn_id if_u32⟩, ⟨_, rfl, rn_id if_bl⟩, trivial⟩))
    · intro t18
      refine sx ?_
      refine pnm ?_
      refine sseq ?_
      refine sreg ?_
      refine s1 (mv rfl rfl) ?_
      refine bd fun r27 h28 => ?_
      refine so (callL (em := [(101, .sl 139 1 (List.map u32 r27))]) (res' := .own 101) [100] [] [(101, 50)] [(101, 50)] rfl (c_nat_Norm _ h28) ⟨pls_map (f := u32) (fun _ => pl_u32) _, trivial⟩ (pl_own) ⟨.inr ⟨100, rfl, .inl ⟨rfl, .inl ⟨_, _, _, rfl, ifs_map (f := u32) (fun _ => if_u32) t18.1, rfl⟩⟩⟩, trivial⟩ (MiF.get (mi := []) trivial) trivial rfl ⟨rfl, trivial⟩ ⟨.inl rfl, trivial⟩ rfl ⟨.inl ⟨_, _, rfl, rfl, rc_sl (ifs_map (f := u32) (fun _ => if_u32) r27)⟩, trivial⟩ trivial ⟨⟨_, rfl⟩, trivial⟩ (rn_own rfl) rfl) ?_
      refine s1 (mv rfl rfl) ?_
      refine s1 (asg rfl rfl) ?_
      refine s1 (asg rfl rfl) ?_
      refine s1 (asg rfl kB) ?_
      refine snil ?_
      refine pnm ?_
      refine sret ?_
      refine frz (id := 101) [(4, sli 1 (List.map u32 r27)), (35, sli 1 (List.map u32 r27))] [] rfl (ifs_map (f := u32) (fun _ => if_u32) r27) ⟨⟨_, rfl, fz_own⟩, ⟨_, rfl, fz_own⟩, trivial⟩ trivial ?_
      exact ret [] [.tmp 4, .tmp 5, .tmp 6] [_, _, _] [_, _, _] .ret hγ (.inl rfl) rfl ⟨rfl, rfl, rfl, trivial⟩ rfl trivial trivial trivial (rns_cons (rn_id if_sli) (rns_cons (rn_id if_u32) (rns_cons (rn_id if_bl) (rns_nil)))) rfl
theorem c_limb_Len {n : Nat} {x0 : Nat} : ∀ r, m_limb_Len n x0 = some r → FnOk Tryd.prog 150 [u32 x0] [] (i64 r) [] := by
  unfold m_limb_Len
  refine fn_of_sq (res := fun (r : Int) => i64 r) (mo := fun (r : Int) => []) Tryd.func150 rfl rfl (by kernel_rfl) rfl ?_
  intro w S0 γ hγ
  refine sseq ?_
  refine sreg ?_
  refine s1 (asg rfl (kI (x := 0) rfl)) ?_
  refine snil ?_
  refine pnm ?_
  refine sseq ?_
  refine sreg ?_
  refine s1 (asg rfl (kI (x := 0) rfl)) ?_
  refine snil ?_
  refine pnm ?_
  refine sseq ?_
  refine sseq ?_
  refine sreg ?_
  refine s1 (asg rfl (kI (x := 16) rfl)) ?_
  refine snil ?_
  refine pnm ?_
  refine sblk ?_
  refine sloopE 0 (fun t => t) (fun (s15 : Nat × Int × Int) => [(0, u32 s15.1), (2, i64 (0 : Int)), (3, i64 s15.2.1), (4, i64 s15.2.2)]) (fun (s15 : Nat × Int × Int) => []) (fun (t13 : Nat × Int) => [(0, u32 t13.1), (2, i64 (0 : Int)), (3, i64 t13.2)]) (fun (t13 : Nat × Int) => []) (entI ⟨rfl, rfl, rfl, rfl, trivial⟩ eqm0) ?_ ?_
  · intro hj14 s15
    refine sseq ?_
    refine sseq ?_
    refine sreg ?_
    refine s1 (mv rfl rfl) ?_
    refine s1 (gtI rfl rfl (kI (x := 0) rfl)) ?_
    refine snil ?_
    refine pnm ?_
    refine scond rfl ?_ ?_
    · refine sskip ?_
      refine pnm ?_
      refine sjq (fun (s20 : Nat × Int) => [(0, u32 s20.1), (2, i64 (0 : Int)), (3, i64 s20.2), (4, i64 s15.2.2)]) (fun (s20 : Nat × Int) => []) ?_ ?_
      · intro j18 hj19
        refine sblk ?_
        refine sseq ?_
        refine sreg ?_
        refine s1 (mv rfl rfl) ?_
        refine s1 (mv rfl rfl) ?_
        refine bd fun _ h21 => ?_
        refine s1 (shrU uk32 (ge0 h21) rfl rfl rfl) ?_
        refine s1 (neU .u32 rfl rfl (k32 (x := 0) rfl)) ?_
        refine snil ?_
        refine pnm ?_
        refine scond rfl ?_ ?_
        · refine sseq ?_
          refine sreg ?_
          refine s1 (mv rfl rfl) ?_
          refine s1 (mv rfl rfl) ?_
          refine bd fun _ h22 => ?_
          refine s1 (shrU uk32 (ge0 h22) rfl rfl rfl) ?_
          refine s1 (asg rfl rfl) ?_
          refine snil ?_
          refine pnm ?_
          refine sreg ?_
          refine s1 (mv rfl rfl) ?_
          refine s1 (mv rfl rfl) ?_
          refine s1 (addI rfl rfl rfl) ?_
          refine s1 (asg rfl rfl) ?_
          refine snil ?_
          refine pbn ?_
          refine pnm ?_
          exact sj (hj19 _) (entI ⟨rfl, rfl, rfl, rfl, trivial⟩ eqm0)
        · refine sskip ?_
          refine pbn ?_
          refine pnm ?_
          exact sj (hj19 _) (entI ⟨rfl, rfl, rfl, rfl, trivial⟩ eqm0)
      · intro s20
        refine sreg ?_
        refine s1 (mv rfl rfl) ?_
        refine s1 (quoI rfl rfl rfl (kI (x := 2) rfl)) ?_
        refine s1 (asg rfl rfl) ?_
        refine snil ?_
        exact sgo (entI ⟨rfl, rfl, rfl, rfl, trivial⟩ eqm0)
    · refine sexit ?_
      refine ptx ?_
      exact sout (fun h => by cases h) (sj (hj14 _) (entI ⟨rfl, rfl, rfl, trivial⟩ eqm0))
  · intro t13
    refine sx ?_
    refine pnm ?_
    refine sseq ?_
    refine sreg ?_
    refine s1 (mv rfl rfl) ?_
    refine s1 (mv rfl rfl) ?_
    refine s1 (cvUIw uk32 rfl Tryd.underlying139 Tryd.underlying3 rfl rfl) ?_
    refine s1 (addI rfl rfl rfl) ?_
    refine s1 (asg rfl rfl) ?_
    refine snil ?_
    refine pnm ?_
    refine sret ?_
    exact ret [] [.tmp 2] [_] [_] .ret hγ (.inl rfl) rfl ⟨rfl, trivial⟩ rfl trivial trivial trivial (rns_cons (rn_id if_i64) (rns_nil)) rfl
theorem c_twos_Up {n : Nat} {x0 : (List Nat)} {x1 : Int} : ∀ r, m_twos_Up n x0 x1 = some r → FnOk Tryd.prog 151 [sli 1 (List.map u32 x0), i64 x1] [] (.own 50) [(50, .sl 139 1 (List.map u32 r))] := by
  unfold m_twos_Up
  refine fn_of_sq (res := fun (r : (List Nat)) => .own 50) (mo := fun (r : (List Nat)) => [(50, .sl 139 1 (List.map u32 r))]) Tryd.func151 rfl rfl (by kernel_rfl) rfl ?_
  intro w S0 γ hγ
  refine sseq ?_
  refine sreg ?_
  refine s1 (asg rfl (kLm (k := 1) u32)) ?_
  refine snil ?_
  refine pnm ?_
  refine sseq ?_
  refine sreg ?_
  refine s1 (mv rfl rfl) ?_
  refine s1 (maxI rfl rfl (kI (x := 0) rfl)) ?_
  refine s1 (minI rfl rfl (kI (x := 4096) rfl)) ?_
  refine s1 (asg rfl rfl) ?_
  refine snil ?_
  refine pnm ?_
  refine sseq ?_
  refine sreg ?_
  refine s1 (mv rfl rfl) ?_
  refine s1 (quoI rfl rfl rfl (kI (x := 32) rfl)) ?_
  refine s1 (mv rfl rfl) ?_
  refine s1 (remI rfl rfl rfl (kI (x := 32) rfl)) ?_
  refine s1 (asg rfl rfl) ?_
  refine s1 (asg rfl rfl) ?_
  refine snil ?_
  refine pnm ?_
  refine sseq ?_
  refine sreg ?_
  refine s1 (mv rfl rfl) ?_
  refine s1 (mv rfl rfl) ?_
  refine s1 (lenL (f := u32) Tryd.underlying53 rfl rfl) ?_
  refine s1 (addI rfl rfl rfl) ?_
  refine sbn (F := i64) 21 rfl fun z1 => ?_
  refine s1 (addI rfl rfl (kI (x := 1) rfl)) ?_
  refine bd fun y2 h3 => ?_
  refine so (mks (y := 100) (f := u32) h3 Tryd.underlying53 ti_139 zr_u32 rfl rfl rfl rfl rfl rfl) ?_
  refine s1 (asg rfl rfl) ?_
  refine snil ?_
  refine pnm ?_
  refine sseq ?_
  refine sseq ?_
  refine sreg ?_
  refine s1 (mv rfl rfl) ?_
  refine s1 (lenL (f := u32) Tryd.underlying53 rfl rfl) ?_
  refine s1 (mv rfl (kI (x := 0) rfl)) ?_
  refine snil ?_
  refine pnm ?_
  refine sblk ?_
  refine srangeN (fun (s35 : (List Nat)) => [(4, sli 1 (List.map u32 ([] : List Nat))), (5, i64 (wrap64 (Int.tdiv (min (max x1 (0 : Int)) (4096 : Int)) (32 : Int)))), (6, i64 (Int.tmod (min (max x1 (0 : Int)) (4096 : Int)) (32 : Int))), (7, .own 100), (24, sli 1 (List.map u32 x0))]) (fun (s35 : (List Nat)) => [(100, .sl 139 1 (List.map u32 s35))]) rfl (fun _ => rfl) (entR [(100, 100)] rfl (keepS hγ trivial) ⟨⟨_, rfl⟩, trivial⟩ ⟨⟨_, _, rfl, rfl, rci (rc_sl (ifs_map (f := u32) (fun _ => if_u32) y2))⟩, trivial⟩ ⟨⟨_, rfl, rn_id if_i64⟩, ⟨_, rfl, rn_id if_i64⟩, ⟨_, rfl, rn_id if_sli⟩, ⟨_, rfl, rn_id if_i64⟩, ⟨_, rfl, rn_id if_i64⟩, ⟨_, rfl, rn_own rfl⟩, ⟨_, rfl, rn_id if_sli⟩, trivial⟩) ?_ ?_
  · intro i36 x37 s35 hx38
    refine sblk ?_
    refine sseq ?_
    refine sreg ?_
    refine s1 (mv rfl rfl) ?_
    refine s1 (ixR (f := u32) Tryd.underlying53 ti_139 (getI_nat hx38) rfl rfl rfl) ?_
    refine s1 (ldR sh_139 (by exact rfl) (by exact rfl) rfl rfl) ?_
    refine s1 (asg rfl rfl) ?_
    refine s1 (asg rfl rfl) ?_
    refine snil ?_
    refine pnm ?_
    refine sseq ?_
    refine sreg ?_
    refine s1 (mv rfl rfl) ?_
    refine s1 (cvUw uk64 uk32 rfl Tryd.underlying139 Tryd.underlying119 rfl rfl) ?_
    refine s1 (mv rfl rfl) ?_
    refine bd fun _ h39 => ?_
    refine s1 (shlU uk64 (ge0 h39) rfl rfl rfl) ?_
    refine sbn (F := u64) 34 rfl fun z40 => ?_
    refine s1 (asg rfl rfl) ?_
    refine snil ?_
    refine pnm ?_
    refine sseq ?_
    refine sreg ?_
    refine s1 (mv rfl rfl) ?_
    refine s1 (mv rfl rfl) ?_
    refine s1 (mv rfl rfl) ?_
    refine s1 (addI rfl rfl rfl) ?_
    refine sbn (F := i64) 38 rfl fun z41 => ?_
    refine bd fun y42 h43 => ?_
    refine s1 (ixO (f := u32) rfl Tryd.underlying53 ti_139 h43 rfl rfl rfl) ?_
    refine s1 (ldO (f := u32) [] rfl (getI_ix h43) (by exact rfl) (by exact rfl) sh_139 (by exact rfl) (by exact rfl) rfl rfl) ?_
    refine s1 (mv rfl rfl) ?_
    refine s1 (cvU uk32 Tryd.underlying119 Tryd.underlying139 rfl rfl) ?_
    refine s1 (orU uk32 rfl rfl rfl) ?_
    refine bd fun y44 h45 => ?_
    refine s1 (ixO (f := u32) rfl Tryd.underlying53 ti_139 h45 rfl rfl rfl) ?_
    refine so (stO (f := u32) (y42 ||| (z40 % 4294967296)) [] rfl (getI_ix h45) (by exact rfl) (by exact rfl) (by exact rfl) (by exact rfl) sh_139 (by exact rfl) (by exact rfl) (by exact rfl) rfl rfl) ?_
    refine snil ?_
    refine pnm ?_
    refine sreg ?_
    refine s1 (mv rfl rfl) ?_
    refine s1 (mv rfl rfl) ?_
    refine s1 (mv rfl rfl) ?_
    refine s1 (addI rfl rfl rfl) ?_
    refine sbn (F := i64) 48 rfl fun z46 => ?_
    refine s1 (addI rfl rfl (kI (x := 1) rfl)) ?_
    refine s1 (mv rfl rfl) ?_
    refine s1 (shrU uk64 rfl rfl rfl (k64 (x := 32) rfl)) ?_
    refine s1 (cvU uk32 Tryd.underlying119 Tryd.underlying139 rfl rfl) ?_
    refine bd fun y47 h48 => ?_
    refine s1 (ixO (f := u32) rfl Tryd.underlying53 ti_139 h48 rfl rfl rfl) ?_
    refine so (stO (f := u32) ((z40 / 2 ^ 32) % 4294967296) [] rfl (getI_ix h48) (by exact rfl) (by exact rfl) (by exact rfl) (by exact rfl) sh_139 (by exact rfl) (by exact rfl) (by exact rfl) rfl rfl) ?_
    refine sbm (C := fun x => .sl 139 1 (List.map u32 x)) 100 rfl fun z49 => ?_
    refine snil ?_
    refine pbn ?_
    exact sgo (entR [(100, 100)] rfl (keepS hγ trivial) ⟨⟨_, rfl⟩, trivial⟩ ⟨⟨_, _, rfl, rfl, rci (rc_sl (ifs_map (f := u32) (fun _ => if_u32) z49))⟩, trivial⟩ ⟨⟨_, rfl, rn_id if_i64⟩, ⟨_, rfl, rn_id if_i64⟩, ⟨_, rfl, rn_id if_sli⟩, ⟨_, rfl, rn_id if_i64⟩, ⟨_, rfl, rn_id if_i64⟩, ⟨_, rfl, rn_own rfl⟩, ⟨_, rfl, rn_id if_sli⟩, trivial⟩)
  · intro s50
    refine sx ?_
    refine pnm ?_
    refine sseq ?_
    refine sreg ?_
    refine s1 (mv rfl rfl) ?_
    refine bd fun r51 h52 => ?_
    refine so (callL (em := [(101, .sl 139 1 (List.map u32 r51))]) (res' := .own 101) [100] [] [(101, 50)] [(101, 50)] rfl (c_nat_Norm _ h52) ⟨pls_map (f := u32) (fun _ => pl_u32) _, trivial⟩ (pl_own) ⟨.inr ⟨100, rfl, .inl ⟨rfl, .inl ⟨_, _, _, rfl, ifs_map (f := u32) (fun _ => if_u32) s50, rfl⟩⟩⟩, trivial⟩ (MiF.get (mi := []) trivial) trivial rfl ⟨rfl, trivial⟩ ⟨.inl rfl, trivial⟩ rfl ⟨.inl ⟨_, _, rfl, rfl, rc_sl (ifs_map (f := u32) (fun _ => if_u32) r51)⟩, trivial⟩ trivial ⟨⟨_, rfl⟩, trivial⟩ (rn_own rfl) rfl) ?_
    refine s1 (asg rfl rfl) ?_
    refine snil ?_
    refine pnm ?_
    refine sret ?_
    exact ret [(50, 101)] [.tmp 4] [_] [.own 50] .ret hγ (.inl rfl) rfl ⟨rfl, trivial⟩ rfl trivial ⟨⟨_, rfl⟩, trivial⟩ ⟨⟨_, _, rfl, rfl, rci (rc_sl (ifs_map (f := u32) (fun _ => if_u32) r51))⟩, trivial⟩ (rns_cons (rn_own rfl) (rns_nil)) rfl
theorem c_limb_Add {x0 : Nat} {x1 : Nat} {x2 : Nat} : ∀ r, m_limb_Add x0 x1 x2 = some r → FnOk Tryd.prog 157 [u32 x0, u32 x1, u32 x2] [] (.tup [u32 r.1, u32 r.2]) [] := by
  unfold m_limb_Add
  refine fn_of_sq (res := fun (r : Nat × Nat) => .tup [u32 r.1, u32 r.2]) (mo := fun (r : Nat × Nat) => []) Tryd.func157 rfl rfl (by kernel_rfl) rfl ?_
  intro w S0 γ hγ
  refine sseq ?_
  refine sreg ?_
  refine s1 (asg rfl (k32 (x := 0) rfl)) ?_
  refine s1 (asg rfl (k32 (x := 0) rfl)) ?_
  refine snil ?_
  refine pnm ?_
  refine sseq ?_
  refine sreg ?_
  refine s1 (mv rfl rfl) ?_
  refine s1 (mv rfl rfl) ?_
  refine s1 (addU uk32 rfl rfl rfl) ?_
  refine s1 (asg rfl rfl) ?_
  refine snil ?_
  refine pnm ?_
  refine sjq (fun (s3 : Nat) => [(2, u32 x2), (6, u32 ((x0 + x1) % 4294967296)), (7, u32 s3)]) (fun (s3 : Nat) => []) ?_ ?_
  · intro j1 hj2
    refine sseq ?_
    refine sreg ?_
    refine s1 (mv rfl rfl) ?_
    refine s1 (mv rfl rfl) ?_
    refine s1 (ltU .u32 rfl rfl rfl) ?_
    refine snil ?_
    refine pnm ?_
    refine scond rfl ?_ ?_
    · refine sreg ?_
      refine s1 (mv rfl rfl) ?_
      refine s1 (addU uk32 rfl rfl (k32 (x := 1) rfl)) ?_
      refine s1 (asg rfl rfl) ?_
      refine snil ?_
      refine pnm ?_
      exact sj (hj2 _) (entI ⟨rfl, rfl, rfl, trivial⟩ eqm0)
    · refine sskip ?_
      refine pnm ?_
      exact sj (hj2 _) (entI ⟨rfl, rfl, rfl, trivial⟩ eqm0)
  · intro s3
    refine sseq ?_
    refine sreg ?_
    refine s1 (mv rfl rfl) ?_
    refine s1 (mv rfl rfl) ?_
    refine s1 (addU uk32 rfl rfl rfl) ?_
    refine s1 (asg rfl rfl) ?_
    refine snil ?_
    refine pnm ?_
    refine sjq (fun (s6 : Nat) => [(6, u32 ((((x0 + x1) % 4294967296) + x2) % 4294967296)), (7, u32 s6)]) (fun (s6 : Nat) => []) ?_ ?_
    · intro j4 hj5
      refine sseq ?_
      refine sreg ?_
      refine s1 (mv rfl rfl) ?_
      refine s1 (mv rfl rfl) ?_
      refine s1 (ltU .u32 rfl rfl rfl) ?_
      refine snil ?_
      refine pnm ?_
      refine scond rfl ?_ ?_
      · refine sreg ?_
        refine s1 (mv rfl rfl) ?_
        refine s1 (addU uk32 rfl rfl (k32 (x := 1) rfl)) ?_
        refine s1 (asg rfl rfl) ?_
        refine snil ?_
        refine pnm ?_
        exact sj (hj5 _) (entI ⟨rfl, rfl, trivial⟩ eqm0)
      · refine sskip ?_
        refine pnm ?_
        exact sj (hj5 _) (entI ⟨rfl, rfl, trivial⟩ eqm0)
    · intro s6
      refine sseq ?_
      refine sreg ?_
      refine s1 (mv rfl rfl) ?_
      refine s1 (mv rfl rfl) ?_
      refine s1 (asg rfl rfl) ?_
      refine s1 (asg rfl rfl) ?_
      refine snil ?_
      refine pnm ?_
      refine sret ?_
      exact ret [] [.tmp 6, .tmp 7] [_, _] [_, _] .ret hγ (.inl rfl) rfl ⟨rfl, rfl, trivial⟩ rfl trivial trivial trivial (rns_cons (rn_id if_u32) (rns_cons (rn_id if_u32) (rns_nil))) rfl
theorem c_limb_Mul {x0 : Nat} {x1 : Nat} {x2 : Nat} {x3 : Nat} : ∀ r, m_limb_Mul x0 x1 x2 x3 = some r → FnOk Tryd.prog 132 [u32 x0, u32 x1, u32 x2, u32 x3] [] (.tup [u32 r.1, u32 r.2]) [] := by
  unfold m_limb_Mul
  refine fn_of_sq (res := fun (r : Nat × Nat) => .tup [u32 r.1, u32 r.2]) (mo := fun (r : Nat × Nat) => []) Tryd.func132 rfl rfl (by kernel_rfl) rfl ?_
  intro w S0 γ hγ
  refine sseq ?_
  refine sreg ?_
  refine s1 (asg rfl (k32 (x := 0) rfl)) ?_
  refine s1 (asg rfl (k32 (x := 0) rfl)) ?_
  refine snil ?_
  refine pnm ?_
  refine sseq ?_
  refine sreg ?_
  refine s1 (mv rfl rfl) ?_
  refine s1 (cvUw uk64 uk32 rfl Tryd.underlying139 Tryd.underlying119 rfl rfl) ?_
  refine s1 (mv rfl rfl) ?_
  refine s1 (cvUw uk64 uk32 rfl Tryd.underlying139 Tryd.underlying119 rfl rfl) ?_
  refine s1 (mulU uk64 rfl rfl rfl) ?_
  refine s1 (mv rfl rfl) ?_
  refine s1 (cvUw uk64 uk32 rfl Tryd.underlying139 Tryd.underlying119 rfl rfl) ?_
  refine s1 (addU uk64 rfl rfl rfl) ?_
  refine s1 (mv rfl rfl) ?_
  refine s1 (cvUw uk64 uk32 rfl Tryd.underlying139 Tryd.underlying119 rfl rfl) ?_
  refine s1 (addU uk64 rfl rfl rfl) ?_
  refine sbn (F := u64) 21 rfl fun z1 => ?_
  refine s1 (asg rfl rfl) ?_
  refine snil ?_
  refine pnm ?_
  refine sseq ?_
  refine sreg ?_
  refine s1 (mv rfl rfl) ?_
  refine s1 (shrU uk64 rfl rfl rfl (k64 (x := 32) rfl)) ?_
  refine s1 (cvU uk32 Tryd.underlying119 Tryd.underlying139 rfl rfl) ?_
  refine s1 (mv rfl rfl) ?_
  refine s1 (cvU uk32 Tryd.underlying119 Tryd.underlying139 rfl rfl) ?_
  refine s1 (asg rfl rfl) ?_
  refine s1 (asg rfl rfl) ?_
  refine snil ?_
  refine pnm ?_
  refine sret ?_
  exact ret [] [.tmp 8, .tmp 9] [_, _] [_, _] .ret hγ (.inl rfl) rfl ⟨rfl, rfl, trivial⟩ rfl trivial trivial trivial (rns_cons (rn_id if_u32) (rns_cons (rn_id if_u32) (rns_nil))) rfl
theorem c_quot_guess {n : Nat} {x0 : Nat} {x1 : Nat} {x2 : Nat} {x3 : Nat} {x4 : Nat} : ∀ r, m_quot_guess n x0 x1 x2 x3 x4 = some r → FnOk Tryd.prog 154 [u32 x0, u32 x1, u32 x2, u32 x3, u32 x4] [] (u32 r) [] := by
  unfold m_quot_guess
  refine fn_of_sq (res := fun (r : Nat) => u32 r) (mo := fun (r : Nat) => []) Tryd.func154 rfl rfl (by kernel_rfl) rfl ?_
  intro w S0 γ hγ
  refine sseq ?_
  refine sreg ?_
  refine s1 (asg rfl (k32 (x := 0) rfl)) ?_
  refine snil ?_
  refine pnm ?_
  refine sscp ?_
  refine sseq ?_
  refine sreg ?_
  refine s1 (mv rfl rfl) ?_
  refine s1 (mv rfl rfl) ?_
  refine s1 (mv rfl rfl) ?_
  refine bd fun r1 h2 => ?_
  refine s1 (call0 (c_limb_Div _ h2) ⟨⟨_, rfl, rn_id if_u32⟩, ⟨_, rfl, rn_id if_u32⟩, ⟨_, rfl, rn_id if_u32⟩, trivial⟩ (if_tup (ifs_cons if_u32 (ifs_cons if_u32 (ifs_cons if_bl (ifs_nil))))) rfl) ?_
  refine s1 (mv rfl rfl) ?_
  refine s1 (ext (by exact rfl) rfl rfl) ?_
  refine s1 (ext (by exact rfl) rfl rfl) ?_
  refine s1 (ext (by exact rfl) rfl rfl) ?_
  refine s1 (asg rfl rfl) ?_
  refine s1 (asg rfl rfl) ?_
  refine s1 (asg rfl rfl) ?_
  refine snil ?_
  refine pnm ?_
  refine sjq (fun (s10 : Nat × Nat) => [(2, u32 x2), (3, u32 x3), (4, u32 x4), (10, u32 0), (11, u32 s10.1), (12, u32 s10.2)]) (fun (s10 : Nat × Nat) => []) ?_ ?_
  · intro j8 hj9
    refine sseq ?_
    refine sreg ?_
    refine s1 (mv rfl rfl) ?_
    refine s1 (notB rfl rfl) ?_
    refine snil ?_
    refine pnm ?_
    refine scond rfl ?_ ?_
    · refine sseq ?_
      refine sreg ?_
      refine s1 (asg rfl (k32 (x := 4294967295) rfl)) ?_
      refine snil ?_
      refine pnm ?_
      refine sseq ?_
      refine sreg ?_
      refine s1 (mv rfl rfl) ?_
      refine s1 (mv rfl rfl) ?_
      refine bd fun r11 h12 => ?_
      refine s1 (call0 (c_limb_Add _ h12) ⟨⟨_, rfl, rn_id if_u32⟩, ⟨_, rfl, rn_id if_u32⟩, ⟨_, (k32 (x := 0) rfl), rn_id if_u32⟩, trivial⟩ (if_tup (ifs_cons if_u32 (ifs_cons if_u32 (ifs_nil)))) rfl) ?_
      refine s1 (mv rfl rfl) ?_
      refine s1 (ext (by exact rfl) rfl rfl) ?_
      refine s1 (ext (by exact rfl) rfl rfl) ?_
      refine s1 (asg rfl rfl) ?_
      refine s1 (asg rfl rfl) ?_
      refine snil ?_
      refine pnm ?_
      refine sseq ?_
      refine sjq (fun (s15 : Bool) => [(2, u32 x2), (3, u32 x3), (4, u32 x4), (10, u32 0), (11, u32 4294967295), (12, u32 r1.2.1), (14, u32 r11.1), (42, bl s15)]) (fun (s15 : Bool) => []) ?_ ?_
      · intro j13 hj14
        refine sreg ?_
        refine s1 (mv rfl rfl) ?_
        refine s1 (mv rfl rfl) ?_
        refine s1 (gtU .u32 rfl rfl rfl) ?_
        refine s1 (mv rfl rfl) ?_
        refine sifd 39 rfl ?_ ?_
        · refine spB 39 rfl rfl rfl ?_
          refine spB 39 rfl rfl rfl ?_
          refine s1 (pickT rfl rfl kB) ?_
          refine snil ?_
          refine pnm ?_
          exact sj (hj14 _) (entI ⟨rfl, rfl, rfl, rfl, rfl, rfl, rfl, rfl, trivial⟩ eqm0)
        · refine sg 39 rfl rfl (mv rfl rfl) ?_
          refine sg 39 rfl rfl (gtU .u32 rfl rfl (k32 (x := 0) rfl)) ?_
          refine s1 (pickF rfl rfl rfl) ?_
          refine snil ?_
          refine pnm ?_
          exact sj (hj14 _) (entI ⟨rfl, rfl, rfl, rfl, rfl, rfl, rfl, rfl, trivial⟩ eqm0)
      · intro s15
        refine scond rfl ?_ ?_
        · refine sseq ?_
          refine sreg ?_
          refine s1 (mv rfl rfl) ?_
          refine s1 (asg rfl rfl) ?_
          refine snil ?_
          refine pnm ?_
          refine sret ?_
          refine pth ?_
          refine pth ?_
          refine pgr ?_
          exact ret [] [.tmp 10] [_] [_] .ret hγ (.inl rfl) rfl ⟨rfl, trivial⟩ rfl trivial trivial trivial (rns_cons (rn_id if_u32) (rns_nil)) rfl
        · refine sskip ?_
          refine pnm ?_
          refine sreg ?_
          refine s1 (mv rfl rfl) ?_
          refine s1 (asg rfl rfl) ?_
          refine snil ?_
          refine pnm ?_
          exact sj (hj9 _) (entI ⟨rfl, rfl, rfl, rfl, rfl, rfl, trivial⟩ eqm0)
    · refine sskip ?_
      refine pnm ?_
      exact sj (hj9 _) (entI ⟨rfl, rfl, rfl, rfl, rfl, rfl, trivial⟩ eqm0)
  · intro s10
    refine sseq ?_
    refine slab ?_
    refine pnm ?_
    refine sseq ?_
    refine sblk ?_
    refine sloopE 0 (fun t => t) (fun (s34 : Nat × Nat) => [(2, u32 x2), (3, u32 x3), (4, u32 x4), (10, u32 0), (11, u32 s34.1), (12, u32 s34.2)]) (fun (s34 : Nat × Nat) => []) (fun (t32 : Nat) => [(10, u32 0), (11, u32 t32)]) (fun (t32 : Nat) => []) (entI ⟨rfl, rfl, rfl, rfl, rfl, rfl, trivial⟩ eqm0) ?_ ?_
    · intro hj33 s34
      refine sblk ?_
      refine sseq ?_
      refine sreg ?_
      refine s1 (mv rfl rfl) ?_
      refine s1 (mv rfl rfl) ?_
      refine bd fun r35 h36 => ?_
      refine s1 (call0 (c_limb_Mul _ h36) ⟨⟨_, rfl, rn_id if_u32⟩, ⟨_, rfl, rn_id if_u32⟩, ⟨_, (k32 (x := 0) rfl), rn_id if_u32⟩, ⟨_, (k32 (x := 0) rfl), rn_id if_u32⟩, trivial⟩ (if_tup (ifs_cons if_u32 (ifs_cons if_u32 (ifs_nil)))) rfl) ?_
      refine s1 (mv rfl rfl) ?_
      refine s1 (ext (by exact rfl) rfl rfl) ?_
      refine s1 (ext (by exact rfl) rfl rfl) ?_
      refine s1 (asg rfl rfl) ?_
      refine s1 (asg rfl rfl) ?_
      refine snil ?_
      refine pnm ?_
      refine sseq ?_
      refine sjq (fun (s39 : Bool) => [(2, u32 x2), (3, u32 x3), (4, u32 x4), (10, u32 0), (11, u32 s34.1), (12, u32 s34.2), (63, bl s39)]) (fun (s39 : Bool) => []) ?_ ?_
      · intro j37 hj38
        refine sreg ?_
        refine s1 (mv rfl rfl) ?_
        refine s1 (mv rfl rfl) ?_
        refine s1 (ltU .u32 rfl rfl rfl) ?_
        refine s1 (mv rfl rfl) ?_
        refine sifd 54 rfl ?_ ?_
        · refine spB 54 rfl rfl rfl ?_
          refine spB 54 rfl rfl rfl ?_
          refine spB 54 rfl rfl rfl ?_
          refine spB 54 rfl rfl rfl ?_
          refine spU 58 rfl rfl rfl ?_
          refine spU 58 rfl rfl rfl ?_
          refine spU 58 rfl rfl rfl ?_
          refine spB 54 rfl rfl rfl ?_
          refine s1 (pickT rfl rfl kB) ?_
          refine snil ?_
          refine pnm ?_
          exact sj (hj38 _) (entI ⟨rfl, rfl, rfl, rfl, rfl, rfl, rfl, trivial⟩ eqm0)
        · refine sg 54 rfl rfl (mv rfl rfl) ?_
          refine sg 54 rfl rfl (mv rfl rfl) ?_
          refine sg 54 rfl rfl (eqU .u32 rfl rfl rfl) ?_
          refine sg 54 rfl rfl (mv rfl rfl) ?_
          refine sifd 58 rfl ?_ ?_
          · refine sg 58 rfl rfl (mv rfl rfl) ?_
            refine sg 58 rfl rfl (mv rfl rfl) ?_
            refine sg 58 rfl rfl (leU .u32 rfl rfl rfl) ?_
            refine sg 54 rfl rfl (pickT rfl rfl rfl) ?_
            refine s1 (pickF rfl rfl rfl) ?_
            refine snil ?_
            refine pnm ?_
            exact sj (hj38 _) (entI ⟨rfl, rfl, rfl, rfl, rfl, rfl, rfl, trivial⟩ eqm0)
          · refine spB 58 rfl rfl rfl ?_
            refine spB 58 rfl rfl rfl ?_
            refine spB 58 rfl rfl rfl ?_
            refine sg 54 rfl rfl (pickF rfl rfl kB) ?_
            refine s1 (pickF rfl rfl rfl) ?_
            refine snil ?_
            refine pnm ?_
            exact sj (hj38 _) (entI ⟨rfl, rfl, rfl, rfl, rfl, rfl, rfl, trivial⟩ eqm0)
      · intro s39
        refine scond rfl ?_ ?_
        · refine sexit ?_
          refine ptx ?_
          refine sxo rfl ?_
          exact sout (fun h => by cases h) (sj (hj33 _) (entI ⟨rfl, rfl, trivial⟩ eqm0))
        · refine sskip ?_
          refine pnm ?_
          refine sseq ?_
          refine sreg ?_
          refine s1 (mv rfl rfl) ?_
          refine s1 (subU uk32 rfl rfl (k32 (x := 1) rfl)) ?_
          refine s1 (asg rfl rfl) ?_
          refine snil ?_
          refine pnm ?_
          refine sseq ?_
          refine sreg ?_
          refine s1 (mv rfl rfl) ?_
          refine s1 (mv rfl rfl) ?_
          refine bd fun r40 h41 => ?_
          refine s1 (call0 (c_limb_Add _ h41) ⟨⟨_, rfl, rn_id if_u32⟩, ⟨_, rfl, rn_id if_u32⟩, ⟨_, (k32 (x := 0) rfl), rn_id if_u32⟩, trivial⟩ (if_tup (ifs_cons if_u32 (ifs_cons if_u32 (ifs_nil)))) rfl) ?_
          refine s1 (mv rfl rfl) ?_
          refine s1 (ext (by exact rfl) rfl rfl) ?_
          refine s1 (ext (by exact rfl) rfl rfl) ?_
          refine s1 (asg rfl rfl) ?_
          refine s1 (asg rfl rfl) ?_
          refine snil ?_
          refine pnm ?_
          refine sseq ?_
          refine sseq ?_
          refine sreg ?_
          refine s1 (mv rfl rfl) ?_
          refine s1 (gtU .u32 rfl rfl (k32 (x := 0) rfl)) ?_
          refine snil ?_
          refine pnm ?_
          refine scond rfl ?_ ?_
          · refine sexit ?_
            refine ptx ?_
            refine sxo rfl ?_
            exact sout (fun h => by cases h) (sj (hj33 _) (entI ⟨rfl, rfl, trivial⟩ eqm0))
          · refine sskip ?_
            refine pnm ?_
            refine sreg ?_
            refine s1 (mv rfl rfl) ?_
            refine s1 (asg rfl rfl) ?_
            refine snil ?_
            refine pbn ?_
            exact sgo (entI ⟨rfl, rfl, rfl, rfl, rfl, rfl, trivial⟩ eqm0)
    · intro t32
      refine sx ?_
      refine pnm ?_
      refine sseq ?_
      refine sreg ?_
      refine s1 (mv rfl rfl) ?_
      refine s1 (asg rfl rfl) ?_
      refine snil ?_
      refine pnm ?_
      refine sret ?_
      refine pgr ?_
      exact ret [] [.tmp 10] [_] [_] .ret hγ (.inl rfl) rfl ⟨rfl, trivial⟩ rfl trivial trivial trivial (rns_cons (rn_id if_u32) (rns_nil)) rfl
theorem c_limb_Sub {x0 : Nat} {x1 : Nat} {x2 : Nat} : ∀ r, m_limb_Sub x0 x1 x2 = some r → FnOk Tryd.prog 158 [u32 x0, u32 x1, u32 x2] [] (.tup [u32 r.1, u32 r.2]) [] := by
  unfold m_limb_Sub
  refine fn_of_sq (res := fun (r : Nat × Nat) => .tup [u32 r.1, u32 r.2]) (mo := fun (r : Nat × Nat) => []) Tryd.func158 rfl rfl (by kernel_rfl) rfl ?_
  intro w S0 γ hγ
  refine sseq ?_
  refine sreg ?_
  refine s1 (asg rfl (k32 (x := 0) rfl)) ?_
  refine s1 (asg rfl (k32 (x := 0) rfl)) ?_
  refine snil ?_
  refine pnm ?_
  refine sseq ?_
  refine sreg ?_
  refine s1 (mv rfl rfl) ?_
  refine s1 (mv rfl rfl) ?_
  refine s1 (subU uk32 rfl rfl rfl) ?_
  refine s1 (asg rfl rfl) ?_
  refine snil ?_
  refine pnm ?_
  refine sjq (fun (s3 : Nat) => [(2, u32 x2), (6, u32 ((x0 + 4294967296 - x1) % 4294967296)), (7, u32 s3)]) (fun (s3 : Nat) => []) ?_ ?_
  · intro j1 hj2
    refine sseq ?_
    refine sreg ?_
    refine s1 (mv rfl rfl) ?_
    refine s1 (mv rfl rfl) ?_
    refine s1 (ltU .u32 rfl rfl rfl) ?_
    refine snil ?_
    refine pnm ?_
    refine scond rfl ?_ ?_
    · refine sreg ?_
      refine s1 (mv rfl rfl) ?_
      refine s1 (addU uk32 rfl rfl (k32 (x := 1) rfl)) ?_
      refine s1 (asg rfl rfl) ?_
      refine snil ?_
      refine pnm ?_
      exact sj (hj2 _) (entI ⟨rfl, rfl, rfl, trivial⟩ eqm0)
    · refine sskip ?_
      refine pnm ?_
      exact sj (hj2 _) (entI ⟨rfl, rfl, rfl, trivial⟩ eqm0)
  · intro s3
    refine sjq (fun (s6 : Nat) => [(2, u32 x2), (6, u32 ((x0 + 4294967296 - x1) % 4294967296)), (7, u32 s6)]) (fun (s6 : Nat) => []) ?_ ?_
    · intro j4 hj5
      refine sseq ?_
      refine sreg ?_
      refine s1 (mv rfl rfl) ?_
      refine s1 (mv rfl rfl) ?_
      refine s1 (ltU .u32 rfl rfl rfl) ?_
      refine snil ?_
      refine pnm ?_
      refine scond rfl ?_ ?_
      · refine sreg ?_
        refine s1 (mv rfl rfl) ?_
        refine s1 (addU uk32 rfl rfl (k32 (x := 1) rfl)) ?_
        refine s1 (asg rfl rfl) ?_
        refine snil ?_
        refine pnm ?_
        exact sj (hj5 _) (entI ⟨rfl, rfl, rfl, trivial⟩ eqm0)
      · refine sskip ?_
        refine pnm ?_
        exact sj (hj5 _) (entI ⟨rfl, rfl, rfl, trivial⟩ eqm0)
    · intro s6
      refine sseq ?_
      refine sreg ?_
      refine s1 (mv rfl rfl) ?_
      refine s1 (mv rfl rfl) ?_
      refine s1 (subU uk32 rfl rfl rfl) ?_
      refine sbn (F := u32) 23 rfl fun z7 => ?_
      refine s1 (mv rfl rfl) ?_
      refine s1 (asg rfl rfl) ?_
      refine s1 (asg rfl rfl) ?_
      refine snil ?_
      refine pnm ?_
      refine sret ?_
      exact ret [] [.tmp 6, .tmp 7] [_, _] [_, _] .ret hγ (.inl rfl) rfl ⟨rfl, rfl, trivial⟩ rfl trivial trivial trivial (rns_cons (rn_id if_u32) (rns_cons (rn_id if_u32) (rns_nil))) rfl
theorem c_quot_take {x0 : (List Nat)} {x1 : Int} {x2 : (List Nat)} {x3 : Nat} : ∀ r, m_quot_take x0 x1 x2 x3 = some r → FnOk Tryd.prog 155 [.own 0, i64 x1, sli 1 (List.map u32 x2), u32 x3] [(0, .sl 139 1 (List.map u32 x0))] (bl r.1) [(0, .sl 139 1 (List.map u32 r.2))] := by
  unfold m_quot_take
  refine fn_of_sq (res := fun (r : Bool × (List Nat)) => bl r.1) (mo := fun (r : Bool × (List Nat)) => [(0, .sl 139 1 (List.map u32 r.2))]) Tryd.func155 rfl rfl (by kernel_rfl) rfl ?_
  intro w S0 γ hγ
  refine sseq ?_
  refine sreg ?_
  refine s1 (asg rfl kB) ?_
  refine snil ?_
  refine pnm ?_
  refine sseq ?_
  refine sreg ?_
  refine s1 (asg rfl (k32 (x := 0) rfl)) ?_
  refine s1 (asg rfl (k32 (x := 0) rfl)) ?_
  refine snil ?_
  refine pnm ?_
  refine sseq ?_
  refine sseq ?_
  refine sreg ?_
  refine s1 (mv rfl rfl) ?_
  refine s1 (lenL (f := u32) Tryd.underlying53 rfl rfl) ?_
  refine s1 (mv rfl (kI (x := 0) rfl)) ?_
  refine snil ?_
  refine pnm ?_
  refine sblk ?_
  refine srangeN (fun (s26 : (List Nat) × Nat × Nat) => [(0, .own 0), (1, i64 x1), (2, sli 1 (List.map u32 x2)), (3, u32 x3), (8, bl false), (9, u32 s26.2.1), (10, u32 s26.2.2), (15, sli 1 (List.map u32 x2))]) (fun (s26 : (List Nat) × Nat × Nat) => [(0, .sl 139 1 (List.map u32 s26.1))]) rfl (fun _ => rfl) (entR [(0, 0)] rfl (keepS hγ ⟨rfl, trivial⟩) ⟨⟨_, rfl⟩, trivial⟩ ⟨⟨_, _, rfl, rfl, rci (rc_sl (ifs_map (f := u32) (fun _ => if_u32) x0))⟩, trivial⟩ ⟨⟨_, rfl, rn_id if_i64⟩, ⟨_, rfl, rn_id if_i64⟩, ⟨_, rfl, rn_own rfl⟩, ⟨_, rfl, rn_id if_i64⟩, ⟨_, rfl, rn_id if_sli⟩, ⟨_, rfl, rn_id if_u32⟩, ⟨_, rfl, rn_id if_bl⟩, ⟨_, rfl, rn_id if_u32⟩, ⟨_, rfl, rn_id if_u32⟩, ⟨_, rfl, rn_id if_sli⟩, trivial⟩) ?_ ?_
  · intro i27 x28 s26 hx29
    refine sblk ?_
    refine sseq ?_
    refine sreg ?_
    refine s1 (mv rfl rfl) ?_
    refine s1 (ixR (f := u32) Tryd.underlying53 ti_139 (getI_nat hx29) rfl rfl rfl) ?_
    refine s1 (ldR sh_139 (by exact rfl) (by exact rfl) rfl rfl) ?_
    refine s1 (asg rfl rfl) ?_
    refine s1 (asg rfl rfl) ?_
    refine snil ?_
    refine pnm ?_
    refine sseq ?_
    refine sreg ?_
    refine s1 (asg rfl (k32 (x := 0) rfl)) ?_
    refine snil ?_
    refine pnm ?_
    refine sseq ?_
    refine sreg ?_
    refine s1 (mv rfl rfl) ?_
    refine s1 (mv rfl rfl) ?_
    refine s1 (mv rfl rfl) ?_
    refine bd fun r30 h31 => ?_
    refine s1 (call0 (c_limb_Mul _ h31) ⟨⟨_, rfl, rn_id if_u32⟩, ⟨_, rfl, rn_id if_u32⟩, ⟨_, rfl, rn_id if_u32⟩, ⟨_, (k32 (x := 0) rfl), rn_id if_u32⟩, trivial⟩ (if_tup (ifs_cons if_u32 (ifs_cons if_u32 (ifs_nil)))) rfl) ?_
    refine s1 (mv rfl rfl) ?_
    refine s1 (ext (by exact rfl) rfl rfl) ?_
    refine s1 (ext (by exact rfl) rfl rfl) ?_
    refine s1 (asg rfl rfl) ?_
    refine s1 (asg rfl rfl) ?_
    refine snil ?_
    refine pnm ?_
    refine sreg ?_
    refine s1 (mv rfl rfl) ?_
    refine s1 (mv rfl rfl) ?_
    refine s1 (mv rfl rfl) ?_
    refine s1 (addI rfl rfl rfl) ?_
    refine s1 (mv rfl rfl) ?_
    refine s1 (mv rfl rfl) ?_
    refine s1 (mv rfl rfl) ?_
    refine s1 (addI rfl rfl rfl) ?_
    refine bd fun y32 h33 => ?_
    refine s1 (ixO (f := u32) rfl Tryd.underlying53 ti_139 h33 rfl rfl rfl) ?_
    refine s1 (ldO (f := u32) [] rfl (getI_ix h33) (by exact rfl) (by exact rfl) sh_139 (by exact rfl) (by exact rfl) rfl rfl) ?_
    refine s1 (mv rfl rfl) ?_
    refine s1 (mv rfl rfl) ?_
    refine bd fun r34 h35 => ?_
    refine s1 (call0 (c_limb_Sub _ h35) ⟨⟨_, rfl, rn_id if_u32⟩, ⟨_, rfl, rn_id if_u32⟩, ⟨_, rfl, rn_id if_u32⟩, trivial⟩ (if_tup (ifs_cons if_u32 (ifs_cons if_u32 (ifs_nil)))) rfl) ?_
    refine s1 (mv rfl rfl) ?_
    refine s1 (ext (by exact rfl) rfl rfl) ?_
    refine s1 (ext (by exact rfl) rfl rfl) ?_
    refine bd fun y36 h37 => ?_
    refine s1 (ixO (f := u32) rfl Tryd.underlying53 ti_139 h37 rfl rfl rfl) ?_
    refine so (stO (f := u32) r34.1 [] rfl (getI_ix h37) (by exact rfl) (by exact rfl) (by exact rfl) (by exact rfl) sh_139 (by exact rfl) (by exact rfl) (by exact rfl) rfl rfl) ?_
    refine s1 (asg rfl rfl) ?_
    refine snil ?_
    refine pbn ?_
    exact sgo (entR [(0, 0)] rfl (keepS hγ ⟨rfl, trivial⟩) ⟨⟨_, rfl⟩, trivial⟩ ⟨⟨_, _, rfl, rfl, rci (rc_sl (ifs_map (f := u32) (fun _ => if_u32) (List.set s26.1 (Int.toNat (wrap64 (x1 + (i27 : Int)))) r34.1)))⟩, trivial⟩ ⟨⟨_, rfl, rn_id if_i64⟩, ⟨_, rfl, rn_id if_i64⟩, ⟨_, rfl, rn_own rfl⟩, ⟨_, rfl, rn_id if_i64⟩, ⟨_, rfl, rn_id if_sli⟩, ⟨_, rfl, rn_id if_u32⟩, ⟨_, rfl, rn_id if_bl⟩, ⟨_, rfl, rn_id if_u32⟩, ⟨_, rfl, rn_id if_u32⟩, ⟨_, rfl, rn_id if_sli⟩, trivial⟩)
  · intro s38
    refine sx ?_
    refine pnm ?_
    refine sseq ?_
    refine sreg ?_
    refine s1 (mv rfl rfl) ?_
    refine s1 (mv rfl rfl) ?_
    refine s1 (lenL (f := u32) Tryd.underlying53 rfl rfl) ?_
    refine s1 (addI rfl rfl rfl) ?_
    refine s1 (asg rfl rfl) ?_
    refine snil ?_
    refine pnm ?_
    refine sseq ?_
    refine sreg ?_
    refine s1 (mv rfl rfl) ?_
    refine s1 (mv rfl rfl) ?_
    refine s1 (mv rfl rfl) ?_
    refine s1 (mv rfl rfl) ?_
    refine bd fun y39 h40 => ?_
    refine s1 (ixO (f := u32) rfl Tryd.underlying53 ti_139 h40 rfl rfl rfl) ?_
    refine s1 (ldO (f := u32) [] rfl (getI_ix h40) (by exact rfl) (by exact rfl) sh_139 (by exact rfl) (by exact rfl) rfl rfl) ?_
    refine s1 (mv rfl rfl) ?_
    refine s1 (mv rfl rfl) ?_
    refine bd fun r41 h42 => ?_
    refine s1 (call0 (c_limb_Sub _ h42) ⟨⟨_, rfl, rn_id if_u32⟩, ⟨_, rfl, rn_id if_u32⟩, ⟨_, rfl, rn_id if_u32⟩, trivial⟩ (if_tup (ifs_cons if_u32 (ifs_cons if_u32 (ifs_nil)))) rfl) ?_
    refine s1 (mv rfl rfl) ?_
    refine s1 (ext (by exact rfl) rfl rfl) ?_
    refine s1 (ext (by exact rfl) rfl rfl) ?_
    refine bd fun y43 h44 => ?_
    refine s1 (ixO (f := u32) rfl Tryd.underlying53 ti_139 h44 rfl rfl rfl) ?_
    refine so (stO (f := u32) r41.1 [] rfl (getI_ix h44) (by exact rfl) (by exact rfl) (by exact rfl) (by exact rfl) sh_139 (by exact rfl) (by exact rfl) (by exact rfl) rfl rfl) ?_
    refine s1 (asg rfl rfl) ?_
    refine snil ?_
    refine pnm ?_
    refine sseq ?_
    refine sreg ?_
    refine s1 (mv rfl rfl) ?_
    refine s1 (gtU .u32 rfl rfl (k32 (x := 0) rfl)) ?_
    refine s1 (asg rfl rfl) ?_
    refine snil ?_
    refine pnm ?_
    refine sret ?_
    exact ret [(0, 0)] [.tmp 8] [_] [_] .ret hγ (.inl rfl) rfl ⟨rfl, trivial⟩ rfl ⟨rfl, trivial⟩ ⟨⟨_, rfl⟩, trivial⟩ ⟨⟨_, _, rfl, rfl, rci (rc_sl (ifs_map (f := u32) (fun _ => if_u32) (List.set s38.1 (Int.toNat (wrap64 (x1 + (x2.length : Int)))) r41.1)))⟩, trivial⟩ (rns_cons (rn_id if_bl) (rns_nil)) rfl
theorem c_quot_give {x0 : (List Nat)} {x1 : Int} {x2 : (List Nat)} : ∀ r, m_quot_give x0 x1 x2 = some r → FnOk Tryd.prog 156 [.own 0, i64 x1, sli 1 (List.map u32 x2)] [(0, .sl 139 1 (List.map u32 x0))] (.tup []) [(0, .sl 139 1 (List.map u32 r))] := by
  unfold m_quot_give
  refine fn_of_sq (res := fun (r : (List Nat)) => .tup []) (mo := fun (r : (List Nat)) => [(0, .sl 139 1 (List.map u32 r))]) Tryd.func156 rfl rfl (by kernel_rfl) rfl ?_
  intro w S0 γ hγ
  refine sseq ?_
  refine sreg ?_
  refine s1 (asg rfl (k32 (x := 0) rfl)) ?_
  refine snil ?_
  refine pnm ?_
  refine sseq ?_
  refine sseq ?_
  refine sreg ?_
  refine s1 (mv rfl rfl) ?_
  refine s1 (lenL (f := u32) Tryd.underlying53 rfl rfl) ?_
  refine s1 (mv rfl (kI (x := 0) rfl)) ?_
  refine snil ?_
  refine pnm ?_
  refine sblk ?_
  refine srangeN (fun (s22 : (List Nat) × Nat) => [(0, .own 0), (1, i64 x1), (2, sli 1 (List.map u32 x2)), (6, u32 s22.2), (9, sli 1 (List.map u32 x2))]) (fun (s22 : (List Nat) × Nat) => [(0, .sl 139 1 (List.map u32 s22.1))]) rfl (fun _ => rfl) (entR [(0, 0)] rfl (keepS hγ ⟨rfl, trivial⟩) ⟨⟨_, rfl⟩, trivial⟩ ⟨⟨_, _, rfl, rfl, rci (rc_sl (ifs_map (f := u32) (fun _ => if_u32) x0))⟩, trivial⟩ ⟨⟨_, rfl, rn_id if_i64⟩, ⟨_, rfl, rn_id if_i64⟩, ⟨_, rfl, rn_own rfl⟩, ⟨_, rfl, rn_id if_i64⟩, ⟨_, rfl, rn_id if_sli⟩, ⟨_, rfl, rn_id if_u32⟩, ⟨_, rfl, rn_id if_sli⟩, trivial⟩) ?_ ?_
  · intro i23 x24 s22 hx25
    refine sblk ?_
    refine sseq ?_
    refine sreg ?_
    refine s1 (mv rfl rfl) ?_
    refine s1 (ixR (f := u32) Tryd.underlying53 ti_139 (getI_nat hx25) rfl rfl rfl) ?_
    refine s1 (ldR sh_139 (by exact rfl) (by exact rfl) rfl rfl) ?_
    refine s1 (asg rfl rfl) ?_
    refine s1 (asg rfl rfl) ?_
    refine snil ?_
    refine pnm ?_
    refine sreg ?_
    refine s1 (mv rfl rfl) ?_
    refine s1 (mv rfl rfl) ?_
    refine s1 (mv rfl rfl) ?_
    refine s1 (addI rfl rfl rfl) ?_
    refine s1 (mv rfl rfl) ?_
    refine s1 (mv rfl rfl) ?_
    refine s1 (mv rfl rfl) ?_
    refine s1 (addI rfl rfl rfl) ?_
    refine bd fun y26 h27 => ?_
    refine s1 (ixO (f := u32) rfl Tryd.underlying53 ti_139 h27 rfl rfl rfl) ?_
    refine s1 (ldO (f := u32) [] rfl (getI_ix h27) (by exact rfl) (by exact rfl) sh_139 (by exact rfl) (by exact rfl) rfl rfl) ?_
    refine s1 (mv rfl rfl) ?_
    refine s1 (mv rfl rfl) ?_
    refine bd fun r28 h29 => ?_
    refine s1 (call0 (c_limb_Add _ h29) ⟨⟨_, rfl, rn_id if_u32⟩, ⟨_, rfl, rn_id if_u32⟩, ⟨_, rfl, rn_id if_u32⟩, trivial⟩ (if_tup (ifs_cons if_u32 (ifs_cons if_u32 (ifs_nil)))) rfl) ?_
    refine s1 (mv rfl rfl) ?_
    refine s1 (ext (by exact rfl) rfl rfl) ?_
    refine s1 (ext (by exact rfl) rfl rfl) ?_
    refine bd fun y30 h31 => ?_
    refine s1 (ixO (f := u32) rfl Tryd.underlying53 ti_139 h31 rfl rfl rfl) ?_
    refine so (stO (f := u32) r28.1 [] rfl (getI_ix h31) (by exact rfl) (by exact rfl) (by exact rfl) (by exact rfl) sh_139 (by exact rfl) (by exact rfl) (by exact rfl) rfl rfl) ?_
    refine s1 (asg rfl rfl) ?_
    refine snil ?_
    refine pbn ?_
    exact sgo (entR [(0, 0)] rfl (keepS hγ ⟨rfl, trivial⟩) ⟨⟨_, rfl⟩, trivial⟩ ⟨⟨_, _, rfl, rfl, rci (rc_sl (ifs_map (f := u32) (fun _ => if_u32) (List.set s22.1 (Int.toNat (wrap64 (x1 + (i23 : Int)))) r28.1)))⟩, trivial⟩ ⟨⟨_, rfl, rn_id if_i64⟩, ⟨_, rfl, rn_id if_i64⟩, ⟨_, rfl, rn_own rfl⟩, ⟨_, rfl, rn_id if_i64⟩, ⟨_, rfl, rn_id if_sli⟩, ⟨_, rfl, rn_id if_u32⟩, ⟨_, rfl, rn_id if_sli⟩, trivial⟩)
  · intro s32
    refine sx ?_
    refine pnm ?_
    refine sreg ?_
    refine s1 (mv rfl rfl) ?_
    refine s1 (mv rfl rfl) ?_
    refine s1 (mv rfl rfl) ?_
    refine s1 (lenL (f := u32) Tryd.underlying53 rfl rfl) ?_
    refine s1 (addI rfl rfl rfl) ?_
    refine bd fun y33 h34 => ?_
    refine s1 (ixO (f := u32) rfl Tryd.underlying53 ti_139 h34 rfl rfl rfl) ?_
    refine s1 (ldO (f := u32) [] rfl (getI_ix h34) (by exact rfl) (by exact rfl) sh_139 (by exact rfl) (by exact rfl) rfl rfl) ?_
    refine s1 (mv rfl rfl) ?_
    refine s1 (addU uk32 rfl rfl rfl) ?_
    refine bd fun y35 h36 => ?_
    refine s1 (ixO (f := u32) rfl Tryd.underlying53 ti_139 h36 rfl rfl rfl) ?_
    refine so (stO (f := u32) ((y33 + s32.2) % 4294967296) [] rfl (getI_ix h36) (by exact rfl) (by exact rfl) (by exact rfl) (by exact rfl) sh_139 (by exact rfl) (by exact rfl) (by exact rfl) rfl rfl) ?_
    refine sbm (C := fun x => .sl 139 1 (List.map u32 x)) 0 rfl fun z37 => ?_
    refine snil ?_
    exact ret [(0, 0)] [] [] [] .normal hγ (.inr rfl) rfl trivial rfl ⟨rfl, trivial⟩ ⟨⟨_, rfl⟩, trivial⟩ ⟨⟨_, _, rfl, rfl, rci (rc_sl (ifs_map (f := u32) (fun _ => if_u32) z37))⟩, trivial⟩ (rns_nil) rfl
theorem c_quot_long {n : Nat} {x0 : (List Nat)} {x1 : (List Nat)} : ∀ r, m_quot_long n x0 x1 = some r → FnOk Tryd.prog 152 [.own 0, sli 1 (List.map u32 x1)] [(0, .sl 139 1 (List.map u32 x0))] (sli 1 (List.map u32 r.1)) [(0, .sl 139 1 (List.map u32 r.2))] := by
  unfold m_quot_long
  refine fn_of_sq (res := fun (r : (List Nat) × (List Nat)) => sli 1 (List.map u32 r.1)) (mo := fun (r : (List Nat) × (List Nat)) => [(0, .sl 139 1 (List.map u32 r.2))]) Tryd.func152 rfl rfl (by kernel_rfl) rfl ?_
  intro w S0 γ hγ
  refine sseq ?_
  refine sreg ?_
  refine s1 (asg rfl (kLm (k := 1) u32)) ?_
  refine snil ?_
  refine pnm ?_
  refine sseq ?_
  refine sreg ?_
  refine s1 (mv rfl rfl) ?_
  refine s1 (lenL (f := u32) Tryd.underlying53 rfl rfl) ?_
  refine s1 (asg rfl rfl) ?_
  refine snil ?_
  refine pnm ?_
  refine sseq ?_
  refine sreg ?_
  refine s1 (mv rfl rfl) ?_
  refine s1 (lenO (f := u32) Tryd.underlying53 rfl rfl rfl) ?_
  refine s1 (mv rfl rfl) ?_
  refine s1 (subI rfl rfl rfl) ?_
  refine bd fun y1 h2 => ?_
  refine so (mks (y := 100) (f := u32) h2 Tryd.underlying53 ti_139 zr_u32 rfl rfl rfl rfl rfl rfl) ?_
  refine s1 (asg rfl rfl) ?_
  refine snil ?_
  refine pnm ?_
  refine sseq ?_
  refine sseq ?_
  refine sreg ?_
  refine s1 (mv rfl rfl) ?_
  refine s1 (lenO (f := u32) Tryd.underlying53 rfl rfl rfl) ?_
  refine s1 (subI rfl rfl (kI (x := 1) rfl)) ?_
  refine s1 (asg rfl rfl) ?_
  refine snil ?_
  refine pnm ?_
  refine sblk ?_
  refine sloopE 0 (fun t => t) (fun (s60 : (List Nat) × (List Nat) × Int) => [(0, .own 0), (1, sli 1 (List.map u32 x1)), (4, sli 1 (List.map u32 ([] : List Nat))), (5, i64 (x1.length : Int)), (6, .own 100), (7, i64 s60.2.2)]) (fun (s60 : (List Nat) × (List Nat) × Int) => [(0, .sl 139 1 (List.map u32 s60.1)), (100, .sl 139 1 (List.map u32 s60.2.1))]) (fun (t58 : (List Nat) × (List Nat)) => [(4, sli 1 (List.map u32 ([] : List Nat))), (6, .own 100)]) (fun (t58 : (List Nat) × (List Nat)) => [(0, .sl 139 1 (List.map u32 t58.1)), (100, .sl 139 1 (List.map u32 t58.2))]) (entR [(0, 0), (100, 100)] rfl (keepS hγ ⟨rfl, trivial⟩) ⟨⟨_, rfl⟩, ⟨_, rfl⟩, trivial⟩ ⟨⟨_, _, rfl, rfl, rci (rc_sl (ifs_map (f := u32) (fun _ => if_u32) x0))⟩, ⟨_, _, rfl, rfl, rci (rc_sl (ifs_map (f := u32) (fun _ => if_u32) y1))⟩, trivial⟩ ⟨⟨_, rfl, rn_own rfl⟩, ⟨_, rfl, rn_id if_sli⟩, ⟨_, rfl, rn_id if_sli⟩, ⟨_, rfl, rn_id if_i64⟩, ⟨_, rfl, rn_own rfl⟩, ⟨_, rfl, rn_id if_i64⟩, trivial⟩) ?_ ?_
  · intro hj59 s60
    refine sseq ?_
    refine sseq ?_
    refine sreg ?_
    refine s1 (mv rfl rfl) ?_
    refine s1 (geI rfl rfl (kI (x := 0) rfl)) ?_
    refine snil ?_
    refine pnm ?_
    refine scond rfl ?_ ?_
    · refine sskip ?_
      refine pnm ?_
      refine sseq ?_
      refine sblk ?_
      refine sseq ?_
      refine bd fun y61 h62 => ?_
      refine bd fun y63 h64 => ?_
      refine bd fun y65 h66 => ?_
      refine bd fun y67 h68 => ?_
      refine bd fun y69 h70 => ?_
      refine bd fun r71 h72 => ?_
      refine sdraw [⟨[0], [], [(23, .own 0)], []⟩, ⟨[7], [], [(24, i64 s60.2.2)], []⟩, ⟨[5], [], [(25, i64 (x1.length : Int))], []⟩, ⟨[24, 25], [], [(26, i64 (wrap64 (s60.2.2 + (x1.length : Int))))], []⟩, ⟨[23, 26], [0], [(27, .ptr 0 (Int.toNat (wrap64 (s60.2.2 + (x1.length : Int))) * 1))], []⟩, ⟨[27], [0], [(28, u32 y61)], []⟩, ⟨[0], [], [(29, .own 0)], []⟩, ⟨[7], [], [(30, i64 s60.2.2)], []⟩, ⟨[5], [], [(31, i64 (x1.length : Int))], []⟩, ⟨[30, 31], [], [(32, i64 (wrap64 (s60.2.2 + (x1.length : Int))))], []⟩, ⟨[32], [], [(33, i64 (wrap64 ((wrap64 (s60.2.2 + (x1.length : Int))) - (1 : Int))))], []⟩, ⟨[29, 33], [0], [(34, .ptr 0 (Int.toNat (wrap64 ((wrap64 (s60.2.2 + (x1.length : Int))) - (1 : Int))) * 1))], []⟩, ⟨[34], [0], [(35, u32 y63)], []⟩, ⟨[0], [], [(36, .own 0)], []⟩, ⟨[7], [], [(37, i64 s60.2.2)], []⟩, ⟨[5], [], [(38, i64 (x1.length : Int))], []⟩, ⟨[37, 38], [], [(39, i64 (wrap64 (s60.2.2 + (x1.length : Int))))], []⟩, ⟨[39], [], [(40, i64 (wrap64 ((wrap64 (s60.2.2 + (x1.length : Int))) - (2 : Int))))], []⟩, ⟨[36, 40], [0], [(41, .ptr 0 (Int.toNat (wrap64 ((wrap64 (s60.2.2 + (x1.length : Int))) - (2 : Int))) * 1))], []⟩, ⟨[41], [0], [(42, u32 y65)], []⟩, ⟨[1], [], [(43, sli 1 (List.map u32 x1))], []⟩, ⟨[5], [], [(44, i64 (x1.length : Int))], []⟩, ⟨[44], [], [(45, i64 (wrap64 ((x1.length : Int) - (1 : Int))))], []⟩, ⟨[43, 45], [], [(46, .ref (u32 y67))], []⟩, ⟨[46], [], [(47, u32 y67)], []⟩, ⟨[1], [], [(48, sli 1 (List.map u32 x1))], []⟩, ⟨[5], [], [(49, i64 (x1.length : Int))], []⟩, ⟨[49], [], [(50, i64 (wrap64 ((x1.length : Int) - (2 : Int))))], []⟩, ⟨[48, 50], [], [(51, .ref (u32 y69))], []⟩, ⟨[51], [], [(52, u32 y69)], []⟩, ⟨[28, 35, 42, 47, 52], [], [(53, u32 r71)], []⟩, ⟨[53], [], [(8, u32 r71)], []⟩] fol (by kernel_rfl) ⟨fun st mm ⟨a0, _⟩ _ => og (mv rfl (a0.trans rfl)), fun st mm ⟨a7, _⟩ _ => og (mv rfl (a7.trans rfl)), fun st mm ⟨a5, _⟩ _ => og (mv rfl (a5.trans rfl)), fun st mm ⟨a24, a25, _⟩ _ => og (addI rfl (a24.trans rfl) (a25.trans rfl)), fun st mm ⟨a23, a26, _⟩ ⟨g0, _⟩ => og (ixO (f := u32) (g0.trans rfl) Tryd.underlying53 ti_139 h62 rfl (a23.trans rfl) (a26.trans rfl)), fun st mm ⟨a27, _⟩ ⟨g0, _⟩ => og (ldO (f := u32) [] (g0.trans rfl) (getI_ix h62) (by exact rfl) (by exact rfl) sh_139 (by exact rfl) (by exact rfl) rfl (a27.trans rfl)), fun st mm ⟨a0, _⟩ _ => og (mv rfl (a0.trans rfl)), fun st mm ⟨a7, _⟩ _ => og (mv rfl (a7.trans rfl)), fun st mm ⟨a5, _⟩ _ => og (mv rfl (a5.trans rfl)), fun st mm ⟨a30, a31, _⟩ _ => og (addI rfl (a30.trans rfl) (a31.trans rfl)), fun st mm ⟨a32, _⟩ _ => og (subI rfl (a32.trans rfl) (kI (x := 1) rfl)), fun st mm ⟨a29, a33, _⟩ ⟨g0, _⟩ => og (ixO (f := u32) (g0.trans rfl) Tryd.underlying53 ti_139 h64 rfl (a29.trans rfl) (a33.trans rfl)), fun st mm ⟨a34, _⟩ ⟨g0, _⟩ => og (ldO (f := u32) [] (g0.trans rfl) (getI_ix h64) (by exact rfl) (by exact rfl) sh_139 (by exact rfl) (by exact rfl) rfl (a34.trans rfl)), fun st mm ⟨a0, _⟩ _ => og (mv rfl (a0.trans rfl)), fun st mm ⟨a7, _⟩ _ => og (mv rfl (a7.trans rfl)), fun st mm ⟨a5, _⟩ _ => og (mv rfl (a5.trans rfl)), fun st mm ⟨a37, a38, _⟩ _ => og (addI rfl (a37.trans rfl) (a38.trans rfl)), fun st mm ⟨a39, _⟩ _ => og (subI rfl (a39.trans rfl) (kI (x := 2) rfl)), fun st mm ⟨a36, a40, _⟩ ⟨g0, _⟩ => og (ixO (f := u32) (g0.trans rfl) Tryd.underlying53 ti_139 h66 rfl (a36.trans rfl) (a40.trans rfl)), fun st mm ⟨a41, _⟩ ⟨g0, _⟩ => og (ldO (f := u32) [] (g0.trans rfl) (getI_ix h66) (by exact rfl) (by exact rfl) sh_139 (by exact rfl) (by exact rfl) rfl (a41.trans rfl)), fun st mm ⟨a1, _⟩ _ => og (mv rfl (a1.trans rfl)), fun st mm ⟨a5, _⟩ _ => og (mv rfl (a5.trans rfl)), fun st mm ⟨a44, _⟩ _ => og (subI rfl (a44.trans rfl) (kI (x := 1) rfl)), fun st mm ⟨a43, a45, _⟩ _ => og (ixR (f := u32) Tryd.underlying53 ti_139 h68 rfl (a43.trans rfl) (a45.trans rfl)), fun st mm ⟨a46, _⟩ _ => og (ldR sh_139 (by exact rfl) (by exact rfl) rfl (a46.trans rfl)), fun st mm ⟨a1, _⟩ _ => og (mv rfl (a1.trans rfl)), fun st mm ⟨a5, _⟩ _ => og (mv rfl (a5.trans rfl)), fun st mm ⟨a49, _⟩ _ => og (subI rfl (a49.trans rfl) (kI (x := 2) rfl)), fun st mm ⟨a48, a50, _⟩ _ => og (ixR (f := u32) Tryd.underlying53 ti_139 h70 rfl (a48.trans rfl) (a50.trans rfl)), fun st mm ⟨a51, _⟩ _ => og (ldR sh_139 (by exact rfl) (by exact rfl) rfl (a51.trans rfl)), fun st mm ⟨a28, a35, a42, a47, a52, _⟩ _ => og (call0 (c_quot_guess _ h72) ⟨⟨_, (a28.trans rfl), rn_id if_u32⟩, ⟨_, (a35.trans rfl), rn_id if_u32⟩, ⟨_, (a42.trans rfl), rn_id if_u32⟩, ⟨_, (a47.trans rfl), rn_id if_u32⟩, ⟨_, (a52.trans rfl), rn_id if_u32⟩, trivial⟩ (if_u32) rfl), fun st mm ⟨a53, _⟩ _ => og (asg rfl (a53.trans rfl)), trivial⟩ ?_
      refine pnm ?_
      refine sjq (fun (s79 : (List Nat) × Nat) => [(0, .own 0), (1, sli 1 (List.map u32 x1)), (4, sli 1 (List.map u32 ([] : List Nat))), (5, i64 (x1.length : Int)), (6, .own 100), (7, i64 s60.2.2), (8, u32 s79.2)]) (fun (s79 : (List Nat) × Nat) => [(0, .sl 139 1 (List.map u32 s79.1)), (100, .sl 139 1 (List.map u32 s60.2.1))]) ?_ ?_
      · intro j77 hj78
        refine sseq ?_
        refine sreg ?_
        refine s1 (mv rfl rfl) ?_
        refine s1 (mv rfl rfl) ?_
        refine s1 (mv rfl rfl) ?_
        refine s1 (mv rfl rfl) ?_
        refine bd fun r80 h81 => ?_
        refine so (callG (em := [(0, .sl 139 1 (List.map u32 r80.2))]) (res' := bl r80.1) [(0, 0)] [] [(0, 0)] (c_quot_take _ h81) ⟨⟨_, rfl, rn_own rfl⟩, ⟨_, rfl, rn_id if_i64⟩, ⟨_, rfl, rn_id if_sli⟩, ⟨_, rfl, rn_id if_u32⟩, trivial⟩ (MiF.get (mi := [(0, _)]) ⟨⟨_, _, rfl, rfl, rc_sl (ifs_map (f := u32) (fun _ => if_u32) s60.1)⟩, trivial⟩) ⟨⟨_, rfl⟩, trivial⟩ rfl trivial ⟨.inr rfl, trivial⟩ rfl ⟨.inl ⟨_, _, rfl, rfl, rc_sl (ifs_map (f := u32) (fun _ => if_u32) r80.2)⟩, trivial⟩ ⟨⟨_, rfl⟩, trivial⟩ trivial (rn_id if_bl) rfl) ?_
        refine snil ?_
        refine pnm ?_
        refine scond rfl ?_ ?_
        · refine sseq ?_
          refine sreg ?_
          refine s1 (mv rfl rfl) ?_
          refine s1 (subU uk32 rfl rfl (k32 (x := 1) rfl)) ?_
          refine s1 (asg rfl rfl) ?_
          refine snil ?_
          refine pnm ?_
          refine sreg ?_
          refine s1 (mv rfl rfl) ?_
          refine s1 (mv rfl rfl) ?_
          refine s1 (mv rfl rfl) ?_
          refine bd fun r82 h83 => ?_
          refine so (callG (em := [(0, .sl 139 1 (List.map u32 r82))]) (res' := .tup []) [(0, 0)] [] [(0, 0)] (c_quot_give _ h83) ⟨⟨_, rfl, rn_own rfl⟩, ⟨_, rfl, rn_id if_i64⟩, ⟨_, rfl, rn_id if_sli⟩, trivial⟩ (MiF.get (mi := [(0, _)]) ⟨⟨_, _, rfl, rfl, rc_sl (ifs_map (f := u32) (fun _ => if_u32) r80.2)⟩, trivial⟩) ⟨⟨_, rfl⟩, trivial⟩ rfl trivial ⟨.inr rfl, trivial⟩ rfl ⟨.inl ⟨_, _, rfl, rfl, rc_sl (ifs_map (f := u32) (fun _ => if_u32) r82)⟩, trivial⟩ ⟨⟨_, rfl⟩, trivial⟩ trivial (rn_tup (rns_nil)) rfl) ?_
          refine snil ?_
          refine pnm ?_
          exact sj (hj78 _) (entR [(0, 0), (100, 100)] rfl (keepS hγ ⟨rfl, trivial⟩) ⟨⟨_, rfl⟩, ⟨_, rfl⟩, trivial⟩ ⟨⟨_, _, rfl, rfl, rci (rc_sl (ifs_map (f := u32) (fun _ => if_u32) r82))⟩, ⟨_, _, rfl, rfl, rci (rc_sl (ifs_map (f := u32) (fun _ => if_u32) s60.2.1))⟩, trivial⟩ ⟨⟨_, rfl, rn_own rfl⟩, ⟨_, rfl, rn_id if_sli⟩, ⟨_, rfl, rn_id if_sli⟩, ⟨_, rfl, rn_id if_i64⟩, ⟨_, rfl, rn_own rfl⟩, ⟨_, rfl, rn_id if_i64⟩, ⟨_, rfl, rn_id if_u32⟩, trivial⟩)
        · refine sskip ?_
          refine pnm ?_
          exact sj (hj78 _) (entR [(0, 0), (100, 100)] rfl (keepS hγ ⟨rfl, trivial⟩) ⟨⟨_, rfl⟩, ⟨_, rfl⟩, trivial⟩ ⟨⟨_, _, rfl, rfl, rci (rc_sl (ifs_map (f := u32) (fun _ => if_u32) r80.2))⟩, ⟨_, _, rfl, rfl, rci (rc_sl (ifs_map (f := u32) (fun _ => if_u32) s60.2.1))⟩, trivial⟩ ⟨⟨_, rfl, rn_own rfl⟩, ⟨_, rfl, rn_id if_sli⟩, ⟨_, rfl, rn_id if_sli⟩, ⟨_, rfl, rn_id if_i64⟩, ⟨_, rfl, rn_own rfl⟩, ⟨_, rfl, rn_id if_i64⟩, ⟨_, rfl, rn_id if_u32⟩, trivial⟩)
      · intro s79
        refine sreg ?_
        refine s1 (mv rfl rfl) ?_
        refine s1 (mv rfl rfl) ?_
        refine s1 (mv rfl rfl) ?_
        refine bd fun y84 h85 => ?_
        refine s1 (ixO (f := u32) rfl Tryd.underlying53 ti_139 h85 rfl rfl rfl) ?_
        refine so (stO (f := u32) s79.2 [] rfl (getI_ix h85) (by exact rfl) (by exact rfl) (by exact rfl) (by exact rfl) sh_139 (by exact rfl) (by exact rfl) (by exact rfl) rfl rfl) ?_
        refine snil ?_
        refine pbn ?_
        refine pnm ?_
        refine sreg ?_
        refine s1 (mv rfl rfl) ?_
        refine s1 (subI rfl rfl (kI (x := 1) rfl)) ?_
        refine s1 (asg rfl rfl) ?_
        refine snil ?_
        exact sgo (entR [(0, 0), (100, 100)] rfl (keepS hγ ⟨rfl, trivial⟩) ⟨⟨_, rfl⟩, ⟨_, rfl⟩, trivial⟩ ⟨⟨_, _, rfl, rfl, rci (rc_sl (ifs_map (f := u32) (fun _ => if_u32) s79.1))⟩, ⟨_, _, rfl, rfl, rci (rc_sl (ifs_map (f := u32) (fun _ => if_u32) (List.set s60.2.1 (Int.toNat s60.2.2) s79.2)))⟩, trivial⟩ ⟨⟨_, rfl, rn_own rfl⟩, ⟨_, rfl, rn_id if_sli⟩, ⟨_, rfl, rn_id if_sli⟩, ⟨_, rfl, rn_id if_i64⟩, ⟨_, rfl, rn_own rfl⟩, ⟨_, rfl, rn_id if_i64⟩, trivial⟩)
    · refine sexit ?_
      refine ptx ?_
      exact sout (fun h => by cases h) (sj (hj59 _) (entR [(0, 0), (100, 100)] rfl (keepS hγ ⟨rfl, trivial⟩) ⟨⟨_, rfl⟩, ⟨_, rfl⟩, trivial⟩ ⟨⟨_, _, rfl, rfl, rci (rc_sl (ifs_map (f := u32) (fun _ => if_u32) s60.1))⟩, ⟨_, _, rfl, rfl, rci (rc_sl (ifs_map (f := u32) (fun _ => if_u32) s60.2.1))⟩, trivial⟩ ⟨⟨_, rfl, rn_id if_sli⟩, ⟨_, rfl, rn_own rfl⟩, trivial⟩))
  · intro t58
    refine sx ?_
    refine pnm ?_
    refine sseq ?_
    refine sreg ?_
    refine s1 (mv rfl rfl) ?_
    refine s1 (asg rfl rfl) ?_
    refine snil ?_
    refine pnm ?_
    refine sret ?_
    refine frz (id := 100) [(4, sli 1 (List.map u32 t58.2)), (6, sli 1 (List.map u32 t58.2)), (69, sli 1 (List.map u32 t58.2))] [] rfl (ifs_map (f := u32) (fun _ => if_u32) t58.2) ⟨⟨_, rfl, fz_own⟩, ⟨_, rfl, fz_own⟩, ⟨_, rfl, fz_own⟩, trivial⟩ trivial ?_
    exact ret [(0, 0)] [.tmp 4] [_] [_] .ret hγ (.inl rfl) rfl ⟨rfl, trivial⟩ rfl ⟨rfl, trivial⟩ ⟨⟨_, rfl⟩, trivial⟩ ⟨⟨_, _, rfl, rfl, rci (rc_sl (ifs_map (f := u32) (fun _ => if_u32) t58.1))⟩, trivial⟩ (rns_cons (rn_id if_sli) (rns_nil)) rfl
theorem c_twos_Down {n : Nat} {x0 : (List Nat)} {x1 : Int} : ∀ r, m_twos_Down n x0 x1 = some r → FnOk Tryd.prog 153 [sli 1 (List.map u32 x0), i64 x1] [] (sli 1 (List.map u32 r)) [] := by
  unfold m_twos_Down
  refine fn_of_sq (res := fun (r : (List Nat)) => sli 1 (List.map u32 r)) (mo := fun (r : (List Nat)) => []) Tryd.func153 rfl rfl (by kernel_rfl) rfl ?_
  intro w S0 γ hγ
  refine sseq ?_
  refine sreg ?_
  refine s1 (asg rfl (kLm (k := 1) u32)) ?_
  refine snil ?_
  refine pnm ?_
  refine sseq ?_
  refine sreg ?_
  refine s1 (mv rfl rfl) ?_
  refine s1 (maxI rfl rfl (kI (x := 0) rfl)) ?_
  refine s1 (asg rfl rfl) ?_
  refine snil ?_
  refine pnm ?_
  refine sseq ?_
  refine sreg ?_
  refine s1 (mv rfl rfl) ?_
  refine s1 (quoI rfl rfl rfl (kI (x := 32) rfl)) ?_
  refine s1 (mv rfl rfl) ?_
  refine s1 (remI rfl rfl rfl (kI (x := 32) rfl)) ?_
  refine s1 (asg rfl rfl) ?_
  refine s1 (asg rfl rfl) ?_
  refine snil ?_
  refine pnm ?_
  refine sseq ?_
  refine sseq ?_
  refine sreg ?_
  refine s1 (mv rfl rfl) ?_
  refine s1 (mv rfl rfl) ?_
  refine s1 (lenL (f := u32) Tryd.underlying53 rfl rfl) ?_
  refine s1 (geI rfl rfl rfl) ?_
  refine sbn (F := bl) 19 rfl fun z1 => ?_
  refine snil ?_
  refine pnm ?_
  refine scond rfl ?_ ?_
  · refine sseq ?_
    refine sreg ?_
    refine s1 (asg rfl (kLm (k := 1) u32)) ?_
    refine snil ?_
    refine pnm ?_
    refine sret ?_
    refine pth ?_
    exact ret [] [.tmp 4] [_] [_] .ret hγ (.inl rfl) rfl ⟨rfl, trivial⟩ rfl trivial trivial trivial (rns_cons (rn_id if_sli) (rns_nil)) rfl
  · refine sskip ?_
    refine pnm ?_
    refine sseq ?_
    refine sreg ?_
    refine s1 (mv rfl rfl) ?_
    refine s1 (lenL (f := u32) Tryd.underlying53 rfl rfl) ?_
    refine s1 (mv rfl rfl) ?_
    refine s1 (subI rfl rfl rfl) ?_
    refine sbn (F := i64) 23 rfl fun z2 => ?_
    refine bd fun y3 h4 => ?_
    refine so (mks (y := 100) (f := u32) h4 Tryd.underlying53 ti_139 zr_u32 rfl rfl rfl rfl rfl rfl) ?_
    refine s1 (asg rfl rfl) ?_
    refine snil ?_
    refine pnm ?_
    refine sseq ?_
    refine sseq ?_
    refine sreg ?_
    refine s1 (mv rfl rfl) ?_
    refine s1 (lenO (f := u32) Tryd.underlying53 rfl rfl rfl) ?_
    refine s1 (mv rfl (kI (x := 0) rfl)) ?_
    refine snil ?_
    refine pnm ?_
    refine sblk ?_
    refine srangeN (fun (s48 : (List Nat)) => [(0, sli 1 (List.map u32 x0)), (4, sli 1 (List.map u32 ([] : List Nat))), (5, i64 (wrap64 (Int.tdiv (max x1 (0 : Int)) (32 : Int)))), (6, i64 (Int.tmod (max x1 (0 : Int)) (32 : Int))), (7, .own 100)]) (fun (s48 : (List Nat)) => [(100, .sl 139 1 (List.map u32 s48))]) rfl (fun _ => rfl) (entR [(100, 100)] rfl (keepS hγ trivial) ⟨⟨_, rfl⟩, trivial⟩ ⟨⟨_, _, rfl, rfl, rci (rc_sl (ifs_map (f := u32) (fun _ => if_u32) y3))⟩, trivial⟩ ⟨⟨_, rfl, rn_id if_i64⟩, ⟨_, rfl, rn_id if_i64⟩, ⟨_, rfl, rn_id if_sli⟩, ⟨_, rfl, rn_id if_sli⟩, ⟨_, rfl, rn_id if_i64⟩, ⟨_, rfl, rn_id if_i64⟩, ⟨_, rfl, rn_own rfl⟩, trivial⟩) ?_ ?_
    · intro i49 x50 s48 hx51
      refine sblk ?_
      refine sseq ?_
      refine sreg ?_
      refine s1 (mv rfl rfl) ?_
      refine s1 (asg rfl rfl) ?_
      refine snil ?_
      refine pnm ?_
      refine sseq ?_
      refine sreg ?_
      refine s1 (mv rfl rfl) ?_
      refine s1 (mv rfl rfl) ?_
      refine s1 (mv rfl rfl) ?_
      refine s1 (addI rfl rfl rfl) ?_
      refine sbn (F := i64) 33 rfl fun z52 => ?_
      refine bd fun y53 h54 => ?_
      refine s1 (ixR (f := u32) Tryd.underlying53 ti_139 h54 rfl rfl rfl) ?_
      refine s1 (ldR sh_139 (by exact rfl) (by exact rfl) rfl rfl) ?_
      refine s1 (cvUw uk64 uk32 rfl Tryd.underlying139 Tryd.underlying119 rfl rfl) ?_
      refine s1 (asg rfl rfl) ?_
      refine snil ?_
      refine pnm ?_
      refine sjq (fun (s61 : Nat) => [(0, sli 1 (List.map u32 x0)), (4, sli 1 (List.map u32 ([] : List Nat))), (5, i64 (wrap64 (Int.tdiv (max x1 (0 : Int)) (32 : Int)))), (6, i64 (Int.tmod (max x1 (0 : Int)) (32 : Int))), (7, .own 100), (8, i64 (i49 : Int)), (9, u64 s61), (26, i64 (y3.length : Int)), (27, i64 (i49 : Int))]) (fun (s61 : Nat) => [(100, .sl 139 1 (List.map u32 s48))]) ?_ ?_
      · intro j59 hj60
        refine sseq ?_
        refine sreg ?_
        refine s1 (mv rfl rfl) ?_
        refine s1 (mv rfl rfl) ?_
        refine s1 (addI rfl rfl rfl) ?_
        refine sbn (F := i64) 39 rfl fun z62 => ?_
        refine s1 (addI rfl rfl (kI (x := 1) rfl)) ?_
        refine s1 (mv rfl rfl) ?_
        refine s1 (lenL (f := u32) Tryd.underlying53 rfl rfl) ?_
        refine s1 (ltI rfl rfl rfl) ?_
        refine snil ?_
        refine pnm ?_
        refine scond rfl ?_ ?_
        · refine sreg ?_
          refine s1 (mv rfl rfl) ?_
          refine s1 (mv rfl rfl) ?_
          refine s1 (mv rfl rfl) ?_
          refine s1 (mv rfl rfl) ?_
          refine s1 (addI rfl rfl rfl) ?_
          refine sbn (F := i64) 48 rfl fun z63 => ?_
          refine s1 (addI rfl rfl (kI (x := 1) rfl)) ?_
          refine bd fun y64 h65 => ?_
          refine s1 (ixR (f := u32) Tryd.underlying53 ti_139 h65 rfl rfl rfl) ?_
          refine s1 (ldR sh_139 (by exact rfl) (by exact rfl) rfl rfl) ?_
          refine s1 (cvUw uk64 uk32 rfl Tryd.underlying139 Tryd.underlying119 rfl rfl) ?_
          refine s1 (shlU uk64 rfl rfl rfl (k64 (x := 32) rfl)) ?_
          refine s1 (orU uk64 rfl rfl rfl) ?_
          refine s1 (asg rfl rfl) ?_
          refine snil ?_
          refine pnm ?_
          exact sj (hj60 _) (entR [(100, 100)] rfl (keepS hγ trivial) ⟨⟨_, rfl⟩, trivial⟩ ⟨⟨_, _, rfl, rfl, rci (rc_sl (ifs_map (f := u32) (fun _ => if_u32) s48))⟩, trivial⟩ ⟨⟨_, rfl, rn_id if_sli⟩, ⟨_, rfl, rn_id if_sli⟩, ⟨_, rfl, rn_id if_i64⟩, ⟨_, rfl, rn_id if_i64⟩, ⟨_, rfl, rn_own rfl⟩, ⟨_, rfl, rn_id if_i64⟩, ⟨_, rfl, rn_id if_u64⟩, ⟨_, rfl, rn_id if_i64⟩, ⟨_, rfl, rn_id if_i64⟩, trivial⟩)
        · refine sskip ?_
          refine pnm ?_
          exact sj (hj60 _) (entR [(100, 100)] rfl (keepS hγ trivial) ⟨⟨_, rfl⟩, trivial⟩ ⟨⟨_, _, rfl, rfl, rci (rc_sl (ifs_map (f := u32) (fun _ => if_u32) s48))⟩, trivial⟩ ⟨⟨_, rfl, rn_id if_sli⟩, ⟨_, rfl, rn_id if_sli⟩, ⟨_, rfl, rn_id if_i64⟩, ⟨_, rfl, rn_id if_i64⟩, ⟨_, rfl, rn_own rfl⟩, ⟨_, rfl, rn_id if_i64⟩, ⟨_, rfl, rn_id if_u64⟩, ⟨_, rfl, rn_id if_i64⟩, ⟨_, rfl, rn_id if_i64⟩, trivial⟩)
      · intro s61
        refine sreg ?_
        refine s1 (mv rfl rfl) ?_
        refine s1 (mv rfl rfl) ?_
        refine s1 (mv rfl rfl) ?_
        refine s1 (mv rfl rfl) ?_
        refine bd fun _ h66 => ?_
        refine s1 (shrU uk64 (ge0 h66) rfl rfl rfl) ?_
        refine sbn (F := u64) 59 rfl fun z67 => ?_
        refine s1 (cvU uk32 Tryd.underlying119 Tryd.underlying139 rfl rfl) ?_
        refine bd fun y68 h69 => ?_
        refine s1 (ixO (f := u32) rfl Tryd.underlying53 ti_139 h69 rfl rfl rfl) ?_
        refine so (stO (f := u32) (z67 % 4294967296) [] rfl (getI_ix h69) (by exact rfl) (by exact rfl) (by exact rfl) (by exact rfl) sh_139 (by exact rfl) (by exact rfl) (by exact rfl) rfl rfl) ?_
        refine snil ?_
        refine pbn ?_
        exact sgo (entR [(100, 100)] rfl (keepS hγ trivial) ⟨⟨_, rfl⟩, trivial⟩ ⟨⟨_, _, rfl, rfl, rci (rc_sl (ifs_map (f := u32) (fun _ => if_u32) (List.set s48 (Int.toNat (i49 : Int)) (z67 % 4294967296))))⟩, trivial⟩ ⟨⟨_, rfl, rn_id if_i64⟩, ⟨_, rfl, rn_id if_i64⟩, ⟨_, rfl, rn_id if_sli⟩, ⟨_, rfl, rn_id if_sli⟩, ⟨_, rfl, rn_id if_i64⟩, ⟨_, rfl, rn_id if_i64⟩, ⟨_, rfl, rn_own rfl⟩, trivial⟩)
    · intro s70
      refine sx ?_
      refine pnm ?_
      refine sseq ?_
      refine sreg ?_
      refine s1 (mv rfl rfl) ?_
      refine bd fun r71 h72 => ?_
      refine so (callL (em := [(101, .sl 139 1 (List.map u32 r71))]) (res' := .own 101) [100] [] [(101, 50)] [(101, 50)] rfl (c_nat_Norm _ h72) ⟨pls_map (f := u32) (fun _ => pl_u32) _, trivial⟩ (pl_own) ⟨.inr ⟨100, rfl, .inl ⟨rfl, .inl ⟨_, _, _, rfl, ifs_map (f := u32) (fun _ => if_u32) s70, rfl⟩⟩⟩, trivial⟩ (MiF.get (mi := []) trivial) trivial rfl ⟨rfl, trivial⟩ ⟨.inl rfl, trivial⟩ rfl ⟨.inl ⟨_, _, rfl, rfl, rc_sl (ifs_map (f := u32) (fun _ => if_u32) r71)⟩, trivial⟩ trivial ⟨⟨_, rfl⟩, trivial⟩ (rn_own rfl) rfl) ?_
      refine s1 (asg rfl rfl) ?_
      refine snil ?_
      refine pnm ?_
      refine sret ?_
      refine frz (id := 101) [(4, sli 1 (List.map u32 r71)), (64, sli 1 (List.map u32 r71))] [] rfl (ifs_map (f := u32) (fun _ => if_u32) r71) ⟨⟨_, rfl, fz_own⟩, ⟨_, rfl, fz_own⟩, trivial⟩ trivial ?_
      exact ret [] [.tmp 4] [_] [_] .ret hγ (.inl rfl) rfl ⟨rfl, trivial⟩ rfl trivial trivial trivial (rns_cons (rn_id if_sli) (rns_nil)) rfl
theorem c_quot_Div {n : Nat} {x0 : (List Nat)} {x1 : (List Nat)} : ∀ r, m_quot_Div n x0 x1 = some r → FnOk Tryd.prog 145 [sli 1 (List.map u32 x0), sli 1 (List.map u32 x1)] [] (.tup [sli 1 (List.map u32 r.1), sli 1 (List.map u32 r.2.1), bl r.2.2]) [] := by
  unfold m_quot_Div
  refine fn_of_sq (res := fun (r : (List Nat) × (List Nat) × Bool) => .tup [sli 1 (List.map u32 r.1), sli 1 (List.map u32 r.2.1), bl r.2.2]) (mo := fun (r : (List Nat) × (List Nat) × Bool) => []) Tryd.func145 rfl rfl (by kernel_rfl) rfl ?_
  intro w S0 γ hγ
  refine sseq ?_
  refine sreg ?_
  refine s1 (asg rfl (kLm (k := 1) u32)) ?_
  refine s1 (asg rfl (kLm (k := 1) u32)) ?_
  refine s1 (asg rfl kB) ?_
  refine snil ?_
  refine pnm ?_
  refine sseq ?_
  refine sreg ?_
  refine s1 (mv rfl rfl) ?_
  refine bd fun r1 h2 => ?_
  refine so (callG (em := [(100, .sl 139 1 (List.map u32 r1))]) (res' := .own 100) [] [(100, 50)] [(100, 50)] (c_nat_Norm _ h2) ⟨⟨_, rfl, rn_id if_sli⟩, trivial⟩ (MiF.get (mi := []) trivial) trivial rfl ⟨rfl, trivial⟩ ⟨.inl rfl, trivial⟩ rfl ⟨.inl ⟨_, _, rfl, rfl, rc_sl (ifs_map (f := u32) (fun _ => if_u32) r1)⟩, trivial⟩ trivial ⟨⟨_, rfl⟩, trivial⟩ (rn_own rfl) rfl) ?_
  refine s1 (asg rfl rfl) ?_
  refine snil ?_
  refine pnm ?_
  refine sseq ?_
  refine sblk ?_
  refine sseq ?_
  refine sreg ?_
  refine s1 (mv rfl rfl) ?_
  refine s1 (lenO (f := u32) Tryd.underlying53 rfl rfl rfl) ?_
  refine s1 (eqI rfl rfl (kI (x := 0) rfl)) ?_
  refine s1 (asg rfl rfl) ?_
  refine snil ?_
  refine pnm ?_
  refine scond rfl ?_ ?_
  · refine sseq ?_
    refine sreg ?_
    refine s1 (asg rfl (kLm (k := 1) u32)) ?_
    refine s1 (asg rfl (kLm (k := 1) u32)) ?_
    refine s1 (asg rfl kB) ?_
    refine snil ?_
    refine pnm ?_
    refine sret ?_
    refine pbl ?_
    refine pth ?_
    exact ret [] [.tmp 4, .tmp 5, .tmp 6] [_, _, _] [_, _, _] .ret hγ (.inl rfl) rfl ⟨rfl, rfl, rfl, trivial⟩ rfl trivial trivial trivial (rns_cons (rn_id if_sli) (rns_cons (rn_id if_sli) (rns_cons (rn_id if_bl) (rns_nil)))) rfl
  · refine sseq ?_
    refine sreg ?_
    refine s1 (mv rfl rfl) ?_
    refine s1 (mv rfl rfl) ?_
    refine bd fun r3 h4 => ?_
    refine s1 (callL (em := []) [100] [] [] [] rfl (c_nat_Cmp _ h4) trivial (pl_i64) ⟨.inl ⟨_, rfl, rn_id if_sli⟩, .inr ⟨100, rfl, .inl ⟨rfl, .inl ⟨_, _, _, rfl, ifs_map (f := u32) (fun _ => if_u32) r1, rfl⟩⟩⟩, trivial⟩ (fun _ _ h => by cases h) trivial rfl trivial trivial rfl trivial trivial trivial (rn_id (if_i64)) rfl) ?_
    refine s1 (ltI rfl rfl (kI (x := 0) rfl)) ?_
    refine s1 (asg rfl rfl) ?_
    refine snil ?_
    refine pnm ?_
    refine scond rfl ?_ ?_
    · refine sseq ?_
      refine sreg ?_
      refine s1 (mv rfl rfl) ?_
      refine bd fun r5 h6 => ?_
      refine so (callG (em := [(101, .sl 139 1 (List.map u32 r5))]) (res' := .own 101) [] [(101, 50)] [(101, 50)] (c_nat_Norm _ h6) ⟨⟨_, rfl, rn_id if_sli⟩, trivial⟩ (MiF.get (mi := []) trivial) trivial rfl ⟨rfl, trivial⟩ ⟨.inl rfl, trivial⟩ rfl ⟨.inl ⟨_, _, rfl, rfl, rc_sl (ifs_map (f := u32) (fun _ => if_u32) r5)⟩, trivial⟩ trivial ⟨⟨_, rfl⟩, trivial⟩ (rn_own rfl) rfl) ?_
      refine s1 (asg rfl (kLm (k := 1) u32)) ?_
      refine s1 (asg rfl rfl) ?_
      refine s1 (asg rfl kB) ?_
      refine snil ?_
      refine pnm ?_
      refine sret ?_
      refine pbl ?_
      refine pth ?_
      refine frz (id := 101) [(5, sli 1 (List.map u32 r5)), (24, sli 1 (List.map u32 r5))] [] rfl (ifs_map (f := u32) (fun _ => if_u32) r5) ⟨⟨_, rfl, fz_own⟩, ⟨_, rfl, fz_own⟩, trivial⟩ trivial ?_
      exact ret [] [.tmp 4, .tmp 5, .tmp 6] [_, _, _] [_, _, _] .ret hγ (.inl rfl) rfl ⟨rfl, rfl, rfl, trivial⟩ rfl trivial trivial trivial (rns_cons (rn_id if_sli) (rns_cons (rn_id if_sli) (rns_cons (rn_id if_bl) (rns_nil)))) rfl
    · refine sseq ?_
      refine sreg ?_
      refine s1 (mv rfl rfl) ?_
      refine s1 (lenO (f := u32) Tryd.underlying53 rfl rfl rfl) ?_
      refine s1 (eqI rfl rfl (kI (x := 1) rfl)) ?_
      refine s1 (asg rfl rfl) ?_
      refine snil ?_
      refine pnm ?_
      refine scond rfl ?_ ?_
      · refine sseq ?_
        refine sreg ?_
        refine s1 (mv rfl rfl) ?_
        refine s1 (mv rfl rfl) ?_
        refine bd fun y7 h8 => ?_
        refine s1 (ixO (f := u32) rfl Tryd.underlying53 ti_139 h8 rfl rfl (kI (x := 0) rfl)) ?_
        refine s1 (ldO (f := u32) [] rfl (getI_ix h8) (by exact rfl) (by exact rfl) sh_139 (by exact rfl) (by exact rfl) rfl rfl) ?_
        refine bd fun r9 h10 => ?_
        refine s1 (call0 (c_quot_Word _ h10) ⟨⟨_, rfl, rn_id if_sli⟩, ⟨_, rfl, rn_id if_u32⟩, trivial⟩ (if_tup (ifs_cons if_sli (ifs_cons if_u32 (ifs_cons if_bl (ifs_nil))))) rfl) ?_
        refine s1 (mv rfl rfl) ?_
        refine s1 (ext (by exact rfl) rfl rfl) ?_
        refine s1 (ext (by exact rfl) rfl rfl) ?_
        refine s1 (ext (by exact rfl) rfl rfl) ?_
        refine s1 (asg rfl rfl) ?_
        refine s1 (asg rfl rfl) ?_
        refine s1 (asg rfl rfl) ?_
        refine snil ?_
        refine pnm ?_
        refine sseq ?_
        refine sreg ?_
        refine s1 (mv rfl rfl) ?_
        refine s1 (mv rfl rfl) ?_
        refine s1 (cvUw uk64 uk32 rfl Tryd.underlying139 Tryd.underlying119 rfl rfl) ?_
        refine bd fun r11 h12 => ?_
        refine s1 (call0 (c_nat_Of _ h12) ⟨⟨_, rfl, rn_id if_u64⟩, trivial⟩ (if_sli) rfl) ?_
        refine s1 (asg rfl rfl) ?_
        refine s1 (asg rfl rfl) ?_
        refine s1 (asg rfl kB) ?_
        refine snil ?_
        refine pnm ?_
        refine sret ?_
        refine pbl ?_
        refine pth ?_
        exact ret [] [.tmp 4, .tmp 5, .tmp 6] [_, _, _] [_, _, _] .ret hγ (.inl rfl) rfl ⟨rfl, rfl, rfl, trivial⟩ rfl trivial trivial trivial (rns_cons (rn_id if_sli) (rns_cons (rn_id if_sli) (rns_cons (rn_id if_bl) (rns_nil)))) rfl
      · refine sskip ?_
        refine pbn ?_
        refine pnm ?_
        refine sseq ?_
        refine sreg ?_
        refine s1 (mv rfl rfl) ?_
        refine s1 (mv rfl rfl) ?_
        refine s1 (lenO (f := u32) Tryd.underlying53 rfl rfl rfl) ?_
        refine s1 (subI rfl rfl (kI (x := 1) rfl)) ?_
        refine bd fun y13 h14 => ?_
        refine s1 (ixO (f := u32) rfl Tryd.underlying53 ti_139 h14 rfl rfl rfl) ?_
        refine s1 (ldO (f := u32) [] rfl (getI_ix h14) (by exact rfl) (by exact rfl) sh_139 (by exact rfl) (by exact rfl) rfl rfl) ?_
        refine bd fun r15 h16 => ?_
        refine s1 (call0 (c_limb_Len _ h16) ⟨⟨_, rfl, rn_id if_u32⟩, trivial⟩ (if_i64) rfl) ?_
        refine s1 (subI rfl (kI (x := 32) rfl) rfl) ?_
        refine s1 (asg rfl rfl) ?_
        refine snil ?_
        refine pnm ?_
        refine sseq ?_
        refine sreg ?_
        refine s1 (mv rfl rfl) ?_
        refine s1 (mv rfl rfl) ?_
        refine bd fun r17 h18 => ?_
        refine so (callG (em := [(101, .sl 139 1 (List.map u32 r17))]) (res' := .own 101) [] [(101, 50)] [(101, 50)] (c_twos_Up _ h18) ⟨⟨_, rfl, rn_id if_sli⟩, ⟨_, rfl, rn_id if_i64⟩, trivial⟩ (MiF.get (mi := []) trivial) trivial rfl ⟨rfl, trivial⟩ ⟨.inl rfl, trivial⟩ rfl ⟨.inl ⟨_, _, rfl, rfl, rc_sl (ifs_map (f := u32) (fun _ => if_u32) r17)⟩, trivial⟩ trivial ⟨⟨_, rfl⟩, trivial⟩ (rn_own rfl) rfl) ?_
        refine so (bsl (y := 102) (ls := List.map u32 ([0] : List Nat)) Tryd.underlying53 ti_139 rfl rfl rfl rfl rfl ⟨rfl, (k32 (x := 0) rfl), (by exact rfl), (by exact rfl), trivial⟩ rfl rfl) ?_
        refine bd fun y19 h20 => ?_
        refine so (app (y := 103) (f := u32) h20 rfl Tryd.underlying53 ti_139 rfl rfl rfl rfl (.inr ⟨_, _, rfl, rfl⟩) rfl rfl) ?_
        refine s1 (asg rfl rfl) ?_
        refine snil ?_
        refine pnm ?_
        refine sseq ?_
        refine sreg ?_
        refine s1 (mv rfl rfl) ?_
        refine s1 (mv rfl rfl) ?_
        refine s1 (mv rfl rfl) ?_
        refine bd fun r21 h22 => ?_
        refine so (callL (em := [(104, .sl 139 1 (List.map u32 r21))]) (res' := .own 104) [100] [] [(104, 50)] [(104, 50)] rfl (c_twos_Up _ h22) ⟨pls_map (f := u32) (fun _ => pl_u32) _, trivial⟩ (pl_own) ⟨.inr ⟨100, rfl, .inl ⟨rfl, .inl ⟨_, _, _, rfl, ifs_map (f := u32) (fun _ => if_u32) r1, rfl⟩⟩⟩, .inl ⟨_, rfl, rn_id if_i64⟩, trivial⟩ (MiF.get (mi := []) trivial) trivial rfl ⟨rfl, trivial⟩ ⟨.inl rfl, trivial⟩ rfl ⟨.inl ⟨_, _, rfl, rfl, rc_sl (ifs_map (f := u32) (fun _ => if_u32) r21)⟩, trivial⟩ trivial ⟨⟨_, rfl⟩, trivial⟩ (rn_own rfl) rfl) ?_
        refine frz (id := 104) [(58, sli 1 (List.map u32 r21))] [] rfl (ifs_map (f := u32) (fun _ => if_u32) r21) ⟨⟨_, rfl, fz_own⟩, trivial⟩ trivial ?_
        refine bd fun r23 h24 => ?_
        refine so (callG (em := [(103, .sl 139 1 (List.map u32 r23.2))]) (res' := sli 1 (List.map u32 r23.1)) [(0, 103)] [] [(103, 0)] (c_quot_long _ h24) ⟨⟨_, rfl, rn_own rfl⟩, ⟨_, rfl, rn_id if_sli⟩, trivial⟩ (MiF.get (mi := [(0, _)]) ⟨⟨_, _, rfl, rfl, rc_sl (ifs_map (f := u32) (fun _ => if_u32) y19)⟩, trivial⟩) ⟨⟨_, rfl⟩, trivial⟩ rfl trivial ⟨.inr rfl, trivial⟩ rfl ⟨.inl ⟨_, _, rfl, rfl, rc_sl (ifs_map (f := u32) (fun _ => if_u32) r23.2)⟩, trivial⟩ ⟨⟨_, rfl⟩, trivial⟩ trivial (rn_id if_sli) rfl) ?_
        refine s1 (asg rfl rfl) ?_
        refine snil ?_
        refine pnm ?_
        refine sseq ?_
        refine sreg ?_
        refine s1 (mv rfl rfl) ?_
        refine bd fun r25 h26 => ?_
        refine so (callG (em := [(105, .sl 139 1 (List.map u32 r25))]) (res' := .own 105) [] [(105, 50)] [(105, 50)] (c_nat_Norm _ h26) ⟨⟨_, rfl, rn_id if_sli⟩, trivial⟩ (MiF.get (mi := []) trivial) trivial rfl ⟨rfl, trivial⟩ ⟨.inl rfl, trivial⟩ rfl ⟨.inl ⟨_, _, rfl, rfl, rc_sl (ifs_map (f := u32) (fun _ => if_u32) r25)⟩, trivial⟩ trivial ⟨⟨_, rfl⟩, trivial⟩ (rn_own rfl) rfl) ?_
        refine s1 (mv rfl rfl) ?_
        refine s1 (mv rfl rfl) ?_
        refine frz (id := 103) [(11, sli 1 (List.map u32 r23.2)), (54, sli 1 (List.map u32 r23.2)), (55, sli 1 (List.map u32 r23.2)), (62, sli 1 (List.map u32 r23.2))] [] rfl (ifs_map (f := u32) (fun _ => if_u32) r23.2) ⟨⟨_, rfl, fz_own⟩, ⟨_, rfl, fz_own⟩, ⟨_, rfl, fz_own⟩, ⟨_, rfl, fz_own⟩, trivial⟩ trivial ?_
        refine bd fun r27 h28 => ?_
        refine s1 (call0 (c_twos_Down _ h28) ⟨⟨_, rfl, rn_id if_sli⟩, ⟨_, rfl, rn_id if_i64⟩, trivial⟩ (if_sli) rfl) ?_
        refine s1 (asg rfl rfl) ?_
        refine s1 (asg rfl rfl) ?_
        refine s1 (asg rfl kB) ?_
        refine snil ?_
        refine pnm ?_
        refine sret ?_
        refine frz (id := 105) [(4, sli 1 (List.map u32 r25)), (61, sli 1 (List.map u32 r25))] [] rfl (ifs_map (f := u32) (fun _ => if_u32) r25) ⟨⟨_, rfl, fz_own⟩, ⟨_, rfl, fz_own⟩, trivial⟩ trivial ?_
        exact ret [] [.tmp 4, .tmp 5, .tmp 6] [_, _, _] [_, _, _] .ret hγ (.inl rfl) rfl ⟨rfl, rfl, rfl, trivial⟩ rfl trivial trivial trivial (rns_cons (rn_id if_sli) (rns_cons (rn_id if_sli) (rns_cons (rn_id if_bl) (rns_nil)))) rfl
theorem c_nat_Small {n : Nat} {x0 : (List Nat)} : ∀ r, m_nat_Small n x0 = some r → FnOk Tryd.prog 57 [sli 1 (List.map u32 x0)] [] (.tup [u64 r.1, bl r.2]) [] := by
  unfold m_nat_Small
  refine fn_of_sq (res := fun (r : Nat × Bool) => .tup [u64 r.1, bl r.2]) (mo := fun (r : Nat × Bool) => []) Tryd.func57 rfl rfl (by kernel_rfl) rfl ?_
  intro w S0 γ hγ
  refine sseq ?_
  refine sreg ?_
  refine s1 (asg rfl (k64 (x := 0) rfl)) ?_
  refine s1 (asg rfl kB) ?_
  refine snil ?_
  refine pnm ?_
  refine sseq ?_
  refine sreg ?_
  refine s1 (mv rfl rfl) ?_
  refine bd fun r1 h2 => ?_
  refine s1 (call0 (c_nat_trim _ h2) ⟨⟨_, rfl, rn_id if_sli⟩, trivial⟩ (if_sli) rfl) ?_
  refine s1 (asg rfl rfl) ?_
  refine snil ?_
  refine pnm ?_
  refine sseq ?_
  refine sseq ?_
  refine sreg ?_
  refine s1 (mv rfl rfl) ?_
  refine s1 (lenL (f := u32) Tryd.underlying53 rfl rfl) ?_
  refine s1 (gtI rfl rfl (kI (x := 2) rfl)) ?_
  refine snil ?_
  refine pnm ?_
  refine scond rfl ?_ ?_
  · refine sseq ?_
    refine sreg ?_
    refine s1 (asg rfl (k64 (x := 0) rfl)) ?_
    refine s1 (asg rfl kB) ?_
    refine snil ?_
    refine pnm ?_
    refine sret ?_
    refine pth ?_
    exact ret [] [.tmp 2, .tmp 3] [_, _] [_, _] .ret hγ (.inl rfl) rfl ⟨rfl, rfl, trivial⟩ rfl trivial trivial trivial (rns_cons (rn_id if_u64) (rns_cons (rn_id if_bl) (rns_nil))) rfl
  · refine sskip ?_
    refine pnm ?_
    refine sseq ?_
    refine sreg ?_
    refine s1 (asg rfl (k64 (x := 0) rfl)) ?_
    refine snil ?_
    refine pnm ?_
    refine sseq ?_
    refine sseq ?_
    refine sreg ?_
    refine s1 (mv rfl rfl) ?_
    refine s1 (lenL (f := u32) Tryd.underlying53 rfl rfl) ?_
    refine s1 (mv rfl (kI (x := 0) rfl)) ?_
    refine snil ?_
    refine pnm ?_
    refine sblk ?_
    refine srangeN (fun (s16 : Nat) => [(2, u64 0), (3, bl false), (4, u64 s16), (12, sli 1 (List.map u32 r1))]) (fun (s16 : Nat) => []) rfl (fun _ => rfl) (entI ⟨rfl, rfl, rfl, rfl, rfl, rfl, trivial⟩ eqm0) ?_ ?_
    · intro i17 x18 s16 hx19
      refine sblk ?_
      refine sseq ?_
      refine sreg ?_
      refine s1 (mv rfl rfl) ?_
      refine s1 (ixR (f := u32) Tryd.underlying53 ti_139 (getI_nat hx19) rfl rfl rfl) ?_
      refine s1 (ldR sh_139 (by exact rfl) (by exact rfl) rfl rfl) ?_
      refine s1 (asg rfl rfl) ?_
      refine s1 (asg rfl rfl) ?_
      refine snil ?_
      refine pnm ?_
      refine sreg ?_
      refine s1 (mv rfl rfl) ?_
      refine s1 (mv rfl rfl) ?_
      refine s1 (cvUw uk64 uk32 rfl Tryd.underlying139 Tryd.underlying119 rfl rfl) ?_
      refine s1 (mv rfl rfl) ?_
      refine s1 (mulI rfl (kI (x := 32) rfl) rfl) ?_
      refine bd fun _ h20 => ?_
      refine s1 (shlU uk64 (ge0 h20) rfl rfl rfl) ?_
      refine sbn (F := u64) 24 rfl fun z21 => ?_
      refine s1 (orU uk64 rfl rfl rfl) ?_
      refine s1 (asg rfl rfl) ?_
      refine snil ?_
      refine pbn ?_
      exact sgo (entI ⟨rfl, rfl, rfl, rfl, rfl, rfl, trivial⟩ eqm0)
    · intro s22
      refine sx ?_
      refine pnm ?_
      refine sseq ?_
      refine sreg ?_
      refine s1 (mv rfl rfl) ?_
      refine s1 (asg rfl rfl) ?_
      refine s1 (asg rfl kB) ?_
      refine snil ?_
      refine pnm ?_
      refine sret ?_
      exact ret [] [.tmp 2, .tmp 3] [_, _] [_, _] .ret hγ (.inl rfl) rfl ⟨rfl, rfl, trivial⟩ rfl trivial trivial trivial (rns_cons (rn_id if_u64) (rns_cons (rn_id if_bl) (rns_nil))) rfl
theorem c_common_small {n : Nat} {x0 : Nat} {x1 : Nat} : ∀ r, m_common_small n x0 x1 = some r → FnOk Tryd.prog 149 [u64 x0, u64 x1] [] (u64 r) [] := by
  unfold m_common_small
  refine fn_of_sq (res := fun (r : Nat) => u64 r) (mo := fun (r : Nat) => []) Tryd.func149 rfl rfl (by kernel_rfl) rfl ?_
  intro w S0 γ hγ
  refine sseq ?_
  refine sreg ?_
  refine s1 (asg rfl (k64 (x := 0) rfl)) ?_
  refine snil ?_
  refine pnm ?_
  refine sseq ?_
  refine sblk ?_
  refine sloopE 0 (fun t => t) (fun (s7 : Nat × Nat) => [(0, u64 s7.1), (1, u64 s7.2), (4, u64 0)]) (fun (s7 : Nat × Nat) => []) (fun (t5 : Nat) => [(0, u64 t5), (4, u64 0)]) (fun (t5 : Nat) => []) (entI ⟨rfl, rfl, rfl, trivial⟩ eqm0) ?_ ?_
  · intro hj6 s7
    refine sseq ?_
    refine sseq ?_
    refine sreg ?_
    refine s1 (mv rfl rfl) ?_
    refine s1 (neU .u64 rfl rfl (k64 (x := 0) rfl)) ?_
    refine snil ?_
    refine pnm ?_
    refine scond rfl ?_ ?_
    · refine sskip ?_
      refine pnm ?_
      refine sblk ?_
      refine bd fun _ h8 => ?_
      refine sdraw [⟨[1], [], [(7, u64 s7.2)], []⟩, ⟨[0], [], [(8, u64 s7.1)], []⟩, ⟨[1], [], [(9, u64 s7.2)], []⟩, ⟨[8, 9], [], [(10, u64 (s7.1 % s7.2))], []⟩, ⟨[7], [], [(0, u64 s7.2)], []⟩, ⟨[10], [], [(1, u64 (s7.1 % s7.2))], []⟩] fol (by kernel_rfl) ⟨fun st mm ⟨a1, _⟩ _ => og (mv rfl (a1.trans rfl)), fun st mm ⟨a0, _⟩ _ => og (mv rfl (a0.trans rfl)), fun st mm ⟨a1, _⟩ _ => og (mv rfl (a1.trans rfl)), fun st mm ⟨a8, a9, _⟩ _ => og (remU uk64 (nzU h8) rfl (a8.trans rfl) (a9.trans rfl)), fun st mm ⟨a7, _⟩ _ => og (asg rfl (a7.trans rfl)), fun st mm ⟨a10, _⟩ _ => og (asg rfl (a10.trans rfl)), trivial⟩ ?_
      refine pbn ?_
      exact sgo (entI ⟨rfl, rfl, rfl, trivial⟩ eqm0)
    · refine sexit ?_
      refine ptx ?_
      exact sout (fun h => by cases h) (sj (hj6 _) (entI ⟨rfl, rfl, trivial⟩ eqm0))
  · intro t5
    refine sx ?_
    refine pnm ?_
    refine sseq ?_
    refine sreg ?_
    refine s1 (mv rfl rfl) ?_
    refine s1 (asg rfl rfl) ?_
    refine snil ?_
    refine pnm ?_
    refine sret ?_
    exact ret [] [.tmp 4] [_] [_] .ret hγ (.inl rfl) rfl ⟨rfl, trivial⟩ rfl trivial trivial trivial (rns_cons (rn_id if_u64) (rns_nil)) rfl
theorem c_common_Gcd {n : Nat} {x0 : (List Nat)} {x1 : (List Nat)} : ∀ r, m_common_Gcd n x0 x1 = some r → FnOk Tryd.prog 143 [sli 1 (List.map u32 x0), sli 1 (List.map u32 x1)] [] (sli 1 (List.map u32 r)) [] := by
  unfold m_common_Gcd
  refine fn_of_sq (res := fun (r : (List Nat)) => sli 1 (List.map u32 r)) (mo := fun (r : (List Nat)) => []) Tryd.func143 rfl rfl (by kernel_rfl) rfl ?_
  intro w S0 γ hγ
  refine sseq ?_
  refine sreg ?_
  refine s1 (asg rfl (kLm (k := 1) u32)) ?_
  refine snil ?_
  refine pnm ?_
  refine sseq ?_
  refine sreg ?_
  refine s1 (mv rfl rfl) ?_
  refine bd fun r1 h2 => ?_
  refine so (callG (em := [(100, .sl 139 1 (List.map u32 r1))]) (res' := .own 100) [] [(100, 50)] [(100, 50)] (c_nat_Norm _ h2) ⟨⟨_, rfl, rn_id if_sli⟩, trivial⟩ (MiF.get (mi := []) trivial) trivial rfl ⟨rfl, trivial⟩ ⟨.inl rfl, trivial⟩ rfl ⟨.inl ⟨_, _, rfl, rfl, rc_sl (ifs_map (f := u32) (fun _ => if_u32) r1)⟩, trivial⟩ trivial ⟨⟨_, rfl⟩, trivial⟩ (rn_own rfl) rfl) ?_
  refine s1 (mv rfl rfl) ?_
  refine bd fun r3 h4 => ?_
  refine so (callG (em := [(101, .sl 139 1 (List.map u32 r3))]) (res' := .own 101) [] [(101, 50)] [(101, 50)] (c_nat_Norm _ h4) ⟨⟨_, rfl, rn_id if_sli⟩, trivial⟩ (MiF.get (mi := []) trivial) trivial rfl ⟨rfl, trivial⟩ ⟨.inl rfl, trivial⟩ rfl ⟨.inl ⟨_, _, rfl, rfl, rc_sl (ifs_map (f := u32) (fun _ => if_u32) r3)⟩, trivial⟩ trivial ⟨⟨_, rfl⟩, trivial⟩ (rn_own rfl) rfl) ?_
  refine s1 (asg rfl rfl) ?_
  refine s1 (asg rfl rfl) ?_
  refine snil ?_
  refine pnm ?_
  refine sseq ?_
  refine sblk ?_
  refine frz (id := 100) [(0, sli 1 (List.map u32 r1)), (16, sli 1 (List.map u32 r1))] [] rfl (ifs_map (f := u32) (fun _ => if_u32) r1) ⟨⟨_, rfl, fz_own⟩, ⟨_, rfl, fz_own⟩, trivial⟩ trivial ?_
  refine frz (id := 101) [(1, sli 1 (List.map u32 r3)), (18, sli 1 (List.map u32 r3))] [] rfl (ifs_map (f := u32) (fun _ => if_u32) r3) ⟨⟨_, rfl, fz_own⟩, ⟨_, rfl, fz_own⟩, trivial⟩ trivial ?_
  refine sloopE 0 (fun t => t) (fun (s19 : (List Nat) × (List Nat)) => [(0, sli 1 (List.map u32 s19.1)), (1, sli 1 (List.map u32 s19.2)), (4, sli 1 (List.map u32 ([] : List Nat)))]) (fun (s19 : (List Nat) × (List Nat)) => []) (fun (t17 : (List Nat) × (List Nat)) => [(0, sli 1 (List.map u32 t17.1)), (1, sli 1 (List.map u32 t17.2)), (4, sli 1 (List.map u32 ([] : List Nat)))]) (fun (t17 : (List Nat) × (List Nat)) => []) (entR [] rfl (keepS hγ trivial) (by exact trivial) (by exact trivial) ⟨⟨_, rfl, rn_id if_sli⟩, ⟨_, rfl, rn_id if_sli⟩, ⟨_, rfl, rn_id if_sli⟩, trivial⟩) ?_ ?_
  · intro hj18 s19
    refine sseq ?_
    refine sseq ?_
    refine sreg ?_
    refine s1 (mv rfl rfl) ?_
    refine s1 (lenL (f := u32) Tryd.underlying53 rfl rfl) ?_
    refine s1 (gtI rfl rfl (kI (x := 2) rfl)) ?_
    refine snil ?_
    refine pnm ?_
    refine scond rfl ?_ ?_
    · refine sskip ?_
      refine pnm ?_
      refine sblk ?_
      refine sseq ?_
      refine sreg ?_
      refine s1 (mv rfl rfl) ?_
      refine s1 (mv rfl rfl) ?_
      refine bd fun r20 h21 => ?_
      refine s1 (call0 (c_quot_Div _ h21) ⟨⟨_, rfl, rn_id if_sli⟩, ⟨_, rfl, rn_id if_sli⟩, trivial⟩ (if_tup (ifs_cons if_sli (ifs_cons if_sli (ifs_cons if_bl (ifs_nil))))) rfl) ?_
      refine s1 (mv rfl rfl) ?_
      refine s1 (ext (by exact rfl) rfl rfl) ?_
      refine s1 (ext (by exact rfl) rfl rfl) ?_
      refine s1 (ext (by exact rfl) rfl rfl) ?_
      refine s1 (asg rfl rfl) ?_
      refine s1 (asg rfl rfl) ?_
      refine s1 (asg rfl rfl) ?_
      refine snil ?_
      refine pnm ?_
      refine sreg ?_
      refine s1 (mv rfl rfl) ?_
      refine s1 (mv rfl rfl) ?_
      refine s1 (asg rfl rfl) ?_
      refine s1 (asg rfl rfl) ?_
      refine snil ?_
      refine pbn ?_
      exact sgo (entI ⟨rfl, rfl, rfl, trivial⟩ eqm0)
    · refine sexit ?_
      refine ptx ?_
      exact sout (fun h => by cases h) (sj (hj18 _) (entI ⟨rfl, rfl, rfl, trivial⟩ eqm0))
  · intro t17
    refine sx ?_
    refine pnm ?_
    refine sseq ?_
    refine sseq ?_
    refine sreg ?_
    refine s1 (mv rfl rfl) ?_
    refine s1 (lenL (f := u32) Tryd.underlying53 rfl rfl) ?_
    refine s1 (eqI rfl rfl (kI (x := 0) rfl)) ?_
    refine snil ?_
    refine pnm ?_
    refine scond rfl ?_ ?_
    · refine sseq ?_
      refine sreg ?_
      refine s1 (mv rfl rfl) ?_
      refine s1 (asg rfl rfl) ?_
      refine snil ?_
      refine pnm ?_
      refine sret ?_
      refine pth ?_
      exact ret [] [.tmp 4] [_] [_] .ret hγ (.inl rfl) rfl ⟨rfl, trivial⟩ rfl trivial trivial trivial (rns_cons (rn_id if_sli) (rns_nil)) rfl
    · refine sskip ?_
      refine pnm ?_
      refine sseq ?_
      refine sreg ?_
      refine s1 (mv rfl rfl) ?_
      refine s1 (mv rfl rfl) ?_
      refine bd fun r22 h23 => ?_
      refine s1 (call0 (c_quot_Div _ h23) ⟨⟨_, rfl, rn_id if_sli⟩, ⟨_, rfl, rn_id if_sli⟩, trivial⟩ (if_tup (ifs_cons if_sli (ifs_cons if_sli (ifs_cons if_bl (ifs_nil))))) rfl) ?_
      refine s1 (mv rfl rfl) ?_
      refine s1 (ext (by exact rfl) rfl rfl) ?_
      refine s1 (ext (by exact rfl) rfl rfl) ?_
      refine s1 (ext (by exact rfl) rfl rfl) ?_
      refine s1 (asg rfl rfl) ?_
      refine s1 (asg rfl rfl) ?_
      refine s1 (asg rfl rfl) ?_
      refine snil ?_
      refine pnm ?_
      refine sseq ?_
      refine sreg ?_
      refine s1 (mv rfl rfl) ?_
      refine bd fun r24 h25 => ?_
      refine s1 (call0 (c_nat_Small _ h25) ⟨⟨_, rfl, rn_id if_sli⟩, trivial⟩ (if_tup (ifs_cons if_u64 (ifs_cons if_bl (ifs_nil)))) rfl) ?_
      refine s1 (mv rfl rfl) ?_
      refine s1 (ext (by exact rfl) rfl rfl) ?_
      refine s1 (ext (by exact rfl) rfl rfl) ?_
      refine s1 (asg rfl rfl) ?_
      refine s1 (asg rfl rfl) ?_
      refine snil ?_
      refine pnm ?_
      refine sseq ?_
      refine sreg ?_
      refine s1 (mv rfl rfl) ?_
      refine bd fun r26 h27 => ?_
      refine s1 (call0 (c_nat_Small _ h27) ⟨⟨_, rfl, rn_id if_sli⟩, trivial⟩ (if_tup (ifs_cons if_u64 (ifs_cons if_bl (ifs_nil)))) rfl) ?_
      refine s1 (mv rfl rfl) ?_
      refine s1 (ext (by exact rfl) rfl rfl) ?_
      refine s1 (ext (by exact rfl) rfl rfl) ?_
      refine s1 (asg rfl rfl) ?_
      refine s1 (asg rfl rfl) ?_
      refine snil ?_
      refine pnm ?_
      refine sseq ?_
      refine sreg ?_
      refine s1 (mv rfl rfl) ?_
      refine s1 (mv rfl rfl) ?_
      refine bd fun r28 h29 => ?_
      refine s1 (call0 (c_common_small _ h29) ⟨⟨_, rfl, rn_id if_u64⟩, ⟨_, rfl, rn_id if_u64⟩, trivial⟩ (if_u64) rfl) ?_
      refine bd fun r30 h31 => ?_
      refine s1 (call0 (c_nat_Of _ h31) ⟨⟨_, rfl, rn_id if_u64⟩, trivial⟩ (if_sli) rfl) ?_
      refine s1 (asg rfl rfl) ?_
      refine snil ?_
      refine pnm ?_
      refine sret ?_
      exact ret [] [.tmp 4] [_] [_] .ret hγ (.inl rfl) rfl ⟨rfl, trivial⟩ rfl trivial trivial trivial (rns_cons (rn_id if_sli) (rns_nil)) rfl
theorem c_common_one {x0 : (List Nat)} : ∀ r, m_common_one x0 = some r → FnOk Tryd.prog 144 [sli 1 (List.map u32 x0)] [] (bl r) [] := by
  unfold m_common_one
  refine fn_of_sq (res := fun (r : Bool) => bl r) (mo := fun (r : Bool) => []) Tryd.func144 rfl rfl (by kernel_rfl) rfl ?_
  intro w S0 γ hγ
  refine sseq ?_
  refine sreg ?_
  refine s1 (asg rfl kB) ?_
  refine snil ?_
  refine pnm ?_
  refine sjq (fun (s5 : Bool) => [(2, bl s5)]) (fun (s5 : Bool) => []) ?_ ?_
  · intro j3 hj4
    refine sreg ?_
    refine s1 (mv rfl rfl) ?_
    refine s1 (lenL (f := u32) Tryd.underlying53 rfl rfl) ?_
    refine s1 (eqI rfl rfl (kI (x := 1) rfl)) ?_
    refine s1 (mv rfl rfl) ?_
    refine sifd 6 rfl ?_ ?_
    · refine sg 6 rfl rfl (mv rfl rfl) ?_
      refine bd fun y6 h7 => ?_
      refine sg 6 rfl rfl (ixR (f := u32) Tryd.underlying53 ti_139 h7 rfl rfl (kI (x := 0) rfl)) ?_
      refine sg 6 rfl rfl (ldR sh_139 (by exact rfl) (by exact rfl) rfl rfl) ?_
      refine sg 6 rfl rfl (eqU .u32 rfl rfl (k32 (x := 1) rfl)) ?_
      refine s1 (pickT rfl rfl rfl) ?_
      refine s1 (asg rfl rfl) ?_
      refine snil ?_
      refine pnm ?_
      exact sj (hj4 _) (entI ⟨rfl, trivial⟩ eqm0)
    · refine spB 6 rfl rfl rfl ?_
      refine spB 6 rfl rfl rfl ?_
      refine spB 6 rfl rfl rfl ?_
      refine spB 6 rfl rfl rfl ?_
      refine s1 (pickF rfl rfl kB) ?_
      refine s1 (asg rfl rfl) ?_
      refine snil ?_
      refine pnm ?_
      exact sj (hj4 _) (entI ⟨rfl, trivial⟩ eqm0)
  · intro s5
    refine sret ?_
    exact ret [] [.tmp 2] [_] [_] .ret hγ (.inl rfl) rfl ⟨rfl, trivial⟩ rfl trivial trivial trivial (rns_cons (rn_id if_bl) (rns_nil)) rfl
theorem c_common_Cancel {n : Nat} {x0 : (List Nat)} {x1 : (List Nat)} : ∀ r, m_common_Cancel n x0 x1 = some r → FnOk Tryd.prog 138 [sli 1 (List.map u32 x0), sli 1 (List.map u32 x1)] [] (.tup [sli 1 (List.map u32 r.1), sli 1 (List.map u32 r.2)]) [] := by
  unfold m_common_Cancel
  refine fn_of_sq (res := fun (r : (List Nat) × (List Nat)) => .tup [sli 1 (List.map u32 r.1), sli 1 (List.map u32 r.2)]) (mo := fun (r : (List Nat) × (List Nat)) => []) Tryd.func138 rfl rfl (by kernel_rfl) rfl ?_
  intro w S0 γ hγ
  refine sseq ?_
  refine sreg ?_
  refine s1 (asg rfl (kLm (k := 1) u32)) ?_
  refine s1 (asg rfl (kLm (k := 1) u32)) ?_
  refine snil ?_
  refine pnm ?_
  refine sseq ?_
  refine sreg ?_
  refine s1 (mv rfl rfl) ?_
  refine s1 (mv rfl rfl) ?_
  refine bd fun r1 h2 => ?_
  refine s1 (call0 (c_common_Gcd _ h2) ⟨⟨_, rfl, rn_id if_sli⟩, ⟨_, rfl, rn_id if_sli⟩, trivial⟩ (if_sli) rfl) ?_
  refine s1 (asg rfl rfl) ?_
  refine snil ?_
  refine pnm ?_
  refine sseq ?_
  refine sblk ?_
  refine sseq ?_
  refine sreg ?_
  refine s1 (mv rfl rfl) ?_
  refine s1 (lenL (f := u32) Tryd.underlying53 rfl rfl) ?_
  refine s1 (eqI rfl rfl (kI (x := 0) rfl)) ?_
  refine s1 (asg rfl rfl) ?_
  refine snil ?_
  refine pnm ?_
  refine scond rfl ?_ ?_
  · refine sseq ?_
    refine sreg ?_
    refine s1 (asg rfl (kLm (k := 1) u32)) ?_
    refine s1 (asg rfl (kLm (k := 1) u32)) ?_
    refine snil ?_
    refine pnm ?_
    refine sret ?_
    refine pbl ?_
    refine pth ?_
    exact ret [] [.tmp 4, .tmp 5] [_, _] [_, _] .ret hγ (.inl rfl) rfl ⟨rfl, rfl, trivial⟩ rfl trivial trivial trivial (rns_cons (rn_id if_sli) (rns_cons (rn_id if_sli) (rns_nil))) rfl
  · refine sseq ?_
    refine sreg ?_
    refine s1 (mv rfl rfl) ?_
    refine bd fun r3 h4 => ?_
    refine s1 (call0 (c_common_one _ h4) ⟨⟨_, rfl, rn_id if_sli⟩, trivial⟩ (if_bl) rfl) ?_
    refine s1 (asg rfl rfl) ?_
    refine snil ?_
    refine pnm ?_
    refine scond rfl ?_ ?_
    · refine sseq ?_
      refine sreg ?_
      refine s1 (mv rfl rfl) ?_
      refine bd fun r5 h6 => ?_
      refine so (callG (em := [(100, .sl 139 1 (List.map u32 r5))]) (res' := .own 100) [] [(100, 50)] [(100, 50)] (c_nat_Norm _ h6) ⟨⟨_, rfl, rn_id if_sli⟩, trivial⟩ (MiF.get (mi := []) trivial) trivial rfl ⟨rfl, trivial⟩ ⟨.inl rfl, trivial⟩ rfl ⟨.inl ⟨_, _, rfl, rfl, rc_sl (ifs_map (f := u32) (fun _ => if_u32) r5)⟩, trivial⟩ trivial ⟨⟨_, rfl⟩, trivial⟩ (rn_own rfl) rfl) ?_
      refine s1 (mv rfl rfl) ?_
      refine bd fun r7 h8 => ?_
      refine so (callG (em := [(101, .sl 139 1 (List.map u32 r7))]) (res' := .own 101) [] [(101, 50)] [(101, 50)] (c_nat_Norm _ h8) ⟨⟨_, rfl, rn_id if_sli⟩, trivial⟩ (MiF.get (mi := []) trivial) trivial rfl ⟨rfl, trivial⟩ ⟨.inl rfl, trivial⟩ rfl ⟨.inl ⟨_, _, rfl, rfl, rc_sl (ifs_map (f := u32) (fun _ => if_u32) r7)⟩, trivial⟩ trivial ⟨⟨_, rfl⟩, trivial⟩ (rn_own rfl) rfl) ?_
      refine s1 (asg rfl rfl) ?_
      refine s1 (asg rfl rfl) ?_
      refine snil ?_
      refine pnm ?_
      refine sret ?_
      refine pbl ?_
      refine pth ?_
      refine frz (id := 100) [(4, sli 1 (List.map u32 r5)), (18, sli 1 (List.map u32 r5))] [] rfl (ifs_map (f := u32) (fun _ => if_u32) r5) ⟨⟨_, rfl, fz_own⟩, ⟨_, rfl, fz_own⟩, trivial⟩ trivial ?_
      refine frz (id := 101) [(5, sli 1 (List.map u32 r7)), (20, sli 1 (List.map u32 r7))] [] rfl (ifs_map (f := u32) (fun _ => if_u32) r7) ⟨⟨_, rfl, fz_own⟩, ⟨_, rfl, fz_own⟩, trivial⟩ trivial ?_
      exact ret [] [.tmp 4, .tmp 5] [_, _] [_, _] .ret hγ (.inl rfl) rfl ⟨rfl, rfl, trivial⟩ rfl trivial trivial trivial (rns_cons (rn_id if_sli) (rns_cons (rn_id if_sli) (rns_nil))) rfl
    · refine sskip ?_
      refine pbn ?_
      refine pnm ?_
      refine sseq ?_
      refine sreg ?_
      refine s1 (mv rfl rfl) ?_
      refine s1 (mv rfl rfl) ?_
      refine bd fun r9 h10 => ?_
      refine s1 (call0 (c_quot_Div _ h10) ⟨⟨_, rfl, rn_id if_sli⟩, ⟨_, rfl, rn_id if_sli⟩, trivial⟩ (if_tup (ifs_cons if_sli (ifs_cons if_sli (ifs_cons if_bl (ifs_nil))))) rfl) ?_
      refine s1 (mv rfl rfl) ?_
      refine s1 (ext (by exact rfl) rfl rfl) ?_
      refine s1 (ext (by exact rfl) rfl rfl) ?_
      refine s1 (ext (by exact rfl) rfl rfl) ?_
      refine s1 (asg rfl rfl) ?_
      refine snil ?_
      refine pnm ?_
      refine sseq ?_
      refine sreg ?_
      refine s1 (mv rfl rfl) ?_
      refine s1 (mv rfl rfl) ?_
      refine bd fun r11 h12 => ?_
      refine s1 (call0 (c_quot_Div _ h12) ⟨⟨_, rfl, rn_id if_sli⟩, ⟨_, rfl, rn_id if_sli⟩, trivial⟩ (if_tup (ifs_cons if_sli (ifs_cons if_sli (ifs_cons if_bl (ifs_nil))))) rfl) ?_
      refine s1 (mv rfl rfl) ?_
      refine s1 (ext (by exact rfl) rfl rfl) ?_
      refine s1 (ext (by exact rfl) rfl rfl) ?_
      refine s1 (ext (by exact rfl) rfl rfl) ?_
      refine s1 (asg rfl rfl) ?_
      refine snil ?_
      refine pnm ?_
      refine sseq ?_
      refine sreg ?_
      refine s1 (mv rfl rfl) ?_
      refine s1 (mv rfl rfl) ?_
      refine s1 (asg rfl rfl) ?_
      refine s1 (asg rfl rfl) ?_
      refine snil ?_
      refine pnm ?_
      refine sret ?_
      exact ret [] [.tmp 4, .tmp 5] [_, _] [_, _] .ret hγ (.inl rfl) rfl ⟨rfl, rfl, trivial⟩ rfl trivial trivial trivial (rns_cons (rn_id if_sli) (rns_cons (rn_id if_sli) (rns_nil))) rfl
theorem c_whole_signed {x0 : Bool} {x1 : (List Nat)} : ∀ r, m_whole_signed x0 x1 = some r → FnOk Tryd.prog 146 [bl x0, sli 1 (List.map u32 x1)] [] (L_whole_Whole r) [] := by
  unfold m_whole_signed
  refine fn_of_sq (res := fun (r : M_whole_Whole) => L_whole_Whole r) (mo := fun (r : M_whole_Whole) => []) Tryd.func146 rfl rfl (by kernel_rfl) rfl ?_
  intro w S0 γ hγ
  refine sseq ?_
  refine sreg ?_
  refine so (al (y := 100) (ly := L_whole_Whole (⟨false, []⟩ : M_whole_Whole)) ti_55 zr_whole_Whole rfl rfl) ?_
  refine snil ?_
  refine pnm ?_
  refine sjq (fun (s3 : M_whole_Whole) => [(4, .own 100)]) (fun (s3 : M_whole_Whole) => [(100, .bx 55 (L_whole_Whole s3))]) ?_ ?_
  · intro j1 hj2
    refine sreg ?_
    refine s1 (mv rfl rfl) ?_
    refine s1 (mv rfl rfl) ?_
    refine sifd 6 rfl ?_ ?_
    · refine sg 6 rfl rfl (mv rfl rfl) ?_
      refine sg 6 rfl rfl (lenL (f := u32) Tryd.underlying53 rfl rfl) ?_
      refine sg 6 rfl rfl (gtI rfl rfl (kI (x := 0) rfl)) ?_
      refine s1 (pickT rfl rfl rfl) ?_
      refine s1 (mv rfl rfl) ?_
      refine s1 (bld (l := [bl (decide ((0 : Int) < (x1.length : Int))), sli 1 (List.map u32 x1)]) pl_55 ti_55 zr_whole_Whole ⟨_, _, _, rfl, rfl, rfl, rfl, (szk (k := 1) rfl rfl), ⟨_, _, _, rfl, rfl, rfl, rfl, (szk (k := 1) rfl rfl), rfl⟩⟩ rfl) ?_
      refine so (stB2 (ly2 := L_whole_Whole (⟨decide ((0 : Int) < (x1.length : Int)), x1⟩ : M_whole_Whole)) [] (by exact rfl) rfl (by exact rfl) sh_55 (by exact rfl) (by exact rfl) (by exact rfl) rfl (.inr ⟨rfl, rfl, _, _, rfl⟩) rfl) ?_
      refine snil ?_
      refine pnm ?_
      exact sj (hj2 _) (entR [(100, 100)] rfl (keepS hγ trivial) ⟨⟨_, rfl⟩, trivial⟩ ⟨⟨_, _, rfl, rfl, rci (rc_bx (rn_id if_L_whole_Whole))⟩, trivial⟩ ⟨⟨_, rfl, rn_own rfl⟩, trivial⟩)
    · refine spB 6 rfl rfl rfl ?_
      refine spB 6 rfl rfl rfl ?_
      refine spB 6 rfl rfl rfl ?_
      refine s1 (pickF rfl rfl kB) ?_
      refine s1 (mv rfl rfl) ?_
      refine s1 (bld (l := [bl false, sli 1 (List.map u32 x1)]) pl_55 ti_55 zr_whole_Whole ⟨_, _, _, rfl, rfl, rfl, rfl, (szk (k := 1) rfl rfl), ⟨_, _, _, rfl, rfl, rfl, rfl, (szk (k := 1) rfl rfl), rfl⟩⟩ rfl) ?_
      refine so (stB2 (ly2 := L_whole_Whole (⟨false, x1⟩ : M_whole_Whole)) [] (by exact rfl) rfl (by exact rfl) sh_55 (by exact rfl) (by exact rfl) (by exact rfl) rfl (.inr ⟨rfl, rfl, _, _, rfl⟩) rfl) ?_
      refine snil ?_
      refine pnm ?_
      exact sj (hj2 _) (entR [(100, 100)] rfl (keepS hγ trivial) ⟨⟨_, rfl⟩, trivial⟩ ⟨⟨_, _, rfl, rfl, rci (rc_bx (rn_id if_L_whole_Whole))⟩, trivial⟩ ⟨⟨_, rfl, rn_own rfl⟩, trivial⟩)
  · intro s3
    refine sret ?_
    exact ret [] [.cell 4 55] [_] [_] .ret hγ (.inl rfl) rfl ⟨⟨100, _, rfl, rfl, sh_55⟩, trivial⟩ rfl trivial trivial trivial (rns_cons (rn_id if_L_whole_Whole) (rns_nil)) rfl
theorem c_whole_Norm {n : Nat} {x0 : M_whole_Whole} : ∀ r, m_whole_Norm n x0 = some r → FnOk Tryd.prog 139 [L_whole_Whole x0] [] (L_whole_Whole r) [] := by
  unfold m_whole_Norm
  refine fn_of_sq (res := fun (r : M_whole_Whole) => L_whole_Whole r) (mo := fun (r : M_whole_Whole) => []) Tryd.func139 rfl rfl (by kernel_rfl) rfl ?_
  intro w S0 γ hγ
  refine sseq ?_
  refine sreg ?_
  refine so (box (y := 100) (by exact rfl) rfl rfl rfl) ?_
  refine so (al (y := 101) (ly := L_whole_Whole (⟨false, []⟩ : M_whole_Whole)) ti_55 zr_whole_Whole rfl rfl) ?_
  refine snil ?_
  refine pnm ?_
  refine sseq ?_
  refine bd fun r3 h4 => ?_
  refine bd fun r5 h6 => ?_
  refine sdraw [⟨[1], [100], [(3, .ptr 100 0)], []⟩, ⟨[3], [100], [(4, bl x0.Neg)], []⟩, ⟨[1], [100], [(5, .ptr 100 1)], []⟩, ⟨[5], [100], [(6, sli 1 (List.map u32 x0.Abs))], []⟩, ⟨[6], [102], [(7, sli 1 (List.map u32 r3))], [(102, .gone)]⟩, ⟨[4, 7], [], [(8, L_whole_Whole r5)], []⟩, ⟨[2, 8], [101], [], [(101, .bx 55 (L_whole_Whole r5))]⟩] fol (by kernel_rfl) ⟨fun st mm ⟨a1, _⟩ ⟨g100, _⟩ => og (faO (g100.trans rfl) fd_55_0 rfl (a1.trans rfl)), fun st mm ⟨a3, _⟩ ⟨g100, _⟩ => og (ldB [0] (g100.trans rfl) (by exact rfl) sh_4 (by exact rfl) (by exact rfl) rfl (a3.trans rfl) (.inl rfl)), fun st mm ⟨a1, _⟩ ⟨g100, _⟩ => og (faO (g100.trans rfl) fd_55_1 rfl (a1.trans rfl)), fun st mm ⟨a5, _⟩ ⟨g100, _⟩ => og (ldB [1] (g100.trans rfl) (by exact rfl) sh_53 (by exact rfl) (by exact rfl) rfl (a5.trans rfl) (.inl rfl)), fun st mm ⟨a6, _⟩ ⟨g102, _⟩ => og (toV (callG (em := [(102, .sl 139 1 (List.map u32 r3))]) (res' := .own 102) [] [(102, 50)] [(102, 50)] (c_nat_Norm _ h4) ⟨⟨_, (a6.trans rfl), rn_id if_sli⟩, trivial⟩ (MiF.get (mi := []) trivial) trivial rfl ⟨(g102.trans rfl), trivial⟩ ⟨.inl rfl, trivial⟩ rfl ⟨.inl ⟨_, _, rfl, rfl, rc_sl (ifs_map (f := u32) (fun _ => if_u32) r3)⟩, trivial⟩ trivial ⟨⟨_, rfl⟩, trivial⟩ (rn_own rfl) rfl) (ifs_map (f := u32) (fun _ => if_u32) r3)), fun st mm ⟨a4, a7, _⟩ _ => og (call0 (c_whole_signed _ h6) ⟨⟨_, (a4.trans rfl), rn_id if_bl⟩, ⟨_, (a7.trans rfl), rn_id if_sli⟩, trivial⟩ (if_L_whole_Whole) rfl), fun st mm ⟨a2, a8, _⟩ ⟨g101, _⟩ => og (stB2 (ly2 := L_whole_Whole r5) [] (by exact rfl) (g101.trans rfl) (by exact rfl) sh_55 (by exact rfl) (by exact rfl) (by exact rfl) (a2.trans rfl) (.inr ⟨rfl, rfl, _, _, (g101.trans rfl)⟩) (a8.trans rfl)), trivial⟩ ?_
  refine pnm ?_
  refine sret ?_
  exact ret [] [.cell 2 55] [_] [_] .ret hγ (.inl rfl) rfl ⟨⟨101, _, rfl, rfl, sh_55⟩, trivial⟩ rfl trivial trivial trivial (rns_cons (rn_id if_L_whole_Whole) (rns_nil)) rfl
theorem c_frac_cancel {n : Nat} {x0 : M_whole_Whole} {x1 : (List Nat)} : ∀ r, m_frac_cancel n x0 x1 = some r → FnOk Tryd.prog 123 [L_whole_Whole x0, sli 1 (List.map u32 x1)] [] (L_frac_Frac r) [] := by
  unfold m_frac_cancel
  refine fn_of_sq (res := fun (r : M_frac_Frac) => L_frac_Frac r) (mo := fun (r : M_frac_Frac) => []) Tryd.func123 rfl rfl (by kernel_rfl) rfl ?_
  intro w S0 γ hγ
  refine sseq ?_
  refine sreg ?_
  refine so (box (y := 100) (by exact rfl) rfl rfl rfl) ?_
  refine so (al (y := 101) (ly := L_frac_Frac (⟨(⟨false, []⟩ : M_whole_Whole), []⟩ : M_frac_Frac)) ti_57 zr_frac_Frac rfl rfl) ?_
  refine snil ?_
  refine pnm ?_
  refine sseq ?_
  refine sreg ?_
  refine s1 (faO rfl fd_55_1 rfl rfl) ?_
  refine s1 (ldB [1] rfl (by exact rfl) sh_53 (by exact rfl) (by exact rfl) rfl rfl (.inl rfl)) ?_
  refine s1 (mv rfl rfl) ?_
  refine bd fun r1 h2 => ?_
  refine s1 (call0 (c_common_Cancel _ h2) ⟨⟨_, rfl, rn_id if_sli⟩, ⟨_, rfl, rn_id if_sli⟩, trivial⟩ (if_tup (ifs_cons if_sli (ifs_cons if_sli (ifs_nil)))) rfl) ?_
  refine s1 (mv rfl rfl) ?_
  refine s1 (ext (by exact rfl) rfl rfl) ?_
  refine s1 (ext (by exact rfl) rfl rfl) ?_
  refine s1 (asg rfl rfl) ?_
  refine s1 (asg rfl rfl) ?_
  refine snil ?_
  refine pnm ?_
  refine sseq ?_
  refine sreg ?_
  refine s1 (faO rfl fd_55_0 rfl rfl) ?_
  refine s1 (ldB [0] rfl (by exact rfl) sh_4 (by exact rfl) (by exact rfl) rfl rfl (.inl rfl)) ?_
  refine s1 (mv rfl rfl) ?_
  refine s1 (bld (l := [bl x0.Neg, sli 1 (List.map u32 r1.1)]) pl_55 ti_55 zr_whole_Whole ⟨_, _, _, rfl, rfl, rfl, rfl, (szk (k := 1) rfl rfl), ⟨_, _, _, rfl, rfl, rfl, rfl, (szk (k := 1) rfl rfl), rfl⟩⟩ rfl) ?_
  refine bd fun r3 h4 => ?_
  refine s1 (call0 (c_whole_Norm _ h4) ⟨⟨_, rfl, rn_id if_L_whole_Whole⟩, trivial⟩ (if_L_whole_Whole) rfl) ?_
  refine s1 (mv rfl rfl) ?_
  refine s1 (bld (l := [L_whole_Whole r3, sli 1 (List.map u32 r1.2)]) pl_57 ti_57 zr_frac_Frac ⟨_, _, _, rfl, rfl, rfl, rfl, (szk (k := 2) rfl rfl), ⟨_, _, _, rfl, rfl, rfl, rfl, (szk (k := 1) rfl rfl), rfl⟩⟩ rfl) ?_
  refine so (stB2 (ly2 := L_frac_Frac (⟨r3, r1.2⟩ : M_frac_Frac)) [] (by exact rfl) rfl (by exact rfl) sh_57 (by exact rfl) (by exact rfl) (by exact rfl) rfl (.inr ⟨rfl, rfl, _, _, rfl⟩) rfl) ?_
  refine snil ?_
  refine pnm ?_
  refine sret ?_
  exact ret [] [.cell 4 57] [_] [_] .ret hγ (.inl rfl) rfl ⟨⟨101, _, rfl, rfl, sh_57⟩, trivial⟩ rfl trivial trivial trivial (rns_cons (rn_id if_L_frac_Frac) (rns_nil)) rfl
theorem c_frac_Norm {n : Nat} {x0 : M_frac_Frac} : ∀ r, m_frac_Norm n x0 = some r → FnOk Tryd.prog 89 [L_frac_Frac x0] [] (L_frac_Frac r) [] := by
  unfold m_frac_Norm
  refine fn_of_sq (res := fun (r : M_frac_Frac) => L_frac_Frac r) (mo := fun (r : M_frac_Frac) => []) Tryd.func89 rfl rfl (by kernel_rfl) rfl ?_
  intro w S0 γ hγ
  refine sseq ?_
  refine sreg ?_
  refine so (box (y := 100) (by exact rfl) rfl rfl rfl) ?_
  refine so (al (y := 101) (ly := L_frac_Frac (⟨(⟨false, []⟩ : M_whole_Whole), []⟩ : M_frac_Frac)) ti_57 zr_frac_Frac rfl rfl) ?_
  refine snil ?_
  refine pnm ?_
  refine sseq ?_
  refine sreg ?_
  refine s1 (ldB [] rfl rfl sh_57 (by exact rfl) (by exact rfl) rfl rfl (.inr ⟨rfl, rfl, _, _, rfl⟩)) ?_
  refine bd fun r1 h2 => ?_
  refine s1 (call0 (c_frac_parts _ h2) ⟨⟨_, rfl, rn_id if_L_frac_Frac⟩, trivial⟩ (if_tup (ifs_cons if_L_whole_Whole (ifs_cons if_sli (ifs_nil)))) rfl) ?_
  refine s1 (ext (by exact rfl) rfl rfl) ?_
  refine s1 (ext (by exact rfl) rfl rfl) ?_
  refine bd fun r3 h4 => ?_
  refine s1 (call0 (c_frac_cancel _ h4) ⟨⟨_, rfl, rn_id if_L_whole_Whole⟩, ⟨_, rfl, rn_id if_sli⟩, trivial⟩ (if_L_frac_Frac) rfl) ?_
  refine so (stB2 (ly2 := L_frac_Frac r3) [] (by exact rfl) rfl (by exact rfl) sh_57 (by exact rfl) (by exact rfl) (by exact rfl) rfl (.inr ⟨rfl, rfl, _, _, rfl⟩) rfl) ?_
  refine snil ?_
  refine pnm ?_
  refine sret ?_
  exact ret [] [.cell 2 57] [_] [_] .ret hγ (.inl rfl) rfl ⟨⟨101, _, rfl, rfl, sh_57⟩, trivial⟩ rfl trivial trivial trivial (rns_cons (rn_id if_L_frac_Frac) (rns_nil)) rfl
theorem c_frac_Right {n : Nat} {x0 : M_frac_Frac} : ∀ r, m_frac_Right n x0 = some r → FnOk Tryd.prog 64 [L_frac_Frac x0] [] (bl r) [] := by
  unfold m_frac_Right
  refine fn_of_sq (res := fun (r : Bool) => bl r) (mo := fun (r : Bool) => []) Tryd.func64 rfl rfl (by kernel_rfl) rfl ?_
  intro w S0 γ hγ
  refine sseq ?_
  refine sreg ?_
  refine so (box (y := 100) (by exact rfl) rfl rfl rfl) ?_
  refine s1 (asg rfl kB) ?_
  refine snil ?_
  refine pnm ?_
  refine sseq ?_
  refine sreg ?_
  refine s1 (ldB [] rfl rfl sh_57 (by exact rfl) (by exact rfl) rfl rfl (.inr ⟨rfl, rfl, _, _, rfl⟩)) ?_
  refine bd fun r1 h2 => ?_
  refine s1 (call0 (c_frac_Norm _ h2) ⟨⟨_, rfl, rn_id if_L_frac_Frac⟩, trivial⟩ (if_L_frac_Frac) rfl) ?_
  refine so (al (y := 101) (ly := L_frac_Frac (⟨(⟨false, []⟩ : M_whole_Whole), []⟩ : M_frac_Frac)) ti_57 zr_frac_Frac rfl rfl) ?_
  refine so (stB2 (ly2 := L_frac_Frac r1) [] (by exact rfl) rfl (by exact rfl) sh_57 (by exact rfl) (by exact rfl) (by exact rfl) rfl (.inr ⟨rfl, rfl, _, _, rfl⟩) rfl) ?_
  refine snil ?_
  refine pnm ?_
  refine sjq (fun (s9 : Bool) => [(2, bl s9)]) (fun (s9 : Bool) => []) ?_ ?_
  · intro j7 hj8
    refine sreg ?_
    refine s1 (faO rfl fd_57_0 rfl rfl) ?_
    refine s1 (faP fd_55_0 rfl rfl) ?_
    refine s1 (ldB [0, 0] rfl (by exact rfl) sh_4 (by exact rfl) (by exact rfl) rfl rfl (.inl rfl)) ?_
    refine s1 (faO rfl fd_57_0 rfl rfl) ?_
    refine s1 (faP fd_55_0 rfl rfl) ?_
    refine s1 (ldB [0, 0] rfl (by exact rfl) sh_4 (by exact rfl) (by exact rfl) rfl rfl (.inl rfl)) ?_
    refine s1 (eqB Tryd.underlying4 rfl rfl rfl) ?_
    refine s1 (mv rfl rfl) ?_
    refine sifd 13 rfl ?_ ?_
    · refine sg 13 rfl rfl (faO rfl fd_57_0 rfl rfl) ?_
      refine sg 13 rfl rfl (faP fd_55_1 rfl rfl) ?_
      refine sg 13 rfl rfl (ldB [0, 1] rfl (by exact rfl) sh_53 (by exact rfl) (by exact rfl) rfl rfl (.inl rfl)) ?_
      refine sg 13 rfl rfl (lenL (f := u32) Tryd.underlying53 rfl rfl) ?_
      refine sg 13 rfl rfl (faO rfl fd_57_0 rfl rfl) ?_
      refine sg 13 rfl rfl (faP fd_55_1 rfl rfl) ?_
      refine sg 13 rfl rfl (ldB [0, 1] rfl (by exact rfl) sh_53 (by exact rfl) (by exact rfl) rfl rfl (.inl rfl)) ?_
      refine sg 13 rfl rfl (lenL (f := u32) Tryd.underlying53 rfl rfl) ?_
      refine sg 13 rfl rfl (eqI rfl rfl rfl) ?_
      refine s1 (pickT rfl rfl rfl) ?_
      refine s1 (mv rfl rfl) ?_
      refine sifd 24 rfl ?_ ?_
      · refine sg 24 rfl rfl (faO rfl fd_57_1 rfl rfl) ?_
        refine sg 24 rfl rfl (ldB [1] rfl (by exact rfl) sh_53 (by exact rfl) (by exact rfl) rfl rfl (.inl rfl)) ?_
        refine sg 24 rfl rfl (lenL (f := u32) Tryd.underlying53 rfl rfl) ?_
        refine sg 24 rfl rfl (faO rfl fd_57_1 rfl rfl) ?_
        refine sg 24 rfl rfl (ldB [1] rfl (by exact rfl) sh_53 (by exact rfl) (by exact rfl) rfl rfl (.inl rfl)) ?_
        refine sg 24 rfl rfl (lenL (f := u32) Tryd.underlying53 rfl rfl) ?_
        refine sg 24 rfl rfl (eqI rfl rfl rfl) ?_
        refine s1 (pickT rfl rfl rfl) ?_
        refine s1 (mv rfl rfl) ?_
        refine sifd 33 rfl ?_ ?_
        · refine sg 33 rfl rfl (faO rfl fd_57_0 rfl rfl) ?_
          refine sg 33 rfl rfl (faP fd_55_1 rfl rfl) ?_
          refine sg 33 rfl rfl (ldB [0, 1] rfl (by exact rfl) sh_53 (by exact rfl) (by exact rfl) rfl rfl (.inl rfl)) ?_
          refine sg 33 rfl rfl (faO rfl fd_57_0 rfl rfl) ?_
          refine sg 33 rfl rfl (faP fd_55_1 rfl rfl) ?_
          refine sg 33 rfl rfl (ldB [0, 1] rfl (by exact rfl) sh_53 (by exact rfl) (by exact rfl) rfl rfl (.inl rfl)) ?_
          refine bd fun r10 h11 => ?_
          refine sg 33 rfl rfl (call0 (c_nat_Cmp _ h11) ⟨⟨_, rfl, rn_id if_sli⟩, ⟨_, rfl, rn_id if_sli⟩, trivial⟩ (if_i64) rfl) ?_
          refine sg 33 rfl rfl (eqI rfl rfl (kI (x := 0) rfl)) ?_
          refine s1 (pickT rfl rfl rfl) ?_
          refine s1 (mv rfl rfl) ?_
          refine sifd 43 rfl ?_ ?_
          · refine sg 43 rfl rfl (faO rfl fd_57_1 rfl rfl) ?_
            refine sg 43 rfl rfl (ldB [1] rfl (by exact rfl) sh_53 (by exact rfl) (by exact rfl) rfl rfl (.inl rfl)) ?_
            refine sg 43 rfl rfl (faO rfl fd_57_1 rfl rfl) ?_
            refine sg 43 rfl rfl (ldB [1] rfl (by exact rfl) sh_53 (by exact rfl) (by exact rfl) rfl rfl (.inl rfl)) ?_
            refine bd fun r12 h13 => ?_
            refine sg 43 rfl rfl (call0 (c_nat_Cmp _ h13) ⟨⟨_, rfl, rn_id if_sli⟩, ⟨_, rfl, rn_id if_sli⟩, trivial⟩ (if_i64) rfl) ?_
            refine sg 43 rfl rfl (eqI rfl rfl (kI (x := 0) rfl)) ?_
            refine s1 (pickT rfl rfl rfl) ?_
            refine s1 (asg rfl rfl) ?_
            refine snil ?_
            refine pnm ?_
            exact sj (hj8 _) (entR [] rfl (keepS hγ trivial) (by exact trivial) (by exact trivial) ⟨⟨_, rfl, rn_id if_bl⟩, trivial⟩)
          · refine spB 43 rfl rfl rfl ?_
            refine spB 43 rfl rfl rfl ?_
            refine spB 43 rfl rfl rfl ?_
            refine spB 43 rfl rfl rfl ?_
            refine spB 43 rfl rfl rfl ?_
            refine spB 43 rfl rfl rfl ?_
            refine s1 (pickF rfl rfl kB) ?_
            refine s1 (asg rfl rfl) ?_
            refine snil ?_
            refine pnm ?_
            exact sj (hj8 _) (entR [] rfl (keepS hγ trivial) (by exact trivial) (by exact trivial) ⟨⟨_, rfl, rn_id if_bl⟩, trivial⟩)
        · refine spB 33 rfl rfl rfl ?_
          refine spB 33 rfl rfl rfl ?_
          refine spB 33 rfl rfl rfl ?_
          refine spB 33 rfl rfl rfl ?_
          refine spB 33 rfl rfl rfl ?_
          refine spB 33 rfl rfl rfl ?_
          refine spB 33 rfl rfl rfl ?_
          refine spB 33 rfl rfl rfl ?_
          refine s1 (pickF rfl rfl kB) ?_
          refine s1 (mv rfl rfl) ?_
          refine spB 43 rfl rfl rfl ?_
          refine spB 43 rfl rfl rfl ?_
          refine spB 43 rfl rfl rfl ?_
          refine spB 43 rfl rfl rfl ?_
          refine spB 43 rfl rfl rfl ?_
          refine spB 43 rfl rfl rfl ?_
          refine s1 (pickF rfl rfl kB) ?_
          refine s1 (asg rfl rfl) ?_
          refine snil ?_
          refine pnm ?_
          exact sj (hj8 _) (entR [] rfl (keepS hγ trivial) (by exact trivial) (by exact trivial) ⟨⟨_, rfl, rn_id if_bl⟩, trivial⟩)
      · refine spB 24 rfl rfl rfl ?_
        refine spB 24 rfl rfl rfl ?_
        refine spB 24 rfl rfl rfl ?_
        refine spB 24 rfl rfl rfl ?_
        refine spB 24 rfl rfl rfl ?_
        refine spB 24 rfl rfl rfl ?_
        refine spB 24 rfl rfl rfl ?_
        refine s1 (pickF rfl rfl kB) ?_
        refine s1 (mv rfl rfl) ?_
        refine spB 33 rfl rfl rfl ?_
        refine spB 33 rfl rfl rfl ?_
        refine spB 33 rfl rfl rfl ?_
        refine spB 33 rfl rfl rfl ?_
        refine spB 33 rfl rfl rfl ?_
        refine spB 33 rfl rfl rfl ?_
        refine spB 33 rfl rfl rfl ?_
        refine spB 33 rfl rfl rfl ?_
        refine s1 (pickF rfl rfl kB) ?_
        refine s1 (mv rfl rfl) ?_
        refine spB 43 rfl rfl rfl ?_
        refine spB 43 rfl rfl rfl ?_
        refine spB 43 rfl rfl rfl ?_
        refine spB 43 rfl rfl rfl ?_
        refine spB 43 rfl rfl rfl ?_
        refine spB 43 rfl rfl rfl ?_
        refine s1 (pickF rfl rfl kB) ?_
        refine s1 (asg rfl rfl) ?_
        refine snil ?_
        refine pnm ?_
        exact sj (hj8 _) (entR [] rfl (keepS hγ trivial) (by exact trivial) (by exact trivial) ⟨⟨_, rfl, rn_id if_bl⟩, trivial⟩)
    · refine spB 13 rfl rfl rfl ?_
      refine spB 13 rfl rfl rfl ?_
      refine spB 13 rfl rfl rfl ?_
      refine spB 13 rfl rfl rfl ?_
      refine spB 13 rfl rfl rfl ?_
      refine spB 13 rfl rfl rfl ?_
      refine spB 13 rfl rfl rfl ?_
      refine spB 13 rfl rfl rfl ?_
      refine spB 13 rfl rfl rfl ?_
      refine s1 (pickF rfl rfl kB) ?_
      refine s1 (mv rfl rfl) ?_
      refine spB 24 rfl rfl rfl ?_
      refine spB 24 rfl rfl rfl ?_
      refine spB 24 rfl rfl rfl ?_
      refine spB 24 rfl rfl rfl ?_
      refine spB 24 rfl rfl rfl ?_
      refine spB 24 rfl rfl rfl ?_
      refine spB 24 rfl rfl rfl ?_
      refine s1 (pickF rfl rfl kB) ?_
      refine s1 (mv rfl rfl) ?_
      refine spB 33 rfl rfl rfl ?_
      refine spB 33 rfl rfl rfl ?_
      refine spB 33 rfl rfl rfl ?_
      refine spB 33 rfl rfl rfl ?_
      refine spB 33 rfl rfl rfl ?_
      refine spB 33 rfl rfl rfl ?_
      refine spB 33 rfl rfl rfl ?_
      refine spB 33 rfl rfl rfl ?_
      refine s1 (pickF rfl rfl kB) ?_
      refine s1 (mv rfl rfl) ?_
      refine spB 43 rfl rfl rfl ?_
      refine spB 43 rfl rfl rfl ?_
      refine spB 43 rfl rfl rfl ?_
      refine spB 43 rfl rfl rfl ?_
      refine spB 43 rfl rfl rfl ?_
      refine spB 43 rfl rfl rfl ?_
      refine s1 (pickF rfl rfl kB) ?_
      refine s1 (asg rfl rfl) ?_
      refine snil ?_
      refine pnm ?_
      exact sj (hj8 _) (entR [] rfl (keepS hγ trivial) (by exact trivial) (by exact trivial) ⟨⟨_, rfl, rn_id if_bl⟩, trivial⟩)
  · intro s9
    refine sret ?_
    exact ret [] [.tmp 2] [_] [_] .ret hγ (.inl rfl) rfl ⟨rfl, trivial⟩ rfl trivial trivial trivial (rns_cons (rn_id if_bl) (rns_nil)) rfl
theorem c_tape_blank {x0 : M_frac_Frac} : ∀ r, m_tape_blank x0 = some r → FnOk Tryd.prog 65 [L_frac_Frac x0] [] (bl r) [] := by
  unfold m_tape_blank
  refine fn_of_sq (res := fun (r : Bool) => bl r) (mo := fun (r : Bool) => []) Tryd.func65 rfl rfl (by kernel_rfl) rfl ?_
  intro w S0 γ hγ
  refine sseq ?_
  refine sreg ?_
  refine so (box (y := 100) (by exact rfl) rfl rfl rfl) ?_
  refine s1 (asg rfl kB) ?_
  refine snil ?_
  refine pnm ?_
  refine sjq (fun (s3 : Bool) => [(2, bl s3)]) (fun (s3 : Bool) => []) ?_ ?_
  · intro j1 hj2
    refine sreg ?_
    refine s1 (faO rfl fd_57_0 rfl rfl) ?_
    refine s1 (faP fd_55_0 rfl rfl) ?_
    refine s1 (ldB [0, 0] rfl (by exact rfl) sh_4 (by exact rfl) (by exact rfl) rfl rfl (.inl rfl)) ?_
    refine s1 (notB rfl rfl) ?_
    refine s1 (mv rfl rfl) ?_
    refine sifd 7 rfl ?_ ?_
    · refine sg 7 rfl rfl (faO rfl fd_57_0 rfl rfl) ?_
      refine sg 7 rfl rfl (faP fd_55_1 rfl rfl) ?_
      refine sg 7 rfl rfl (ldB [0, 1] rfl (by exact rfl) sh_53 (by exact rfl) (by exact rfl) rfl rfl (.inl rfl)) ?_
      refine sg 7 rfl rfl (lenL (f := u32) Tryd.underlying53 rfl rfl) ?_
      refine sg 7 rfl rfl (eqI rfl rfl (kI (x := 0) rfl)) ?_
      refine s1 (pickT rfl rfl rfl) ?_
      refine s1 (mv rfl rfl) ?_
      refine sifd 14 rfl ?_ ?_
      · refine sg 14 rfl rfl (faO rfl fd_57_1 rfl rfl) ?_
        refine sg 14 rfl rfl (ldB [1] rfl (by exact rfl) sh_53 (by exact rfl) (by exact rfl) rfl rfl (.inl rfl)) ?_
        refine sg 14 rfl rfl (lenL (f := u32) Tryd.underlying53 rfl rfl) ?_
        refine sg 14 rfl rfl (eqI rfl rfl (kI (x := 0) rfl)) ?_
        refine s1 (pickT rfl rfl rfl) ?_
        refine s1 (asg rfl rfl) ?_
        refine snil ?_
        refine pnm ?_
        exact sj (hj2 _) (entR [] rfl (keepS hγ trivial) (by exact trivial) (by exact trivial) ⟨⟨_, rfl, rn_id if_bl⟩, trivial⟩)
      · refine spB 14 rfl rfl rfl ?_
        refine spB 14 rfl rfl rfl ?_
        refine spB 14 rfl rfl rfl ?_
        refine spB 14 rfl rfl rfl ?_
        refine s1 (pickF rfl rfl kB) ?_
        refine s1 (asg rfl rfl) ?_
        refine snil ?_
        refine pnm ?_
        exact sj (hj2 _) (entR [] rfl (keepS hγ trivial) (by exact trivial) (by exact trivial) ⟨⟨_, rfl, rn_id if_bl⟩, trivial⟩)
    · refine spB 7 rfl rfl rfl ?_
      refine spB 7 rfl rfl rfl ?_
      refine spB 7 rfl rfl rfl ?_
      refine spB 7 rfl rfl rfl ?_
      refine spB 7 rfl rfl rfl ?_
      refine s1 (pickF rfl rfl kB) ?_
      refine s1 (mv rfl rfl) ?_
      refine spB 14 rfl rfl rfl ?_
      refine spB 14 rfl rfl rfl ?_
      refine spB 14 rfl rfl rfl ?_
      refine spB 14 rfl rfl rfl ?_
      refine s1 (pickF rfl rfl kB) ?_
      refine s1 (asg rfl rfl) ?_
      refine snil ?_
      refine pnm ?_
      exact sj (hj2 _) (entR [] rfl (keepS hγ trivial) (by exact trivial) (by exact trivial) ⟨⟨_, rfl, rn_id if_bl⟩, trivial⟩)
  · intro s3
    refine sret ?_
    exact ret [] [.tmp 2] [_] [_] .ret hγ (.inl rfl) rfl ⟨rfl, trivial⟩ rfl trivial trivial trivial (rns_cons (rn_id if_bl) (rns_nil)) rfl
theorem c_tape_Reads {x0 : M_tape_Inst} : ∀ r, m_tape_Reads x0 = some r → FnOk Tryd.prog 20 [L_tape_Inst x0] [] (sli 1 (List.map i64 r)) [] := by
  unfold m_tape_Reads
  refine fn_of_sq (res := fun (r : (List Int)) => sli 1 (List.map i64 r)) (mo := fun (r : (List Int)) => []) Tryd.func20 rfl rfl (by kernel_rfl) rfl ?_
  intro w S0 γ hγ
  refine sseq ?_
  refine sreg ?_
  refine so (box (y := 100) (by exact rfl) rfl rfl rfl) ?_
  refine s1 (asg rfl (kLm (k := 1) i64)) ?_
  refine snil ?_
  refine pnm ?_
  refine sseq ?_
  refine sseq ?_
  refine sreg ?_
  refine s1 (faO rfl fd_59_0 rfl rfl) ?_
  refine s1 (ldB [0] rfl (by exact rfl) sh_3 (by exact rfl) (by exact rfl) rfl rfl (.inl rfl)) ?_
  refine snil ?_
  refine pnm ?_
  refine sblk ?_
  refine sjq (fun (s3 : Bool) => [(1, .own 100), (2, sli 1 (List.map i64 ([] : List Int))), (4, i64 x0.Op), (5, bl s3)]) (fun (s3 : Bool) => [(100, .bx 59 (L_tape_Inst x0))]) ?_ ?_
  · intro j1 hj2
    refine sseq ?_
    refine sreg ?_
    refine s1 (eqI rfl rfl (kI (x := 6) rfl)) ?_
    refine s1 (asg rfl rfl) ?_
    refine snil ?_
    refine pnm ?_
    refine scond rfl ?_ ?_
    · refine sskip ?_
      refine pnm ?_
      exact sj (hj2 _) (entR [(100, 100)] rfl (keepS hγ trivial) ⟨⟨_, rfl⟩, trivial⟩ ⟨⟨_, _, rfl, rfl, rci (rc_bx (rn_id if_L_tape_Inst))⟩, trivial⟩ ⟨⟨_, rfl, rn_own rfl⟩, ⟨_, rfl, rn_id if_sli⟩, ⟨_, rfl, rn_id if_i64⟩, ⟨_, rfl, rn_id if_bl⟩, trivial⟩)
    · refine sreg ?_
      refine s1 (eqI rfl rfl (kI (x := 11) rfl)) ?_
      refine s1 (asg rfl rfl) ?_
      refine snil ?_
      refine pnm ?_
      exact sj (hj2 _) (entR [(100, 100)] rfl (keepS hγ trivial) ⟨⟨_, rfl⟩, trivial⟩ ⟨⟨_, _, rfl, rfl, rci (rc_bx (rn_id if_L_tape_Inst))⟩, trivial⟩ ⟨⟨_, rfl, rn_own rfl⟩, ⟨_, rfl, rn_id if_sli⟩, ⟨_, rfl, rn_id if_i64⟩, ⟨_, rfl, rn_id if_bl⟩, trivial⟩)
  · intro s3
    refine scond rfl ?_ ?_
    · refine sseq ?_
      refine sreg ?_
      refine s1 (faO rfl fd_59_1 rfl rfl) ?_
      refine s1 (ldB [1] rfl (by exact rfl) sh_3 (by exact rfl) (by exact rfl) rfl rfl (.inl rfl)) ?_
      refine so (bsl (y := 101) (ls := List.map i64 ([x0.A] : List Int)) Tryd.underlying41 ti_3 rfl rfl rfl rfl rfl ⟨rfl, rfl, (by exact rfl), (by exact rfl), trivial⟩ rfl rfl) ?_
      refine s1 (asg rfl rfl) ?_
      refine snil ?_
      refine pnm ?_
      refine sret ?_
      refine pbl ?_
      refine pth ?_
      refine frz (id := 101) [(2, sli 1 (List.map i64 ([x0.A] : List Int))), (10, sli 1 (List.map i64 ([x0.A] : List Int)))] [] rfl (ifs_map (f := i64) (fun _ => if_i64) ([x0.A] : List Int)) ⟨⟨_, rfl, fz_own⟩, ⟨_, rfl, fz_own⟩, trivial⟩ trivial ?_
      exact ret [] [.tmp 2] [_] [_] .ret hγ (.inl rfl) rfl ⟨rfl, trivial⟩ rfl trivial trivial trivial (rns_cons (rn_id if_sli) (rns_nil)) rfl
    · refine sjq (fun (s6 : Bool) => [(1, .own 100), (2, sli 1 (List.map i64 ([] : List Int))), (11, bl s6)]) (fun (s6 : Bool) => [(100, .bx 59 (L_tape_Inst x0))]) ?_ ?_
      · intro j4 hj5
        refine sseq ?_
        refine sreg ?_
        refine s1 (eqI rfl rfl (kI (x := 7) rfl)) ?_
        refine s1 (asg rfl rfl) ?_
        refine snil ?_
        refine pnm ?_
        refine scond rfl ?_ ?_
        · refine sskip ?_
          refine pnm ?_
          exact sj (hj5 _) (entR [(100, 100)] rfl (keepS hγ trivial) ⟨⟨_, rfl⟩, trivial⟩ ⟨⟨_, _, rfl, rfl, rci (rc_bx (rn_id if_L_tape_Inst))⟩, trivial⟩ ⟨⟨_, rfl, rn_own rfl⟩, ⟨_, rfl, rn_id if_sli⟩, ⟨_, rfl, rn_id if_bl⟩, trivial⟩)
        · refine sseq ?_
          refine sreg ?_
          refine s1 (eqI rfl rfl (kI (x := 8) rfl)) ?_
          refine s1 (asg rfl rfl) ?_
          refine snil ?_
          refine pnm ?_
          refine scond rfl ?_ ?_
          · refine sskip ?_
            refine pnm ?_
            exact sj (hj5 _) (entR [(100, 100)] rfl (keepS hγ trivial) ⟨⟨_, rfl⟩, trivial⟩ ⟨⟨_, _, rfl, rfl, rci (rc_bx (rn_id if_L_tape_Inst))⟩, trivial⟩ ⟨⟨_, rfl, rn_own rfl⟩, ⟨_, rfl, rn_id if_sli⟩, ⟨_, rfl, rn_id if_bl⟩, trivial⟩)
          · refine sseq ?_
            refine sreg ?_
            refine s1 (eqI rfl rfl (kI (x := 9) rfl)) ?_
            refine s1 (asg rfl rfl) ?_
            refine snil ?_
            refine pnm ?_
            refine scond rfl ?_ ?_
            · refine sskip ?_
              refine pnm ?_
              exact sj (hj5 _) (entR [(100, 100)] rfl (keepS hγ trivial) ⟨⟨_, rfl⟩, trivial⟩ ⟨⟨_, _, rfl, rfl, rci (rc_bx (rn_id if_L_tape_Inst))⟩, trivial⟩ ⟨⟨_, rfl, rn_own rfl⟩, ⟨_, rfl, rn_id if_sli⟩, ⟨_, rfl, rn_id if_bl⟩, trivial⟩)
            · refine sreg ?_
              refine s1 (eqI rfl rfl (kI (x := 10) rfl)) ?_
              refine s1 (asg rfl rfl) ?_
              refine snil ?_
              refine pnm ?_
              exact sj (hj5 _) (entR [(100, 100)] rfl (keepS hγ trivial) ⟨⟨_, rfl⟩, trivial⟩ ⟨⟨_, _, rfl, rfl, rci (rc_bx (rn_id if_L_tape_Inst))⟩, trivial⟩ ⟨⟨_, rfl, rn_own rfl⟩, ⟨_, rfl, rn_id if_sli⟩, ⟨_, rfl, rn_id if_bl⟩, trivial⟩)
      · intro s6
        refine scond rfl ?_ ?_
        · refine sseq ?_
          refine sreg ?_
          refine s1 (faO rfl fd_59_1 rfl rfl) ?_
          refine s1 (ldB [1] rfl (by exact rfl) sh_3 (by exact rfl) (by exact rfl) rfl rfl (.inl rfl)) ?_
          refine s1 (faO rfl fd_59_2 rfl rfl) ?_
          refine s1 (ldB [2] rfl (by exact rfl) sh_3 (by exact rfl) (by exact rfl) rfl rfl (.inl rfl)) ?_
          refine so (bsl (y := 101) (ls := List.map i64 ([x0.A, x0.B] : List Int)) Tryd.underlying41 ti_3 rfl rfl rfl rfl rfl ⟨rfl, rfl, (by exact rfl), (by exact rfl), rfl, rfl, (by exact rfl), (by exact rfl), trivial⟩ rfl rfl) ?_
          refine s1 (asg rfl rfl) ?_
          refine snil ?_
          refine pnm ?_
          refine sret ?_
          refine pbl ?_
          refine pth ?_
          refine frz (id := 101) [(2, sli 1 (List.map i64 ([x0.A, x0.B] : List Int))), (20, sli 1 (List.map i64 ([x0.A, x0.B] : List Int)))] [] rfl (ifs_map (f := i64) (fun _ => if_i64) ([x0.A, x0.B] : List Int)) ⟨⟨_, rfl, fz_own⟩, ⟨_, rfl, fz_own⟩, trivial⟩ trivial ?_
          exact ret [] [.tmp 2] [_] [_] .ret hγ (.inl rfl) rfl ⟨rfl, trivial⟩ rfl trivial trivial trivial (rns_cons (rn_id if_sli) (rns_nil)) rfl
        · refine sskip ?_
          refine pbn ?_
          refine pnm ?_
          refine sseq ?_
          refine sreg ?_
          refine s1 (asg rfl (kLm (k := 1) i64)) ?_
          refine snil ?_
          refine pnm ?_
          refine sret ?_
          exact ret [] [.tmp 2] [_] [_] .ret hγ (.inl rfl) rfl ⟨rfl, trivial⟩ rfl trivial trivial trivial (rns_cons (rn_id if_sli) (rns_nil)) rfl
theorem c_tape_may {n : Nat} {x0 : M_tape_Tape} {x1 : Int} : ∀ r, m_tape_may n x0 x1 = some r → FnOk Tryd.prog 49 [L_tape_Tape x0, i64 x1] [] (bl r) [] := by
  unfold m_tape_may
  refine fn_of_sq (res := fun (r : Bool) => bl r) (mo := fun (r : Bool) => []) Tryd.func49 rfl rfl (by kernel_rfl) rfl ?_
  intro w S0 γ hγ
  refine sseq ?_
  refine sreg ?_
  refine so (box (y := 100) (by exact rfl) rfl rfl rfl) ?_
  refine s1 (asg rfl kB) ?_
  refine snil ?_
  refine pnm ?_
  refine sseq ?_
  refine sreg ?_
  refine s1 (faO rfl fd_47_0 rfl rfl) ?_
  refine s1 (ldB [0] rfl (by exact rfl) sh_45 (by exact rfl) (by exact rfl) rfl rfl (.inl rfl)) ?_
  refine s1 (mv rfl rfl) ?_
  refine bd fun y1 h2 => ?_
  refine s1 (ixR (f := L_tape_Inst) Tryd.underlying45 ti_59 h2 rfl rfl rfl) ?_
  refine s1 (ldR sh_59 (by exact rfl) (by exact rfl) rfl rfl) ?_
  refine so (al (y := 101) (ly := L_tape_Inst (⟨0, 0, 0, (⟨(⟨false, []⟩ : M_whole_Whole), []⟩ : M_frac_Frac)⟩ : M_tape_Inst)) ti_59 zr_tape_Inst rfl rfl) ?_
  refine so (stB2 (ly2 := L_tape_Inst y1) [] (by exact rfl) rfl (by exact rfl) sh_59 (by exact rfl) (by exact rfl) (by exact rfl) rfl (.inr ⟨rfl, rfl, _, _, rfl⟩) rfl) ?_
  refine snil ?_
  refine pnm ?_
  refine sseq ?_
  refine sseq ?_
  refine sreg ?_
  refine s1 (faO rfl fd_59_0 rfl rfl) ?_
  refine s1 (ldB [0] rfl (by exact rfl) sh_3 (by exact rfl) (by exact rfl) rfl rfl (.inl rfl)) ?_
  refine s1 (eqI rfl rfl (kI (x := 1) rfl)) ?_
  refine snil ?_
  refine pnm ?_
  refine scond rfl ?_ ?_
  · refine sjq (fun (s9 : Bool) => [(1, i64 x1), (2, .own 100), (4, bl s9), (5, .own 101)]) (fun (s9 : Bool) => [(100, .bx 47 (L_tape_Tape x0)), (101, .bx 59 (L_tape_Inst y1))]) ?_ ?_
    · intro j7 hj8
      refine sreg ?_
      refine s1 (ldB [] rfl rfl sh_59 (by exact rfl) (by exact rfl) rfl rfl (.inr ⟨rfl, rfl, _, _, rfl⟩)) ?_
      refine bd fun r10 h11 => ?_
      refine s1 (call0 (c_tape_of _ h11) ⟨⟨_, rfl, rn_id if_L_tape_Inst⟩, trivial⟩ (if_L_tape_numbers) rfl) ?_
      refine s1 (bld (l := [i64 (1 : Int), i64 0, i64 0]) pl_130 ti_130 zr_tape_numbers ⟨_, _, _, (kI (x := 1) rfl), rfl, rfl, rfl, (szk (k := 1) rfl rfl), rfl⟩ rfl) ?_
      refine s1 (eqA (p := (r10 : M_tape_numbers)) (q := ((⟨(1 : Int), 0, 0⟩ : M_tape_numbers) : M_tape_numbers)) eq_130_2 rfl eg_130 rfl rfl rfl) ?_
      refine s1 (mv rfl rfl) ?_
      refine sifd 20 rfl ?_ ?_
      · refine sg 20 rfl rfl (faO rfl fd_59_3 rfl rfl) ?_
        refine sg 20 rfl rfl (ldB [3] rfl (by exact rfl) sh_57 (by exact rfl) (by exact rfl) rfl rfl (.inl rfl)) ?_
        refine bd fun r12 h13 => ?_
        refine sg 20 rfl rfl (call0 (c_frac_Right _ h13) ⟨⟨_, rfl, rn_id if_L_frac_Frac⟩, trivial⟩ (if_bl) rfl) ?_
        refine s1 (pickT rfl rfl rfl) ?_
        refine s1 (asg rfl rfl) ?_
        refine snil ?_
        refine pnm ?_
        exact sj (hj8 _) (entR [(100, 100), (101, 101)] rfl (keepS hγ trivial) ⟨⟨_, rfl⟩, ⟨_, rfl⟩, trivial⟩ ⟨⟨_, _, rfl, rfl, rci (rc_bx (rn_id if_L_tape_Tape))⟩, ⟨_, _, rfl, rfl, rci (rc_bx (rn_id if_L_tape_Inst))⟩, trivial⟩ ⟨⟨_, rfl, rn_id if_i64⟩, ⟨_, rfl, rn_own rfl⟩, ⟨_, rfl, rn_id if_bl⟩, ⟨_, rfl, rn_own rfl⟩, trivial⟩)
      · refine spB 20 rfl rfl rfl ?_
        refine spB 20 rfl rfl rfl ?_
        refine spB 20 rfl rfl rfl ?_
        refine s1 (pickF rfl rfl kB) ?_
        refine s1 (asg rfl rfl) ?_
        refine snil ?_
        refine pnm ?_
        exact sj (hj8 _) (entR [(100, 100), (101, 101)] rfl (keepS hγ trivial) ⟨⟨_, rfl⟩, ⟨_, rfl⟩, trivial⟩ ⟨⟨_, _, rfl, rfl, rci (rc_bx (rn_id if_L_tape_Tape))⟩, ⟨_, _, rfl, rfl, rci (rc_bx (rn_id if_L_tape_Inst))⟩, trivial⟩ ⟨⟨_, rfl, rn_id if_i64⟩, ⟨_, rfl, rn_own rfl⟩, ⟨_, rfl, rn_id if_bl⟩, ⟨_, rfl, rn_own rfl⟩, trivial⟩)
    · intro s9
      refine sret ?_
      refine pth ?_
      exact ret [] [.tmp 4] [_] [_] .ret hγ (.inl rfl) rfl ⟨rfl, trivial⟩ rfl trivial trivial trivial (rns_cons (rn_id if_bl) (rns_nil)) rfl
  · refine sskip ?_
    refine pnm ?_
    refine sseq ?_
    refine sseq ?_
    refine sreg ?_
    refine s1 (faO rfl fd_59_3 rfl rfl) ?_
    refine s1 (ldB [3] rfl (by exact rfl) sh_57 (by exact rfl) (by exact rfl) rfl rfl (.inl rfl)) ?_
    refine bd fun r14 h15 => ?_
    refine s1 (call0 (c_tape_blank _ h15) ⟨⟨_, rfl, rn_id if_L_frac_Frac⟩, trivial⟩ (if_bl) rfl) ?_
    refine s1 (notB rfl rfl) ?_
    refine snil ?_
    refine pnm ?_
    refine scond rfl ?_ ?_
    · refine sseq ?_
      refine sreg ?_
      refine s1 (asg rfl kB) ?_
      refine snil ?_
      refine pnm ?_
      refine sret ?_
      refine pth ?_
      exact ret [] [.tmp 4] [_] [_] .ret hγ (.inl rfl) rfl ⟨rfl, trivial⟩ rfl trivial trivial trivial (rns_cons (rn_id if_bl) (rns_nil)) rfl
    · refine sskip ?_
      refine pnm ?_
      refine sseq ?_
      refine sseq ?_
      refine sreg ?_
      refine s1 (ldB [] rfl rfl sh_59 (by exact rfl) (by exact rfl) rfl rfl (.inr ⟨rfl, rfl, _, _, rfl⟩)) ?_
      refine bd fun r16 h17 => ?_
      refine s1 (call0 (c_tape_Reads _ h17) ⟨⟨_, rfl, rn_id if_L_tape_Inst⟩, trivial⟩ (if_sli) rfl) ?_
      refine s1 (lenL (f := i64) Tryd.underlying41 rfl rfl) ?_
      refine s1 (mv rfl (kI (x := 0) rfl)) ?_
      refine snil ?_
      refine pnm ?_
      refine sblk ?_
      refine srangeN (fun (s25 : Unit) => [(1, i64 x1), (2, .own 100), (4, bl false), (5, .own 101), (30, sli 1 (List.map i64 r16))]) (fun (s25 : Unit) => [(100, .bx 47 (L_tape_Tape x0)), (101, .bx 59 (L_tape_Inst y1))]) rfl (fun _ => rfl) (entR [(100, 100), (101, 101)] rfl (keepS hγ trivial) ⟨⟨_, rfl⟩, ⟨_, rfl⟩, trivial⟩ ⟨⟨_, _, rfl, rfl, rci (rc_bx (rn_id if_L_tape_Tape))⟩, ⟨_, _, rfl, rfl, rci (rc_bx (rn_id if_L_tape_Inst))⟩, trivial⟩ ⟨⟨_, rfl, rn_id if_i64⟩, ⟨_, rfl, rn_id if_i64⟩, ⟨_, rfl, rn_id if_i64⟩, ⟨_, rfl, rn_own rfl⟩, ⟨_, rfl, rn_id if_bl⟩, ⟨_, rfl, rn_own rfl⟩, ⟨_, rfl, rn_id if_sli⟩, trivial⟩) ?_ ?_
      · intro i26 x27 s25 hx28
        refine sblk ?_
        refine sseq ?_
        refine sreg ?_
        refine s1 (ixR (f := i64) Tryd.underlying41 ti_3 (getI_nat hx28) rfl rfl rfl) ?_
        refine s1 (ldR sh_3 (by exact rfl) (by exact rfl) rfl rfl) ?_
        refine s1 (asg rfl rfl) ?_
        refine snil ?_
        refine pnm ?_
        refine sseq ?_
        refine sreg ?_
        refine s1 (mv rfl rfl) ?_
        refine s1 (mv rfl rfl) ?_
        refine bd fun r29 h30 => ?_
        refine s1 (call0 (c_tape_below _ h30) ⟨⟨_, rfl, rn_id if_i64⟩, ⟨_, rfl, rn_id if_i64⟩, trivial⟩ (if_bl) rfl) ?_
        refine s1 (notB rfl rfl) ?_
        refine snil ?_
        refine pnm ?_
        refine scond rfl ?_ ?_
        · refine sseq ?_
          refine sreg ?_
          refine s1 (asg rfl kB) ?_
          refine snil ?_
          refine pnm ?_
          refine sret ?_
          refine pbl ?_
          refine sout (fun h => by cases h) ?_
          refine pbl ?_
          refine pth ?_
          exact ret [] [.tmp 4] [_] [_] .ret hγ (.inl rfl) rfl ⟨rfl, trivial⟩ rfl trivial trivial trivial (rns_cons (rn_id if_bl) (rns_nil)) rfl
        · refine sskip ?_
          refine pbn ?_
          exact sgo (entR [(100, 100), (101, 101)] rfl (keepS hγ trivial) ⟨⟨_, rfl⟩, ⟨_, rfl⟩, trivial⟩ ⟨⟨_, _, rfl, rfl, rci (rc_bx (rn_id if_L_tape_Tape))⟩, ⟨_, _, rfl, rfl, rci (rc_bx (rn_id if_L_tape_Inst))⟩, trivial⟩ ⟨⟨_, rfl, rn_id if_i64⟩, ⟨_, rfl, rn_id if_i64⟩, ⟨_, rfl, rn_id if_i64⟩, ⟨_, rfl, rn_own rfl⟩, ⟨_, rfl, rn_id if_bl⟩, ⟨_, rfl, rn_own rfl⟩, ⟨_, rfl, rn_id if_sli⟩, trivial⟩)
      · intro s31
        refine sx ?_
        refine pnm ?_
        refine sseq ?_
        refine sseq ?_
        refine sreg ?_
        refine s1 (faO rfl fd_59_0 rfl rfl) ?_
        refine s1 (ldB [0] rfl (by exact rfl) sh_3 (by exact rfl) (by exact rfl) rfl rfl (.inl rfl)) ?_
        refine snil ?_
        refine pnm ?_
        refine sblk ?_
        refine sseq ?_
        refine sreg ?_
        refine s1 (eqI rfl rfl (kI (x := 2) rfl)) ?_
        refine s1 (asg rfl rfl) ?_
        refine snil ?_
        refine pnm ?_
        refine scond rfl ?_ ?_
        · refine sseq ?_
          refine sreg ?_
          refine s1 (ldB [] rfl rfl sh_59 (by exact rfl) (by exact rfl) rfl rfl (.inr ⟨rfl, rfl, _, _, rfl⟩)) ?_
          refine bd fun r32 h33 => ?_
          refine s1 (call0 (c_tape_of _ h33) ⟨⟨_, rfl, rn_id if_L_tape_Inst⟩, trivial⟩ (if_L_tape_numbers) rfl) ?_
          refine s1 (bld (l := [i64 (2 : Int), i64 0, i64 0]) pl_130 ti_130 zr_tape_numbers ⟨_, _, _, (kI (x := 2) rfl), rfl, rfl, rfl, (szk (k := 1) rfl rfl), rfl⟩ rfl) ?_
          refine s1 (eqA (p := (r32 : M_tape_numbers)) (q := ((⟨(2 : Int), 0, 0⟩ : M_tape_numbers) : M_tape_numbers)) eq_130_2 rfl eg_130 rfl rfl rfl) ?_
          refine s1 (asg rfl rfl) ?_
          refine snil ?_
          refine pnm ?_
          refine sret ?_
          refine pbl ?_
          refine pth ?_
          exact ret [] [.tmp 4] [_] [_] .ret hγ (.inl rfl) rfl ⟨rfl, trivial⟩ rfl trivial trivial trivial (rns_cons (rn_id if_bl) (rns_nil)) rfl
        · refine sseq ?_
          refine sreg ?_
          refine s1 (eqI rfl rfl (kI (x := 3) rfl)) ?_
          refine s1 (asg rfl rfl) ?_
          refine snil ?_
          refine pnm ?_
          refine scond rfl ?_ ?_
          · refine sjq (fun (s38 : Bool) => [(4, bl s38), (5, .own 101)]) (fun (s38 : Bool) => [(101, .bx 59 (L_tape_Inst y1))]) ?_ ?_
            · intro j36 hj37
              refine sreg ?_
              refine s1 (faO rfl fd_59_1 rfl rfl) ?_
              refine s1 (ldB [1] rfl (by exact rfl) sh_3 (by exact rfl) (by exact rfl) rfl rfl (.inl rfl)) ?_
              refine s1 (faO rfl fd_47_2 rfl rfl) ?_
              refine s1 (ldB [2] rfl (by exact rfl) sh_3 (by exact rfl) (by exact rfl) rfl rfl (.inl rfl)) ?_
              refine bd fun r39 h40 => ?_
              refine s1 (call0 (c_tape_below _ h40) ⟨⟨_, rfl, rn_id if_i64⟩, ⟨_, rfl, rn_id if_i64⟩, trivial⟩ (if_bl) rfl) ?_
              refine s1 (mv rfl rfl) ?_
              refine sifd 56 rfl ?_ ?_
              · refine sg 56 rfl rfl (faO rfl fd_59_2 rfl rfl) ?_
                refine sg 56 rfl rfl (ldB [2] rfl (by exact rfl) sh_3 (by exact rfl) (by exact rfl) rfl rfl (.inl rfl)) ?_
                refine sg 56 rfl rfl (eqI rfl rfl (kI (x := 0) rfl)) ?_
                refine s1 (pickT rfl rfl rfl) ?_
                refine s1 (asg rfl rfl) ?_
                refine snil ?_
                refine pnm ?_
                exact sj (hj37 _) (entR [(101, 101)] rfl (keepS hγ trivial) ⟨⟨_, rfl⟩, trivial⟩ ⟨⟨_, _, rfl, rfl, rci (rc_bx (rn_id if_L_tape_Inst))⟩, trivial⟩ ⟨⟨_, rfl, rn_id if_bl⟩, ⟨_, rfl, rn_own rfl⟩, trivial⟩)
              · refine spB 56 rfl rfl rfl ?_
                refine spB 56 rfl rfl rfl ?_
                refine spB 56 rfl rfl rfl ?_
                refine s1 (pickF rfl rfl kB) ?_
                refine s1 (asg rfl rfl) ?_
                refine snil ?_
                refine pnm ?_
                exact sj (hj37 _) (entR [(101, 101)] rfl (keepS hγ trivial) ⟨⟨_, rfl⟩, trivial⟩ ⟨⟨_, _, rfl, rfl, rci (rc_bx (rn_id if_L_tape_Inst))⟩, trivial⟩ ⟨⟨_, rfl, rn_id if_bl⟩, ⟨_, rfl, rn_own rfl⟩, trivial⟩)
            · intro s38
              refine sret ?_
              refine pbl ?_
              refine pth ?_
              exact ret [] [.tmp 4] [_] [_] .ret hγ (.inl rfl) rfl ⟨rfl, trivial⟩ rfl trivial trivial trivial (rns_cons (rn_id if_bl) (rns_nil)) rfl
          · refine sseq ?_
            refine sreg ?_
            refine s1 (eqI rfl rfl (kI (x := 4) rfl)) ?_
            refine s1 (asg rfl rfl) ?_
            refine snil ?_
            refine pnm ?_
            refine scond rfl ?_ ?_
            · refine sjq (fun (s45 : Bool) => [(4, bl s45), (5, .own 101)]) (fun (s45 : Bool) => [(101, .bx 59 (L_tape_Inst y1))]) ?_ ?_
              · intro j43 hj44
                refine sreg ?_
                refine s1 (faO rfl fd_59_1 rfl rfl) ?_
                refine s1 (ldB [1] rfl (by exact rfl) sh_3 (by exact rfl) (by exact rfl) rfl rfl (.inl rfl)) ?_
                refine s1 (faO rfl fd_47_3 rfl rfl) ?_
                refine s1 (ldB [3] rfl (by exact rfl) sh_3 (by exact rfl) (by exact rfl) rfl rfl (.inl rfl)) ?_
                refine bd fun r46 h47 => ?_
                refine s1 (call0 (c_tape_below _ h47) ⟨⟨_, rfl, rn_id if_i64⟩, ⟨_, rfl, rn_id if_i64⟩, trivial⟩ (if_bl) rfl) ?_
                refine s1 (mv rfl rfl) ?_
                refine sifd 68 rfl ?_ ?_
                · refine sg 68 rfl rfl (faO rfl fd_59_2 rfl rfl) ?_
                  refine sg 68 rfl rfl (ldB [2] rfl (by exact rfl) sh_3 (by exact rfl) (by exact rfl) rfl rfl (.inl rfl)) ?_
                  refine sg 68 rfl rfl (eqI rfl rfl (kI (x := 0) rfl)) ?_
                  refine s1 (pickT rfl rfl rfl) ?_
                  refine s1 (asg rfl rfl) ?_
                  refine snil ?_
                  refine pnm ?_
                  exact sj (hj44 _) (entR [(101, 101)] rfl (keepS hγ trivial) ⟨⟨_, rfl⟩, trivial⟩ ⟨⟨_, _, rfl, rfl, rci (rc_bx (rn_id if_L_tape_Inst))⟩, trivial⟩ ⟨⟨_, rfl, rn_id if_bl⟩, ⟨_, rfl, rn_own rfl⟩, trivial⟩)
                · refine spB 68 rfl rfl rfl ?_
                  refine spB 68 rfl rfl rfl ?_
                  refine spB 68 rfl rfl rfl ?_
                  refine s1 (pickF rfl rfl kB) ?_
                  refine s1 (asg rfl rfl) ?_
                  refine snil ?_
                  refine pnm ?_
                  exact sj (hj44 _) (entR [(101, 101)] rfl (keepS hγ trivial) ⟨⟨_, rfl⟩, trivial⟩ ⟨⟨_, _, rfl, rfl, rci (rc_bx (rn_id if_L_tape_Inst))⟩, trivial⟩ ⟨⟨_, rfl, rn_id if_bl⟩, ⟨_, rfl, rn_own rfl⟩, trivial⟩)
              · intro s45
                refine sret ?_
                refine pbl ?_
                refine pth ?_
                exact ret [] [.tmp 4] [_] [_] .ret hγ (.inl rfl) rfl ⟨rfl, trivial⟩ rfl trivial trivial trivial (rns_cons (rn_id if_bl) (rns_nil)) rfl
            · refine sseq ?_
              refine sreg ?_
              refine s1 (eqI rfl rfl (kI (x := 6) rfl)) ?_
              refine s1 (asg rfl rfl) ?_
              refine snil ?_
              refine pnm ?_
              refine scond rfl ?_ ?_
              · refine sseq ?_
                refine sreg ?_
                refine s1 (faO rfl fd_59_2 rfl rfl) ?_
                refine s1 (ldB [2] rfl (by exact rfl) sh_3 (by exact rfl) (by exact rfl) rfl rfl (.inl rfl)) ?_
                refine s1 (eqI rfl rfl (kI (x := 0) rfl)) ?_
                refine s1 (asg rfl rfl) ?_
                refine snil ?_
                refine pnm ?_
                refine sret ?_
                refine pbl ?_
                refine pth ?_
                exact ret [] [.tmp 4] [_] [_] .ret hγ (.inl rfl) rfl ⟨rfl, trivial⟩ rfl trivial trivial trivial (rns_cons (rn_id if_bl) (rns_nil)) rfl
              · refine sseq ?_
                refine sreg ?_
                refine s1 (eqI rfl rfl (kI (x := 11) rfl)) ?_
                refine s1 (asg rfl rfl) ?_
                refine snil ?_
                refine pnm ?_
                refine scond rfl ?_ ?_
                · refine sjq (fun (s50 : Bool) => [(4, bl s50), (5, .own 101)]) (fun (s50 : Bool) => [(101, .bx 59 (L_tape_Inst y1))]) ?_ ?_
                  · intro j48 hj49
                    refine sreg ?_
                    refine s1 (faO rfl fd_59_2 rfl rfl) ?_
                    refine s1 (ldB [2] rfl (by exact rfl) sh_3 (by exact rfl) (by exact rfl) rfl rfl (.inl rfl)) ?_
                    refine s1 (geI rfl rfl (kI (x := (-8)) rfl)) ?_
                    refine s1 (mv rfl rfl) ?_
                    refine sifd 83 rfl ?_ ?_
                    · refine sg 83 rfl rfl (faO rfl fd_59_2 rfl rfl) ?_
                      refine sg 83 rfl rfl (ldB [2] rfl (by exact rfl) sh_3 (by exact rfl) (by exact rfl) rfl rfl (.inl rfl)) ?_
                      refine sg 83 rfl rfl (leI rfl rfl (kI (x := 8) rfl)) ?_
                      refine s1 (pickT rfl rfl rfl) ?_
                      refine s1 (asg rfl rfl) ?_
                      refine snil ?_
                      refine pnm ?_
                      exact sj (hj49 _) (entR [(101, 101)] rfl (keepS hγ trivial) ⟨⟨_, rfl⟩, trivial⟩ ⟨⟨_, _, rfl, rfl, rci (rc_bx (rn_id if_L_tape_Inst))⟩, trivial⟩ ⟨⟨_, rfl, rn_id if_bl⟩, ⟨_, rfl, rn_own rfl⟩, trivial⟩)
                    · refine spB 83 rfl rfl rfl ?_
                      refine spB 83 rfl rfl rfl ?_
                      refine spB 83 rfl rfl rfl ?_
                      refine s1 (pickF rfl rfl kB) ?_
                      refine s1 (asg rfl rfl) ?_
                      refine snil ?_
                      refine pnm ?_
                      exact sj (hj49 _) (entR [(101, 101)] rfl (keepS hγ trivial) ⟨⟨_, rfl⟩, trivial⟩ ⟨⟨_, _, rfl, rfl, rci (rc_bx (rn_id if_L_tape_Inst))⟩, trivial⟩ ⟨⟨_, rfl, rn_id if_bl⟩, ⟨_, rfl, rn_own rfl⟩, trivial⟩)
                  · intro s50
                    refine sret ?_
                    refine pbl ?_
                    refine pth ?_
                    exact ret [] [.tmp 4] [_] [_] .ret hγ (.inl rfl) rfl ⟨rfl, trivial⟩ rfl trivial trivial trivial (rns_cons (rn_id if_bl) (rns_nil)) rfl
                · refine sskip ?_
                  refine pbn ?_
                  refine pnm ?_
                  refine sseq ?_
                  refine sreg ?_
                  refine s1 (ldB [] rfl rfl sh_59 (by exact rfl) (by exact rfl) rfl rfl (.inr ⟨rfl, rfl, _, _, rfl⟩)) ?_
                  refine bd fun r51 h52 => ?_
                  refine s1 (call0 (c_tape_Reads _ h52) ⟨⟨_, rfl, rn_id if_L_tape_Inst⟩, trivial⟩ (if_sli) rfl) ?_
                  refine s1 (lenL (f := i64) Tryd.underlying41 rfl rfl) ?_
                  refine s1 (eqI rfl rfl (kI (x := 2) rfl)) ?_
                  refine s1 (asg rfl rfl) ?_
                  refine snil ?_
                  refine pnm ?_
                  refine sret ?_
                  exact ret [] [.tmp 4] [_] [_] .ret hγ (.inl rfl) rfl ⟨rfl, trivial⟩ rfl trivial trivial trivial (rns_cons (rn_id if_bl) (rns_nil)) rfl
theorem c_tape_Wrong {n : Nat} {x0 : M_tape_Tape} : ∀ r, m_tape_Wrong n x0 = some r → FnOk Tryd.prog 35 [L_tape_Tape x0] [] (i64 r) [] := by
  unfold m_tape_Wrong
  refine fn_of_sq (res := fun (r : Int) => i64 r) (mo := fun (r : Int) => []) Tryd.func35 rfl rfl (by kernel_rfl) rfl ?_
  intro w S0 γ hγ
  refine sseq ?_
  refine sreg ?_
  refine so (box (y := 100) (by exact rfl) rfl rfl rfl) ?_
  refine s1 (asg rfl (kI (x := 0) rfl)) ?_
  refine snil ?_
  refine pnm ?_
  refine sseq ?_
  refine sseq ?_
  refine sreg ?_
  refine s1 (ldB [] rfl rfl sh_47 (by exact rfl) (by exact rfl) rfl rfl (.inr ⟨rfl, rfl, _, _, rfl⟩)) ?_
  refine bd fun r1 h2 => ?_
  refine s1 (call0 (c_tape_whole _ h2) ⟨⟨_, rfl, rn_id if_L_tape_Tape⟩, trivial⟩ (if_bl) rfl) ?_
  refine s1 (notB rfl rfl) ?_
  refine snil ?_
  refine pnm ?_
  refine scond rfl ?_ ?_
  · refine sseq ?_
    refine sreg ?_
    refine s1 (asg rfl (kI (x := (-2)) rfl)) ?_
    refine snil ?_
    refine pnm ?_
    refine sret ?_
    refine pth ?_
    exact ret [] [.tmp 2] [_] [_] .ret hγ (.inl rfl) rfl ⟨rfl, trivial⟩ rfl trivial trivial trivial (rns_cons (rn_id if_i64) (rns_nil)) rfl
  · refine sskip ?_
    refine pnm ?_
    refine sseq ?_
    refine sseq ?_
    refine sreg ?_
    refine s1 (faO rfl fd_47_0 rfl rfl) ?_
    refine s1 (ldB [0] rfl (by exact rfl) sh_45 (by exact rfl) (by exact rfl) rfl rfl (.inl rfl)) ?_
    refine s1 (lenL (f := L_tape_Inst) Tryd.underlying45 rfl rfl) ?_
    refine s1 (mv rfl (kI (x := 0) rfl)) ?_
    refine snil ?_
    refine pnm ?_
    refine sblk ?_
    refine srangeN (fun (s10 : Unit) => [(1, .own 100), (2, i64 (0 : Int))]) (fun (s10 : Unit) => [(100, .bx 47 (L_tape_Tape x0))]) rfl (fun _ => rfl) (entR [(100, 100)] rfl (keepS hγ trivial) ⟨⟨_, rfl⟩, trivial⟩ ⟨⟨_, _, rfl, rfl, rci (rc_bx (rn_id if_L_tape_Tape))⟩, trivial⟩ ⟨⟨_, rfl, rn_id if_i64⟩, ⟨_, rfl, rn_id if_i64⟩, ⟨_, rfl, rn_own rfl⟩, ⟨_, rfl, rn_id if_i64⟩, trivial⟩) ?_ ?_
    · intro i11 x12 s10 hx13
      refine sblk ?_
      refine sseq ?_
      refine sreg ?_
      refine s1 (mv rfl rfl) ?_
      refine s1 (asg rfl rfl) ?_
      refine snil ?_
      refine pnm ?_
      refine sseq ?_
      refine sreg ?_
      refine s1 (ldB [] rfl rfl sh_47 (by exact rfl) (by exact rfl) rfl rfl (.inr ⟨rfl, rfl, _, _, rfl⟩)) ?_
      refine s1 (mv rfl rfl) ?_
      refine bd fun r14 h15 => ?_
      refine s1 (call0 (c_tape_may _ h15) ⟨⟨_, rfl, rn_id if_L_tape_Tape⟩, ⟨_, rfl, rn_id if_i64⟩, trivial⟩ (if_bl) rfl) ?_
      refine s1 (notB rfl rfl) ?_
      refine snil ?_
      refine pnm ?_
      refine scond rfl ?_ ?_
      · refine sseq ?_
        refine sreg ?_
        refine s1 (mv rfl rfl) ?_
        refine s1 (asg rfl rfl) ?_
        refine snil ?_
        refine pnm ?_
        refine sret ?_
        refine pbl ?_
        refine sout (fun h => by cases h) ?_
        refine pbl ?_
        refine pth ?_
        exact ret [] [.tmp 2] [_] [_] .ret hγ (.inl rfl) rfl ⟨rfl, trivial⟩ rfl trivial trivial trivial (rns_cons (rn_id if_i64) (rns_nil)) rfl
      · refine sskip ?_
        refine pbn ?_
        exact sgo (entR [(100, 100)] rfl (keepS hγ trivial) ⟨⟨_, rfl⟩, trivial⟩ ⟨⟨_, _, rfl, rfl, rci (rc_bx (rn_id if_L_tape_Tape))⟩, trivial⟩ ⟨⟨_, rfl, rn_id if_i64⟩, ⟨_, rfl, rn_id if_i64⟩, ⟨_, rfl, rn_own rfl⟩, ⟨_, rfl, rn_id if_i64⟩, trivial⟩)
    · intro s16
      refine sx ?_
      refine pnm ?_
      refine sseq ?_
      refine sseq ?_
      refine sreg ?_
      refine s1 (faO rfl fd_47_1 rfl rfl) ?_
      refine s1 (ldB [1] rfl (by exact rfl) sh_41 (by exact rfl) (by exact rfl) rfl rfl (.inl rfl)) ?_
      refine s1 (lenL (f := i64) Tryd.underlying41 rfl rfl) ?_
      refine s1 (mv rfl (kI (x := 0) rfl)) ?_
      refine snil ?_
      refine pnm ?_
      refine sblk ?_
      refine srangeN (fun (s24 : Unit) => [(1, .own 100), (2, i64 (0 : Int)), (22, sli 1 (List.map i64 x0.Outs))]) (fun (s24 : Unit) => [(100, .bx 47 (L_tape_Tape x0))]) rfl (fun _ => rfl) (entR [(100, 100)] rfl (keepS hγ trivial) ⟨⟨_, rfl⟩, trivial⟩ ⟨⟨_, _, rfl, rfl, rci (rc_bx (rn_id if_L_tape_Tape))⟩, trivial⟩ ⟨⟨_, rfl, rn_id if_i64⟩, ⟨_, rfl, rn_id if_i64⟩, ⟨_, rfl, rn_own rfl⟩, ⟨_, rfl, rn_id if_i64⟩, ⟨_, rfl, rn_id if_sli⟩, trivial⟩) ?_ ?_
      · intro i25 x26 s24 hx27
        refine sblk ?_
        refine sseq ?_
        refine sreg ?_
        refine s1 (ixR (f := i64) Tryd.underlying41 ti_3 (getI_nat hx27) rfl rfl rfl) ?_
        refine s1 (ldR sh_3 (by exact rfl) (by exact rfl) rfl rfl) ?_
        refine s1 (asg rfl rfl) ?_
        refine snil ?_
        refine pnm ?_
        refine sseq ?_
        refine sreg ?_
        refine s1 (mv rfl rfl) ?_
        refine s1 (faO rfl fd_47_0 rfl rfl) ?_
        refine s1 (ldB [0] rfl (by exact rfl) sh_45 (by exact rfl) (by exact rfl) rfl rfl (.inl rfl)) ?_
        refine s1 (lenL (f := L_tape_Inst) Tryd.underlying45 rfl rfl) ?_
        refine bd fun r28 h29 => ?_
        refine s1 (call0 (c_tape_below _ h29) ⟨⟨_, rfl, rn_id if_i64⟩, ⟨_, rfl, rn_id if_i64⟩, trivial⟩ (if_bl) rfl) ?_
        refine s1 (notB rfl rfl) ?_
        refine snil ?_
        refine pnm ?_
        refine scond rfl ?_ ?_
        · refine sseq ?_
          refine sreg ?_
          refine s1 (faO rfl fd_47_0 rfl rfl) ?_
          refine s1 (ldB [0] rfl (by exact rfl) sh_45 (by exact rfl) (by exact rfl) rfl rfl (.inl rfl)) ?_
          refine s1 (lenL (f := L_tape_Inst) Tryd.underlying45 rfl rfl) ?_
          refine s1 (asg rfl rfl) ?_
          refine snil ?_
          refine pnm ?_
          refine sret ?_
          refine pbl ?_
          refine sout (fun h => by cases h) ?_
          refine pbl ?_
          refine pth ?_
          exact ret [] [.tmp 2] [_] [_] .ret hγ (.inl rfl) rfl ⟨rfl, trivial⟩ rfl trivial trivial trivial (rns_cons (rn_id if_i64) (rns_nil)) rfl
        · refine sskip ?_
          refine pbn ?_
          exact sgo (entR [(100, 100)] rfl (keepS hγ trivial) ⟨⟨_, rfl⟩, trivial⟩ ⟨⟨_, _, rfl, rfl, rci (rc_bx (rn_id if_L_tape_Tape))⟩, trivial⟩ ⟨⟨_, rfl, rn_id if_i64⟩, ⟨_, rfl, rn_id if_i64⟩, ⟨_, rfl, rn_own rfl⟩, ⟨_, rfl, rn_id if_i64⟩, ⟨_, rfl, rn_id if_sli⟩, trivial⟩)
      · intro s30
        refine sx ?_
        refine pnm ?_
        refine sseq ?_
        refine sreg ?_
        refine s1 (asg rfl (kI (x := (-1)) rfl)) ?_
        refine snil ?_
        refine pnm ?_
        refine sret ?_
        exact ret [] [.tmp 2] [_] [_] .ret hγ (.inl rfl) rfl ⟨rfl, trivial⟩ rfl trivial trivial trivial (rns_cons (rn_id if_i64) (rns_nil)) rfl
theorem c_tape_Right {n : Nat} {x0 : M_tape_Tape} : ∀ r, m_tape_Right n x0 = some r → FnOk Tryd.prog 19 [L_tape_Tape x0] [] (bl r) [] := by
  unfold m_tape_Right
  refine fn_of_sq (res := fun (r : Bool) => bl r) (mo := fun (r : Bool) => []) Tryd.func19 rfl rfl (by kernel_rfl) rfl ?_
  intro w S0 γ hγ
  refine sseq ?_
  refine sreg ?_
  refine so (box (y := 100) (by exact rfl) rfl rfl rfl) ?_
  refine s1 (asg rfl kB) ?_
  refine snil ?_
  refine pnm ?_
  refine sseq ?_
  refine sreg ?_
  refine s1 (ldB [] rfl rfl sh_47 (by exact rfl) (by exact rfl) rfl rfl (.inr ⟨rfl, rfl, _, _, rfl⟩)) ?_
  refine bd fun r1 h2 => ?_
  refine s1 (call0 (c_tape_Wrong _ h2) ⟨⟨_, rfl, rn_id if_L_tape_Tape⟩, trivial⟩ (if_i64) rfl) ?_
  refine s1 (eqI rfl rfl (kI (x := (-1)) rfl)) ?_
  refine s1 (asg rfl rfl) ?_
  refine snil ?_
  refine pnm ?_
  refine sret ?_
  exact ret [] [.tmp 2] [_] [_] .ret hγ (.inl rfl) rfl ⟨rfl, trivial⟩ rfl trivial trivial trivial (rns_cons (rn_id if_bl) (rns_nil)) rfl
theorem c_tape_name {x0 : Int} : ∀ r, m_tape_name x0 = some r → FnOk Tryd.prog 61 [i64 x0] [] (str r) [] := by
  unfold m_tape_name
  refine fn_of_sq (res := fun (r : (List UInt8)) => str r) (mo := fun (r : (List UInt8)) => []) Tryd.func61 rfl rfl (by kernel_rfl) rfl ?_
  intro w S0 γ hγ
  refine sseq ?_
  refine sreg ?_
  refine s1 (asg rfl (kS (s := []) rfl)) ?_
  refine snil ?_
  refine pnm ?_
  refine sseq ?_
  refine sreg ?_
  refine s1 (bldA (l := [str [], str ([99, 111, 110, 115, 116] : List UInt8), str ([116, 105, 109, 101] : List UInt8), str ([115, 116, 97, 116, 101] : List UInt8), str ([112, 97, 114] : List UInt8), str [], str ([110, 101, 103] : List UInt8), str ([97, 100, 100] : List UInt8), str ([115, 117, 98] : List UInt8), str ([109, 117, 108] : List UInt8), str ([113, 117, 111] : List UInt8), str ([112, 111, 119] : List UInt8)]) Tryd.underlying153 ti_153 ti_9 zr_A12_string rfl ⟨_, _, _, (kS (s := [99, 111, 110, 115, 116]) rfl), rfl, rfl, rfl, rfl, rfl, ⟨_, _, _, (kS (s := [116, 105, 109, 101]) rfl), rfl, rfl, rfl, rfl, rfl, ⟨_, _, _, (kS (s := [115, 116, 97, 116, 101]) rfl), rfl, rfl, rfl, rfl, rfl, ⟨_, _, _, (kS (s := [112, 97, 114]) rfl), rfl, rfl, rfl, rfl, rfl, ⟨_, _, _, (kS (s := [110, 101, 103]) rfl), rfl, rfl, rfl, rfl, rfl, ⟨_, _, _, (kS (s := [97, 100, 100]) rfl), rfl, rfl, rfl, rfl, rfl, ⟨_, _, _, (kS (s := [115, 117, 98]) rfl), rfl, rfl, rfl, rfl, rfl, ⟨_, _, _, (kS (s := [109, 117, 108]) rfl), rfl, rfl, rfl, rfl, rfl, ⟨_, _, _, (kS (s := [113, 117, 111]) rfl), rfl, rfl, rfl, rfl, rfl, ⟨_, _, _, (kS (s := [112, 111, 119]) rfl), rfl, rfl, rfl, rfl, rfl, rfl⟩⟩⟩⟩⟩⟩⟩⟩⟩⟩ rfl) ?_
  refine so (al (y := 100) (ly := L_A12_string (⟨[], [], [], [], [], [], [], [], [], [], [], []⟩ : M_A12_string)) ti_153 zr_A12_string rfl rfl) ?_
  refine so (stB2 (ly2 := L_A12_string (⟨[], ([99, 111, 110, 115, 116] : List UInt8), ([116, 105, 109, 101] : List UInt8), ([115, 116, 97, 116, 101] : List UInt8), ([112, 97, 114] : List UInt8), [], ([110, 101, 103] : List UInt8), ([97, 100, 100] : List UInt8), ([115, 117, 98] : List UInt8), ([109, 117, 108] : List UInt8), ([113, 117, 111] : List UInt8), ([112, 111, 119] : List UInt8)⟩ : M_A12_string)) [] (by exact rfl) rfl (by exact rfl) sh_153 (by exact rfl) (by exact rfl) (by exact rfl) rfl (.inr ⟨rfl, rfl, _, _, rfl⟩) rfl) ?_
  refine snil ?_
  refine pnm ?_
  refine sseq ?_
  refine sreg ?_
  refine s1 (mv rfl rfl) ?_
  refine bd fun y1 h2 => ?_
  refine s1 (ixAO Tryd.underlying153 ti_9 (getI_dec (n := 12) rfl h2) (.inr ⟨rfl, rfl, _, _, rfl⟩) rfl rfl rfl) ?_
  refine s1 (ldB (ly := .agg (List.map str ([[], ([99, 111, 110, 115, 116] : List UInt8), ([116, 105, 109, 101] : List UInt8), ([115, 116, 97, 116, 101] : List UInt8), ([112, 97, 114] : List UInt8), [], ([110, 101, 103] : List UInt8), ([97, 100, 100] : List UInt8), ([115, 117, 98] : List UInt8), ([109, 117, 108] : List UInt8), ([113, 117, 111] : List UInt8), ([112, 111, 119] : List UInt8)] : List (List UInt8)))) [Int.toNat x0] rfl (goA0 (f := str) (fun _ => rfl) h2) sh_9 (by exact rfl) (by exact rfl) rfl rfl (.inl rfl)) ?_
  refine s1 (asg rfl rfl) ?_
  refine snil ?_
  refine pnm ?_
  refine sret ?_
  exact ret [] [.tmp 2] [_] [_] .ret hγ (.inl rfl) rfl ⟨rfl, trivial⟩ rfl trivial trivial trivial (rns_cons (rn_id if_str) (rns_nil)) rfl
theorem c_digits_nine {n : Nat} {x0 : Nat} : ∀ r, m_digits_nine n x0 = some r → FnOk Tryd.prog 79 [u32 x0] [] (str r) [] := by
  unfold m_digits_nine
  refine fn_of_sq (res := fun (r : (List UInt8)) => str r) (mo := fun (r : (List UInt8)) => []) Tryd.func79 rfl rfl (by kernel_rfl) rfl ?_
  intro w S0 γ hγ
  refine sseq ?_
  refine sreg ?_
  refine s1 (asg rfl (kS (s := []) rfl)) ?_
  refine snil ?_
  refine pnm ?_
  refine sseq ?_
  refine sreg ?_
  refine so (al (y := 100) (ly := L_A9_u8 (⟨0, 0, 0, 0, 0, 0, 0, 0, 0⟩ : M_A9_u8)) ti_172 zr_A9_u8 rfl rfl) ?_
  refine snil ?_
  refine pnm ?_
  refine sseq ?_
  refine sseq ?_
  refine sreg ?_
  refine s1 (asg rfl (kI (x := 8) rfl)) ?_
  refine snil ?_
  refine pnm ?_
  refine sblk ?_
  refine sloopE 0 (fun t => t) (fun (s7 : Nat × M_A9_u8 × Int) => [(0, u32 s7.1), (2, str ([] : List UInt8)), (3, .own 100), (4, i64 s7.2.2)]) (fun (s7 : Nat × M_A9_u8 × Int) => [(100, .bx 172 (L_A9_u8 s7.2.1))]) (fun (t5 : M_A9_u8) => [(2, str ([] : List UInt8)), (3, .own 100)]) (fun (t5 : M_A9_u8) => [(100, .bx 172 (L_A9_u8 t5))]) (entR [(100, 100)] rfl (keepS hγ trivial) ⟨⟨_, rfl⟩, trivial⟩ ⟨⟨_, _, rfl, rfl, rci (rc_bx (rn_id if_L_A9_u8))⟩, trivial⟩ ⟨⟨_, rfl, rn_id if_u32⟩, ⟨_, rfl, rn_id if_str⟩, ⟨_, rfl, rn_own rfl⟩, ⟨_, rfl, rn_id if_i64⟩, trivial⟩) ?_ ?_
  · intro hj6 s7
    refine sseq ?_
    refine sseq ?_
    refine sreg ?_
    refine s1 (mv rfl rfl) ?_
    refine s1 (geI rfl rfl (kI (x := 0) rfl)) ?_
    refine snil ?_
    refine pnm ?_
    refine scond rfl ?_ ?_
    · refine sskip ?_
      refine pnm ?_
      refine sseq ?_
      refine sblk ?_
      refine sseq ?_
      refine sreg ?_
      refine s1 (mv rfl rfl) ?_
      refine s1 (mv rfl rfl) ?_
      refine s1 (remU uk32 rfl rfl rfl (k32 (x := 10) rfl)) ?_
      refine s1 (addU uk32 rfl (k32 (x := 48) rfl) rfl) ?_
      refine s1 (cvU uk8 Tryd.underlying139 Tryd.underlying5 rfl rfl) ?_
      refine bd fun y8 h9 => ?_
      refine s1 (ixAO Tryd.underlying172 ti_5 (getI_dec (n := 9) rfl h9) (.inr ⟨rfl, rfl, _, _, rfl⟩) rfl rfl rfl) ?_
      refine so (stB2 (ly := .agg (List.map u8 ([s7.2.1.a0, s7.2.1.a1, s7.2.1.a2, s7.2.1.a3, s7.2.1.a4, s7.2.1.a5, s7.2.1.a6, s7.2.1.a7, s7.2.1.a8] : List Nat))) (ly2 := L_A9_u8 (ofl_A9_u8 (List.set ([s7.2.1.a0, s7.2.1.a1, s7.2.1.a2, s7.2.1.a3, s7.2.1.a4, s7.2.1.a5, s7.2.1.a6, s7.2.1.a7, s7.2.1.a8] : List Nat) (Int.toNat s7.2.2) (((48 + (s7.1 % 10)) % 4294967296) % 256)))) (ln := u8 (((48 + (s7.1 % 10)) % 4294967296) % 256)) [Int.toNat s7.2.2] (puA0 (f := u8) h9 (ofl_ok_A9_u8 _ (List.length_set.trans rfl))) rfl (goA0 (f := u8) (fun _ => rfl) h9) sh_5 (by exact rfl) (by exact rfl) (by exact rfl) rfl (.inl rfl) rfl) ?_
      refine snil ?_
      refine pnm ?_
      refine sreg ?_
      refine s1 (mv rfl rfl) ?_
      refine s1 (quoU uk32 rfl rfl rfl (k32 (x := 10) rfl)) ?_
      refine s1 (asg rfl rfl) ?_
      refine snil ?_
      refine pbn ?_
      refine pnm ?_
      refine sreg ?_
      refine s1 (mv rfl rfl) ?_
      refine s1 (subI rfl rfl (kI (x := 1) rfl)) ?_
      refine s1 (asg rfl rfl) ?_
      refine snil ?_
      exact sgo (entR [(100, 100)] rfl (keepS hγ trivial) ⟨⟨_, rfl⟩, trivial⟩ ⟨⟨_, _, rfl, rfl, rci (rc_bx (rn_id if_L_A9_u8))⟩, trivial⟩ ⟨⟨_, rfl, rn_id if_u32⟩, ⟨_, rfl, rn_id if_str⟩, ⟨_, rfl, rn_own rfl⟩, ⟨_, rfl, rn_id if_i64⟩, trivial⟩)
    · refine sexit ?_
      refine ptx ?_
      exact sout (fun h => by cases h) (sj (hj6 _) (entR [(100, 100)] rfl (keepS hγ trivial) ⟨⟨_, rfl⟩, trivial⟩ ⟨⟨_, _, rfl, rfl, rci (rc_bx (rn_id if_L_A9_u8))⟩, trivial⟩ ⟨⟨_, rfl, rn_id if_str⟩, ⟨_, rfl, rn_own rfl⟩, trivial⟩))
  · intro t5
    refine sx ?_
    refine pnm ?_
    refine sseq ?_
    refine sreg ?_
    refine so (slA (f := u8) (xs := ([t5.a0, t5.a1, t5.a2, t5.a3, t5.a4, t5.a5, t5.a6, t5.a7, t5.a8] : List Nat)) Tryd.underlying172 ti_5 rfl rfl rfl (fun _ => if_u8) (fun _ => rfl) rfl rfl) ?_
    refine sbn (F := (fun x => sli 1 (List.map u8 x))) 17 rfl fun z10 => ?_
    refine s1 (cvBS Tryd.underlying80 Tryd.underlying5 Tryd.underlying9 rfl rfl) ?_
    refine s1 (asg rfl rfl) ?_
    refine snil ?_
    refine pnm ?_
    refine sret ?_
    exact ret [] [.tmp 2] [_] [_] .ret hγ (.inl rfl) rfl ⟨rfl, trivial⟩ rfl trivial trivial trivial (rns_cons (rn_id if_str) (rns_nil)) rfl
theorem c_digits_Text {n : Nat} {x0 : (List Nat)} : ∀ r, m_digits_Text n x0 = some r → FnOk Tryd.prog 56 [sli 1 (List.map u32 x0)] [] (str r) [] := by
  unfold m_digits_Text
  refine fn_of_sq (res := fun (r : (List UInt8)) => str r) (mo := fun (r : (List UInt8)) => []) Tryd.func56 rfl rfl (by kernel_rfl) rfl ?_
  intro w S0 γ hγ
  refine sseq ?_
  refine sreg ?_
  refine s1 (asg rfl (kS (s := []) rfl)) ?_
  refine snil ?_
  refine pnm ?_
  refine sseq ?_
  refine sseq ?_
  refine sreg ?_
  refine s1 (mv rfl rfl) ?_
  refine bd fun r1 h2 => ?_
  refine s1 (call0 (c_nat_Zero _ h2) ⟨⟨_, rfl, rn_id if_sli⟩, trivial⟩ (if_bl) rfl) ?_
  refine snil ?_
  refine pnm ?_
  refine scond rfl ?_ ?_
  · refine sseq ?_
    refine sreg ?_
    refine s1 (asg rfl (kS (s := [48]) rfl)) ?_
    refine snil ?_
    refine pnm ?_
    refine sret ?_
    refine pth ?_
    exact ret [] [.tmp 2] [_] [_] .ret hγ (.inl rfl) rfl ⟨rfl, trivial⟩ rfl trivial trivial trivial (rns_cons (rn_id if_str) (rns_nil)) rfl
  · refine sskip ?_
    refine pnm ?_
    refine sseq ?_
    refine sreg ?_
    refine so (asgN (y := 100) (E := 9) (k := 1) rfl rfl) ?_
    refine snil ?_
    refine pnm ?_
    refine sseq ?_
    refine sblk ?_
    refine sloopE 0 (fun t => t) (fun (s23 : (List Nat) × (List (List UInt8))) => [(0, sli 1 (List.map u32 s23.1)), (2, str ([] : List UInt8)), (3, .own 100)]) (fun (s23 : (List Nat) × (List (List UInt8))) => [(100, .sl 9 1 (List.map str s23.2))]) (fun (t21 : (List (List UInt8))) => [(2, str ([] : List UInt8)), (3, .own 100)]) (fun (t21 : (List (List UInt8))) => [(100, .sl 9 1 (List.map str t21))]) (entR [(100, 100)] rfl (keepS hγ trivial) ⟨⟨_, rfl⟩, trivial⟩ ⟨⟨_, _, rfl, rfl, rci (rc_sl (ifs_map (f := str) (fun _ => if_str) ([] : List (List UInt8))))⟩, trivial⟩ ⟨⟨_, rfl, rn_id if_sli⟩, ⟨_, rfl, rn_id if_str⟩, ⟨_, rfl, rn_own rfl⟩, trivial⟩) ?_ ?_
    · intro hj22 s23
      refine sseq ?_
      refine sseq ?_
      refine sreg ?_
      refine s1 (mv rfl rfl) ?_
      refine bd fun r24 h25 => ?_
      refine s1 (call0 (c_nat_Zero _ h25) ⟨⟨_, rfl, rn_id if_sli⟩, trivial⟩ (if_bl) rfl) ?_
      refine s1 (notB rfl rfl) ?_
      refine snil ?_
      refine pnm ?_
      refine scond rfl ?_ ?_
      · refine sskip ?_
        refine pnm ?_
        refine sblk ?_
        refine sseq ?_
        refine sreg ?_
        refine s1 (mv rfl rfl) ?_
        refine bd fun r26 h27 => ?_
        refine s1 (call0 (c_quot_Word _ h27) ⟨⟨_, rfl, rn_id if_sli⟩, ⟨_, (k32 (x := 1000000000) rfl), rn_id if_u32⟩, trivial⟩ (if_tup (ifs_cons if_sli (ifs_cons if_u32 (ifs_cons if_bl (ifs_nil))))) rfl) ?_
        refine s1 (mv rfl rfl) ?_
        refine s1 (ext (by exact rfl) rfl rfl) ?_
        refine s1 (ext (by exact rfl) rfl rfl) ?_
        refine s1 (ext (by exact rfl) rfl rfl) ?_
        refine s1 (asg rfl rfl) ?_
        refine s1 (asg rfl rfl) ?_
        refine s1 (asg rfl rfl) ?_
        refine snil ?_
        refine pnm ?_
        refine sseq ?_
        refine sreg ?_
        refine s1 (mv rfl rfl) ?_
        refine s1 (mv rfl rfl) ?_
        refine bd fun r28 h29 => ?_
        refine s1 (call0 (c_digits_nine _ h29) ⟨⟨_, rfl, rn_id if_u32⟩, trivial⟩ (if_str) rfl) ?_
        refine so (bsl (y := 101) (ls := List.map str ([r28] : List (List UInt8))) Tryd.underlying97 ti_9 rfl rfl rfl rfl rfl ⟨rfl, rfl, (by exact rfl), (by exact rfl), trivial⟩ rfl rfl) ?_
        refine bd fun y30 h31 => ?_
        refine so (app (y := 102) (f := str) h31 rfl Tryd.underlying97 ti_9 rfl rfl rfl rfl (.inr ⟨_, _, rfl, rfl⟩) rfl rfl) ?_
        refine s1 (asg rfl rfl) ?_
        refine snil ?_
        refine pnm ?_
        refine sreg ?_
        refine s1 (mv rfl rfl) ?_
        refine s1 (asg rfl rfl) ?_
        refine snil ?_
        refine pbn ?_
        exact sgo (entR [(100, 102)] rfl (keepS hγ trivial) ⟨⟨_, rfl⟩, trivial⟩ ⟨⟨_, _, rfl, rfl, rci (rc_sl (ifs_map (f := str) (fun _ => if_str) y30))⟩, trivial⟩ ⟨⟨_, rfl, rn_id if_sli⟩, ⟨_, rfl, rn_id if_str⟩, ⟨_, rfl, rn_own rfl⟩, trivial⟩)
      · refine sexit ?_
        refine ptx ?_
        exact sout (fun h => by cases h) (sj (hj22 _) (entR [(100, 100)] rfl (keepS hγ trivial) ⟨⟨_, rfl⟩, trivial⟩ ⟨⟨_, _, rfl, rfl, rci (rc_sl (ifs_map (f := str) (fun _ => if_str) s23.2))⟩, trivial⟩ ⟨⟨_, rfl, rn_id if_str⟩, ⟨_, rfl, rn_own rfl⟩, trivial⟩))
    · intro t21
      refine sx ?_
      refine pnm ?_
      refine sseq ?_
      refine sreg ?_
      refine so (alOw (y := 101) (ly := .agg [.por 101, .own 102]) [(102, 5, 1)] ti_82 (zo_agg (zos_cons (c1 := [.pointer none]) zo_por (zos_cons (c1 := [.slice none 0 0]) (zo_own rfl) zos_nil))) ⟨rfl, trivial⟩ rfl rfl rfl) ?_
      refine snil ?_
      refine pnm ?_
      refine sseq ?_
      refine sseq ?_
      refine sreg ?_
      refine s1 (mv rfl rfl) ?_
      refine s1 (lenO (f := str) Tryd.underlying97 rfl rfl rfl) ?_
      refine s1 (subI rfl rfl (kI (x := 1) rfl)) ?_
      refine s1 (asg rfl rfl) ?_
      refine snil ?_
      refine pnm ?_
      refine sblk ?_
      refine sloopE 2 (fun t => t) (fun (s44 : (List UInt8) × Int) => [(2, str ([] : List UInt8)), (3, .own 100), (7, .own 101), (8, i64 s44.2)]) (fun (s44 : (List UInt8) × Int) => [(100, .sl 9 1 (List.map str t21)), (101, .bx 82 (.agg [.por 101, .own 102])), (102, .sl 5 1 (List.map ub s44.1))]) (fun (t42 : (List UInt8)) => [(2, str ([] : List UInt8)), (7, .own 101)]) (fun (t42 : (List UInt8)) => [(101, .bx 82 (.agg [.por 101, .own 102])), (102, .sl 5 1 (List.map ub t42))]) (entR [(100, 100), (101, 101), (102, 102)] rfl (keepS hγ trivial) ⟨⟨_, rfl⟩, ⟨_, rfl⟩, ⟨_, rfl⟩, trivial⟩ ⟨⟨_, _, rfl, rfl, rci (rc_sl (ifs_map (f := str) (fun _ => if_str) t21))⟩, ⟨_, _, rfl, rfl, rci (rc_bx (rn_agg (rns_cons (rn_por rfl) (rns_cons (rn_own rfl) (rns_nil)))))⟩, ⟨_, _, rfl, rfl, rci (rc_sl (ifs_map (f := ub) (fun _ => if_ub) ([] : List UInt8)))⟩, trivial⟩ ⟨⟨_, rfl, rn_id if_str⟩, ⟨_, rfl, rn_own rfl⟩, ⟨_, rfl, rn_own rfl⟩, ⟨_, rfl, rn_id if_i64⟩, trivial⟩) ?_ ?_
      · intro hj43 s44
        refine sseq ?_
        refine sseq ?_
        refine sreg ?_
        refine s1 (mv rfl rfl) ?_
        refine s1 (geI rfl rfl (kI (x := 0) rfl)) ?_
        refine snil ?_
        refine pnm ?_
        refine scond rfl ?_ ?_
        · refine sskip ?_
          refine pnm ?_
          refine sseq ?_
          refine sblk ?_
          refine sreg ?_
          refine s1 (mv rfl rfl) ?_
          refine s1 (mv rfl rfl) ?_
          refine bd fun y45 h46 => ?_
          refine s1 (ixO (f := str) rfl Tryd.underlying97 ti_9 h46 rfl rfl rfl) ?_
          refine s1 (ldO (f := str) [] rfl (getI_ix h46) (by exact rfl) (by exact rfl) sh_9 (by exact rfl) (by exact rfl) rfl rfl) ?_
          refine bd fun y47 h48 => ?_
          refine so (callG (em := [(103, .sl 5 1 (List.map ub y47)), (101, .bx 82 (.agg [.por 101, .own 103])), (102, .gone)]) (res' := .tup [i64 (y45.length : Int), nilI]) [(0, 101), (1, 102)] [(103, 52)] [(103, 52), (101, 0)] (ws_ok' h48) ⟨⟨_, rfl, rn_own rfl⟩, ⟨_, rfl, rn_id if_str⟩, trivial⟩ (MiF.get (mi := [(0, _), (1, _)]) ⟨⟨_, _, rfl, rfl, rc_bx (rn_agg (rns_cons (rn_por rfl) (rns_cons (rn_own rfl) rns_nil)))⟩, ⟨_, _, rfl, rfl, rc_sl (ifs_map (f := ub) (fun _ => if_ub) s44.1)⟩, trivial⟩) ⟨⟨_, rfl⟩, ⟨_, rfl⟩, trivial⟩ rfl ⟨rfl, trivial⟩ ⟨.inl rfl, .inr rfl, trivial⟩ rfl ⟨.inl ⟨_, _, rfl, rfl, rc_sl (ifs_map (f := ub) (fun _ => if_ub) y47)⟩, .inl ⟨_, _, rfl, rfl, rc_bx (rn_agg (rns_cons (rn_por rfl) (rns_cons (rn_own rfl) rns_nil)))⟩, .inr ⟨rfl, 1, .tail _ (.head _)⟩, trivial⟩ ⟨⟨_, rfl⟩, ⟨_, rfl⟩, trivial⟩ ⟨⟨_, rfl⟩, trivial⟩ (rn_tup (rns_cons (rn_id if_i64) (rns_cons (rn_id if_nilI) rns_nil))) rfl) ?_
          refine snil ?_
          refine pbn ?_
          refine pnm ?_
          refine sreg ?_
          refine s1 (mv rfl rfl) ?_
          refine s1 (subI rfl rfl (kI (x := 1) rfl)) ?_
          refine s1 (asg rfl rfl) ?_
          refine snil ?_
          exact sgo (entR [(100, 100), (101, 101), (102, 103)] rfl (keepS hγ trivial) ⟨⟨_, rfl⟩, ⟨_, rfl⟩, ⟨_, rfl⟩, trivial⟩ ⟨⟨_, _, rfl, rfl, rci (rc_sl (ifs_map (f := str) (fun _ => if_str) t21))⟩, ⟨_, _, rfl, rfl, rci (rc_bx (rn_agg (rns_cons (rn_por rfl) (rns_cons (rn_own rfl) (rns_nil)))))⟩, ⟨_, _, rfl, rfl, rci (rc_sl (ifs_map (f := ub) (fun _ => if_ub) y47))⟩, trivial⟩ ⟨⟨_, rfl, rn_id if_str⟩, ⟨_, rfl, rn_own rfl⟩, ⟨_, rfl, rn_own rfl⟩, ⟨_, rfl, rn_id if_i64⟩, trivial⟩)
        · refine sexit ?_
          refine ptx ?_
          exact sout (fun h => by cases h) (sj (hj43 _) (entR [(101, 101), (102, 102)] rfl (keepS hγ trivial) ⟨⟨_, rfl⟩, ⟨_, rfl⟩, trivial⟩ ⟨⟨_, _, rfl, rfl, rci (rc_bx (rn_agg (rns_cons (rn_por rfl) (rns_cons (rn_own rfl) (rns_nil)))))⟩, ⟨_, _, rfl, rfl, rci (rc_sl (ifs_map (f := ub) (fun _ => if_ub) s44.1))⟩, trivial⟩ ⟨⟨_, rfl, rn_id if_str⟩, ⟨_, rfl, rn_own rfl⟩, trivial⟩))
      · intro t42
        refine sx ?_
        refine pnm ?_
        refine sseq ?_
        refine sreg ?_
        refine so (strOp (id := 101) (id2 := 102) rfl rfl rfl rfl rfl) ?_
        refine bd fun r49 h50 => ?_
        refine s1 (call0 (c_strings_TrimLeft _ h50) ⟨⟨_, rfl, rn_id if_str⟩, ⟨_, (kS (s := [48]) rfl), rn_id if_str⟩, trivial⟩ (if_str) rfl) ?_
        refine s1 (asg rfl rfl) ?_
        refine snil ?_
        refine pnm ?_
        refine sret ?_
        exact ret [] [.tmp 2] [_] [_] .ret hγ (.inl rfl) rfl ⟨rfl, trivial⟩ rfl trivial trivial trivial (rns_cons (rn_id if_str) (rns_nil)) rfl
theorem c_whole_Sign {n : Nat} {x0 : M_whole_Whole} : ∀ r, m_whole_Sign n x0 = some r → FnOk Tryd.prog 125 [L_whole_Whole x0] [] (i64 r) [] := by
  unfold m_whole_Sign
  refine fn_of_sq (res := fun (r : Int) => i64 r) (mo := fun (r : Int) => []) Tryd.func125 rfl rfl (by kernel_rfl) rfl ?_
  intro w S0 γ hγ
  refine sseq ?_
  refine sreg ?_
  refine so (box (y := 100) (by exact rfl) rfl rfl rfl) ?_
  refine s1 (asg rfl (kI (x := 0) rfl)) ?_
  refine snil ?_
  refine pnm ?_
  refine sseq ?_
  refine sblk ?_
  refine sseq ?_
  refine sreg ?_
  refine s1 (faO rfl fd_55_1 rfl rfl) ?_
  refine s1 (ldB [1] rfl (by exact rfl) sh_53 (by exact rfl) (by exact rfl) rfl rfl (.inl rfl)) ?_
  refine bd fun r1 h2 => ?_
  refine s1 (call0 (c_nat_Zero _ h2) ⟨⟨_, rfl, rn_id if_sli⟩, trivial⟩ (if_bl) rfl) ?_
  refine s1 (asg rfl rfl) ?_
  refine snil ?_
  refine pnm ?_
  refine scond rfl ?_ ?_
  · refine sseq ?_
    refine sreg ?_
    refine s1 (asg rfl (kI (x := 0) rfl)) ?_
    refine snil ?_
    refine pnm ?_
    refine sret ?_
    refine pbl ?_
    refine pth ?_
    exact ret [] [.tmp 2] [_] [_] .ret hγ (.inl rfl) rfl ⟨rfl, trivial⟩ rfl trivial trivial trivial (rns_cons (rn_id if_i64) (rns_nil)) rfl
  · refine sseq ?_
    refine sreg ?_
    refine s1 (faO rfl fd_55_0 rfl rfl) ?_
    refine s1 (ldB [0] rfl (by exact rfl) sh_4 (by exact rfl) (by exact rfl) rfl rfl (.inl rfl)) ?_
    refine s1 (asg rfl rfl) ?_
    refine snil ?_
    refine pnm ?_
    refine scond rfl ?_ ?_
    · refine sseq ?_
      refine sreg ?_
      refine s1 (asg rfl (kI (x := (-1)) rfl)) ?_
      refine snil ?_
      refine pnm ?_
      refine sret ?_
      refine pbl ?_
      refine pth ?_
      exact ret [] [.tmp 2] [_] [_] .ret hγ (.inl rfl) rfl ⟨rfl, trivial⟩ rfl trivial trivial trivial (rns_cons (rn_id if_i64) (rns_nil)) rfl
    · refine sskip ?_
      refine pbn ?_
      refine pnm ?_
      refine sseq ?_
      refine sreg ?_
      refine s1 (asg rfl (kI (x := 1) rfl)) ?_
      refine snil ?_
      refine pnm ?_
      refine sret ?_
      exact ret [] [.tmp 2] [_] [_] .ret hγ (.inl rfl) rfl ⟨rfl, trivial⟩ rfl trivial trivial trivial (rns_cons (rn_id if_i64) (rns_nil)) rfl
theorem c_whole_Text {n : Nat} {x0 : M_whole_Whole} : ∀ r, m_whole_Text n x0 = some r → FnOk Tryd.prog 90 [L_whole_Whole x0] [] (str r) [] := by
  unfold m_whole_Text
  refine fn_of_sq (res := fun (r : (List UInt8)) => str r) (mo := fun (r : (List UInt8)) => []) Tryd.func90 rfl rfl (by kernel_rfl) rfl ?_
  intro w S0 γ hγ
  refine sseq ?_
  refine sreg ?_
  refine so (box (y := 100) (by exact rfl) rfl rfl rfl) ?_
  refine s1 (asg rfl (kS (s := []) rfl)) ?_
  refine snil ?_
  refine pnm ?_
  refine sseq ?_
  refine sreg ?_
  refine s1 (faO rfl fd_55_1 rfl rfl) ?_
  refine s1 (ldB [1] rfl (by exact rfl) sh_53 (by exact rfl) (by exact rfl) rfl rfl (.inl rfl)) ?_
  refine bd fun r1 h2 => ?_
  refine s1 (call0 (c_digits_Text _ h2) ⟨⟨_, rfl, rn_id if_sli⟩, trivial⟩ (if_str) rfl) ?_
  refine s1 (asg rfl rfl) ?_
  refine snil ?_
  refine pnm ?_
  refine sseq ?_
  refine sseq ?_
  refine sreg ?_
  refine s1 (ldB [] rfl rfl sh_55 (by exact rfl) (by exact rfl) rfl rfl (.inr ⟨rfl, rfl, _, _, rfl⟩)) ?_
  refine bd fun r3 h4 => ?_
  refine s1 (call0 (c_whole_Sign _ h4) ⟨⟨_, rfl, rn_id if_L_whole_Whole⟩, trivial⟩ (if_i64) rfl) ?_
  refine s1 (ltI rfl rfl (kI (x := 0) rfl)) ?_
  refine snil ?_
  refine pnm ?_
  refine scond rfl ?_ ?_
  · refine sseq ?_
    refine sreg ?_
    refine s1 (mv rfl rfl) ?_
    refine bd fun y5 h6 => ?_
    refine s1 (catStr h6 rfl (kS (s := [45]) rfl) rfl) ?_
    refine s1 (asg rfl rfl) ?_
    refine snil ?_
    refine pnm ?_
    refine sret ?_
    refine pth ?_
    exact ret [] [.tmp 2] [_] [_] .ret hγ (.inl rfl) rfl ⟨rfl, trivial⟩ rfl trivial trivial trivial (rns_cons (rn_id if_str) (rns_nil)) rfl
  · refine sskip ?_
    refine pnm ?_
    refine sseq ?_
    refine sreg ?_
    refine s1 (mv rfl rfl) ?_
    refine s1 (asg rfl rfl) ?_
    refine snil ?_
    refine pnm ?_
    refine sret ?_
    exact ret [] [.tmp 2] [_] [_] .ret hγ (.inl rfl) rfl ⟨rfl, trivial⟩ rfl trivial trivial trivial (rns_cons (rn_id if_str) (rns_nil)) rfl
theorem c_figure_Text {n : Nat} {x0 : M_frac_Frac} : ∀ r, m_figure_Text n x0 = some r → FnOk Tryd.prog 62 [L_frac_Frac x0] [] (str r) [] := by
  unfold m_figure_Text
  refine fn_of_sq (res := fun (r : (List UInt8)) => str r) (mo := fun (r : (List UInt8)) => []) Tryd.func62 rfl rfl (by kernel_rfl) rfl ?_
  intro w S0 γ hγ
  refine sseq ?_
  refine sreg ?_
  refine so (box (y := 100) (by exact rfl) rfl rfl rfl) ?_
  refine s1 (asg rfl (kS (s := []) rfl)) ?_
  refine snil ?_
  refine pnm ?_
  refine sseq ?_
  refine sreg ?_
  refine s1 (ldB [] rfl rfl sh_57 (by exact rfl) (by exact rfl) rfl rfl (.inr ⟨rfl, rfl, _, _, rfl⟩)) ?_
  refine bd fun r1 h2 => ?_
  refine s1 (call0 (c_frac_Norm _ h2) ⟨⟨_, rfl, rn_id if_L_frac_Frac⟩, trivial⟩ (if_L_frac_Frac) rfl) ?_
  refine so (stB2 (ly2 := L_frac_Frac r1) [] (by exact rfl) rfl (by exact rfl) sh_57 (by exact rfl) (by exact rfl) (by exact rfl) rfl (.inr ⟨rfl, rfl, _, _, rfl⟩) rfl) ?_
  refine snil ?_
  refine pnm ?_
  refine sseq ?_
  refine sreg ?_
  refine s1 (faO rfl fd_57_0 rfl rfl) ?_
  refine s1 (ldB [0] rfl (by exact rfl) sh_55 (by exact rfl) (by exact rfl) rfl rfl (.inl rfl)) ?_
  refine bd fun r3 h4 => ?_
  refine s1 (call0 (c_whole_Text _ h4) ⟨⟨_, rfl, rn_id if_L_whole_Whole⟩, trivial⟩ (if_str) rfl) ?_
  refine s1 (asg rfl rfl) ?_
  refine snil ?_
  refine pnm ?_
  refine sjq (fun (s17 : (List UInt8)) => [(2, str ([] : List UInt8)), (3, str s17)]) (fun (s17 : (List UInt8)) => []) ?_ ?_
  · intro j15 hj16
    refine sseq ?_
    refine bd fun r18 h19 => ?_
    refine bd fun r20 h21 => ?_
    refine sdraw [⟨[1], [100], [(9, .ptr 100 2)], []⟩, ⟨[9], [100], [(10, sli 1 (List.map u32 r1.Den))], []⟩, ⟨[], [], [(11, sli 1 (List.map u32 r18))], []⟩, ⟨[10, 11], [], [(12, i64 r20)], []⟩, ⟨[12], [], [(13, bl (!decide (r20 = (0 : Int))))], []⟩] fol (by kernel_rfl) ⟨fun st mm ⟨a1, _⟩ ⟨g100, _⟩ => og (faO (g100.trans rfl) fd_57_1 rfl (a1.trans rfl)), fun st mm ⟨a9, _⟩ ⟨g100, _⟩ => og (ldB [1] (g100.trans rfl) (by exact rfl) sh_53 (by exact rfl) (by exact rfl) rfl (a9.trans rfl) (.inl rfl)), fun st mm _ _ => og (call0 (c_nat_Of _ h19) ⟨⟨_, (k64 (x := 1) rfl), rn_id if_u64⟩, trivial⟩ (if_sli) rfl), fun st mm ⟨a10, a11, _⟩ _ => og (call0 (c_nat_Cmp _ h21) ⟨⟨_, (a10.trans rfl), rn_id if_sli⟩, ⟨_, (a11.trans rfl), rn_id if_sli⟩, trivial⟩ (if_i64) rfl), fun st mm ⟨a12, _⟩ _ => og (neI rfl (a12.trans rfl) (kI (x := 0) rfl)), trivial⟩ ?_
    refine pnm ?_
    refine scond rfl ?_ ?_
    · refine sreg ?_
      refine s1 (mv rfl rfl) ?_
      refine s1 (faO rfl fd_57_1 rfl rfl) ?_
      refine s1 (ldB [1] rfl (by exact rfl) sh_53 (by exact rfl) (by exact rfl) rfl rfl (.inl rfl)) ?_
      refine bd fun r22 h23 => ?_
      refine s1 (call0 (c_digits_Text _ h23) ⟨⟨_, rfl, rn_id if_sli⟩, trivial⟩ (if_str) rfl) ?_
      refine bd fun y24 h25 => ?_
      refine s1 (catStr h25 rfl (kS (s := [47]) rfl) rfl) ?_
      refine bd fun y26 h27 => ?_
      refine s1 (catStr h27 rfl rfl rfl) ?_
      refine s1 (asg rfl rfl) ?_
      refine snil ?_
      refine pnm ?_
      exact sj (hj16 _) (entR [] rfl (keepS hγ trivial) (by exact trivial) (by exact trivial) ⟨⟨_, rfl, rn_id if_str⟩, ⟨_, rfl, rn_id if_str⟩, trivial⟩)
    · refine sskip ?_
      refine pnm ?_
      exact sj (hj16 _) (entR [] rfl (keepS hγ trivial) (by exact trivial) (by exact trivial) ⟨⟨_, rfl, rn_id if_str⟩, ⟨_, rfl, rn_id if_str⟩, trivial⟩)
  · intro s17
    refine sseq ?_
    refine sreg ?_
    refine s1 (mv rfl rfl) ?_
    refine s1 (asg rfl rfl) ?_
    refine snil ?_
    refine pnm ?_
    refine sret ?_
    exact ret [] [.tmp 2] [_] [_] .ret hγ (.inl rfl) rfl ⟨rfl, trivial⟩ rfl trivial trivial trivial (rns_cons (rn_id if_str) (rns_nil)) rfl
theorem c_tape_line {n : Nat} {x0 : M_tape_Inst} : ∀ r, m_tape_line n x0 = some r → FnOk Tryd.prog 47 [L_tape_Inst x0] [] (str r) [] := by
  unfold m_tape_line
  refine fn_of_sq (res := fun (r : (List UInt8)) => str r) (mo := fun (r : (List UInt8)) => []) Tryd.func47 rfl rfl (by kernel_rfl) rfl ?_
  intro w S0 γ hγ
  refine sseq ?_
  refine sreg ?_
  refine so (box (y := 100) (by exact rfl) rfl rfl rfl) ?_
  refine s1 (asg rfl (kS (s := []) rfl)) ?_
  refine snil ?_
  refine pnm ?_
  refine sseq ?_
  refine sreg ?_
  refine s1 (faO rfl fd_59_0 rfl rfl) ?_
  refine s1 (ldB [0] rfl (by exact rfl) sh_3 (by exact rfl) (by exact rfl) rfl rfl (.inl rfl)) ?_
  refine bd fun r1 h2 => ?_
  refine s1 (call0 (c_tape_name _ h2) ⟨⟨_, rfl, rn_id if_i64⟩, trivial⟩ (if_str) rfl) ?_
  refine s1 (asg rfl rfl) ?_
  refine snil ?_
  refine pnm ?_
  refine sseq ?_
  refine sseq ?_
  refine sreg ?_
  refine s1 (faO rfl fd_59_0 rfl rfl) ?_
  refine s1 (ldB [0] rfl (by exact rfl) sh_3 (by exact rfl) (by exact rfl) rfl rfl (.inl rfl)) ?_
  refine snil ?_
  refine pnm ?_
  refine sblk ?_
  refine sseq ?_
  refine sreg ?_
  refine s1 (eqI rfl rfl (kI (x := 1) rfl)) ?_
  refine s1 (asg rfl rfl) ?_
  refine snil ?_
  refine pnm ?_
  refine scond rfl ?_ ?_
  · refine sseq ?_
    refine sreg ?_
    refine s1 (mv rfl rfl) ?_
    refine bd fun y3 h4 => ?_
    refine s1 (catStr h4 rfl rfl (kS (s := [32]) rfl)) ?_
    refine s1 (faO rfl fd_59_3 rfl rfl) ?_
    refine s1 (ldB [3] rfl (by exact rfl) sh_57 (by exact rfl) (by exact rfl) rfl rfl (.inl rfl)) ?_
    refine bd fun r5 h6 => ?_
    refine s1 (call0 (c_figure_Text _ h6) ⟨⟨_, rfl, rn_id if_L_frac_Frac⟩, trivial⟩ (if_str) rfl) ?_
    refine bd fun y7 h8 => ?_
    refine s1 (catStr h8 rfl rfl rfl) ?_
    refine s1 (asg rfl rfl) ?_
    refine snil ?_
    refine pnm ?_
    refine sret ?_
    refine pbl ?_
    refine pth ?_
    exact ret [] [.tmp 2] [_] [_] .ret hγ (.inl rfl) rfl ⟨rfl, trivial⟩ rfl trivial trivial trivial (rns_cons (rn_id if_str) (rns_nil)) rfl
  · refine sjq (fun (s11 : Bool) => [(1, .own 100), (2, str ([] : List UInt8)), (3, str r1), (19, bl s11)]) (fun (s11 : Bool) => [(100, .bx 59 (L_tape_Inst x0))]) ?_ ?_
    · intro j9 hj10
      refine sseq ?_
      refine sreg ?_
      refine s1 (eqI rfl rfl (kI (x := 3) rfl)) ?_
      refine s1 (asg rfl rfl) ?_
      refine snil ?_
      refine pnm ?_
      refine scond rfl ?_ ?_
      · refine sskip ?_
        refine pnm ?_
        exact sj (hj10 _) (entR [(100, 100)] rfl (keepS hγ trivial) ⟨⟨_, rfl⟩, trivial⟩ ⟨⟨_, _, rfl, rfl, rci (rc_bx (rn_id if_L_tape_Inst))⟩, trivial⟩ ⟨⟨_, rfl, rn_own rfl⟩, ⟨_, rfl, rn_id if_str⟩, ⟨_, rfl, rn_id if_str⟩, ⟨_, rfl, rn_id if_bl⟩, trivial⟩)
      · refine sreg ?_
        refine s1 (eqI rfl rfl (kI (x := 4) rfl)) ?_
        refine s1 (asg rfl rfl) ?_
        refine snil ?_
        refine pnm ?_
        exact sj (hj10 _) (entR [(100, 100)] rfl (keepS hγ trivial) ⟨⟨_, rfl⟩, trivial⟩ ⟨⟨_, _, rfl, rfl, rci (rc_bx (rn_id if_L_tape_Inst))⟩, trivial⟩ ⟨⟨_, rfl, rn_own rfl⟩, ⟨_, rfl, rn_id if_str⟩, ⟨_, rfl, rn_id if_str⟩, ⟨_, rfl, rn_id if_bl⟩, trivial⟩)
    · intro s11
      refine scond rfl ?_ ?_
      · refine sseq ?_
        refine sreg ?_
        refine s1 (mv rfl rfl) ?_
        refine bd fun y12 h13 => ?_
        refine s1 (catStr h13 rfl rfl (kS (s := [32]) rfl)) ?_
        refine s1 (faO rfl fd_59_1 rfl rfl) ?_
        refine s1 (ldB [1] rfl (by exact rfl) sh_3 (by exact rfl) (by exact rfl) rfl rfl (.inl rfl)) ?_
        refine bd fun r14 h15 => ?_
        refine s1 (call0 (c_strconv_Itoa _ h15) ⟨⟨_, rfl, rn_id if_i64⟩, trivial⟩ (if_str) rfl) ?_
        refine bd fun y16 h17 => ?_
        refine s1 (catStr h17 rfl rfl rfl) ?_
        refine s1 (asg rfl rfl) ?_
        refine snil ?_
        refine pnm ?_
        refine sret ?_
        refine pbl ?_
        refine pth ?_
        exact ret [] [.tmp 2] [_] [_] .ret hγ (.inl rfl) rfl ⟨rfl, trivial⟩ rfl trivial trivial trivial (rns_cons (rn_id if_str) (rns_nil)) rfl
      · refine sskip ?_
        refine pbn ?_
        refine pnm ?_
        refine sseq ?_
        refine sseq ?_
        refine sreg ?_
        refine s1 (ldB [] rfl rfl sh_59 (by exact rfl) (by exact rfl) rfl rfl (.inr ⟨rfl, rfl, _, _, rfl⟩)) ?_
        refine bd fun r18 h19 => ?_
        refine s1 (call0 (c_tape_Reads _ h19) ⟨⟨_, rfl, rn_id if_L_tape_Inst⟩, trivial⟩ (if_sli) rfl) ?_
        refine s1 (lenL (f := i64) Tryd.underlying41 rfl rfl) ?_
        refine s1 (mv rfl (kI (x := 0) rfl)) ?_
        refine snil ?_
        refine pnm ?_
        refine sblk ?_
        refine srangeN (fun (s41 : (List UInt8)) => [(1, .own 100), (2, str ([] : List UInt8)), (3, str s41), (29, sli 1 (List.map i64 r18))]) (fun (s41 : (List UInt8)) => [(100, .bx 59 (L_tape_Inst x0))]) rfl (fun _ => rfl) (entR [(100, 100)] rfl (keepS hγ trivial) ⟨⟨_, rfl⟩, trivial⟩ ⟨⟨_, _, rfl, rfl, rci (rc_bx (rn_id if_L_tape_Inst))⟩, trivial⟩ ⟨⟨_, rfl, rn_id if_i64⟩, ⟨_, rfl, rn_id if_i64⟩, ⟨_, rfl, rn_own rfl⟩, ⟨_, rfl, rn_id if_str⟩, ⟨_, rfl, rn_id if_str⟩, ⟨_, rfl, rn_id if_sli⟩, trivial⟩) ?_ ?_
        · intro i42 x43 s41 hx44
          refine sblk ?_
          refine sseq ?_
          refine sreg ?_
          refine s1 (ixR (f := i64) Tryd.underlying41 ti_3 (getI_nat hx44) rfl rfl rfl) ?_
          refine s1 (ldR sh_3 (by exact rfl) (by exact rfl) rfl rfl) ?_
          refine s1 (asg rfl rfl) ?_
          refine snil ?_
          refine pnm ?_
          refine sreg ?_
          refine s1 (mv rfl rfl) ?_
          refine s1 (mv rfl rfl) ?_
          refine bd fun r45 h46 => ?_
          refine s1 (call0 (c_strconv_Itoa _ h46) ⟨⟨_, rfl, rn_id if_i64⟩, trivial⟩ (if_str) rfl) ?_
          refine bd fun y47 h48 => ?_
          refine s1 (catStr h48 rfl (kS (s := [32]) rfl) rfl) ?_
          refine bd fun y49 h50 => ?_
          refine s1 (catStr h50 rfl rfl rfl) ?_
          refine s1 (asg rfl rfl) ?_
          refine snil ?_
          refine pbn ?_
          exact sgo (entR [(100, 100)] rfl (keepS hγ trivial) ⟨⟨_, rfl⟩, trivial⟩ ⟨⟨_, _, rfl, rfl, rci (rc_bx (rn_id if_L_tape_Inst))⟩, trivial⟩ ⟨⟨_, rfl, rn_id if_i64⟩, ⟨_, rfl, rn_id if_i64⟩, ⟨_, rfl, rn_own rfl⟩, ⟨_, rfl, rn_id if_str⟩, ⟨_, rfl, rn_id if_str⟩, ⟨_, rfl, rn_id if_sli⟩, trivial⟩)
        · intro s51
          refine sx ?_
          refine pnm ?_
          refine sjq (fun (s60 : (List UInt8)) => [(2, str ([] : List UInt8)), (3, str s60)]) (fun (s60 : (List UInt8)) => []) ?_ ?_
          · intro j58 hj59
            refine sseq ?_
            refine sreg ?_
            refine s1 (faO rfl fd_59_0 rfl rfl) ?_
            refine s1 (ldB [0] rfl (by exact rfl) sh_3 (by exact rfl) (by exact rfl) rfl rfl (.inl rfl)) ?_
            refine s1 (eqI rfl rfl (kI (x := 11) rfl)) ?_
            refine snil ?_
            refine pnm ?_
            refine scond rfl ?_ ?_
            · refine sreg ?_
              refine s1 (mv rfl rfl) ?_
              refine s1 (faO rfl fd_59_2 rfl rfl) ?_
              refine s1 (ldB [2] rfl (by exact rfl) sh_3 (by exact rfl) (by exact rfl) rfl rfl (.inl rfl)) ?_
              refine bd fun r61 h62 => ?_
              refine s1 (call0 (c_strconv_Itoa _ h62) ⟨⟨_, rfl, rn_id if_i64⟩, trivial⟩ (if_str) rfl) ?_
              refine bd fun y63 h64 => ?_
              refine s1 (catStr h64 rfl (kS (s := [32]) rfl) rfl) ?_
              refine bd fun y65 h66 => ?_
              refine s1 (catStr h66 rfl rfl rfl) ?_
              refine s1 (asg rfl rfl) ?_
              refine snil ?_
              refine pnm ?_
              exact sj (hj59 _) (entR [] rfl (keepS hγ trivial) (by exact trivial) (by exact trivial) ⟨⟨_, rfl, rn_id if_str⟩, ⟨_, rfl, rn_id if_str⟩, trivial⟩)
            · refine sskip ?_
              refine pnm ?_
              exact sj (hj59 _) (entR [] rfl (keepS hγ trivial) (by exact trivial) (by exact trivial) ⟨⟨_, rfl, rn_id if_str⟩, ⟨_, rfl, rn_id if_str⟩, trivial⟩)
          · intro s60
            refine sseq ?_
            refine sreg ?_
            refine s1 (mv rfl rfl) ?_
            refine s1 (asg rfl rfl) ?_
            refine snil ?_
            refine pnm ?_
            refine sret ?_
            exact ret [] [.tmp 2] [_] [_] .ret hγ (.inl rfl) rfl ⟨rfl, trivial⟩ rfl trivial trivial trivial (rns_cons (rn_id if_str) (rns_nil)) rfl
end Go.Proofs.YtiobbiamnjapgaaDoor
