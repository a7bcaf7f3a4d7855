import Derived.Test.YtgafinimmcfekaaDoorMod
import Derived.Test.YtgafinimmcfekaaDoorBld
import Derived.Test.YtgafinimmcfekaaDoorChecked
set_option maxRecDepth 100000
set_option maxHeartbeats 4000000
namespace Go.Proofs.YtgafinimmcfekaaDoor
open Go Go.RowKit
theorem ownK : ownKnob Tryd.prog.godebug = none := by kernel_rfl
theorem laidOutK : laidOutB Tryd.prog = true := by kernel_rfl
abbrev L_api_Fault (x : M_api_Fault) : Ly := .agg [i64 x.Kind, i64 x.Step, i64 x.Stage, i64 x.At]
theorem if_L_api_Fault {a0_ a1_ a2_ a3_} : IF (.agg [i64 a0_, i64 a1_, i64 a2_, i64 a3_]) := if_agg (ifs_cons if_i64 (ifs_cons if_i64 (ifs_cons if_i64 (ifs_cons if_i64 (ifs_nil)))))
abbrev L_S_u32 (xs : List Nat) : Ly := sli 1 (xs.map u32)
abbrev L_A9_u8 (x : M_A9_u8) : Ly := .agg [u8 x.a0, u8 x.a1, u8 x.a2, u8 x.a3, u8 x.a4, u8 x.a5, u8 x.a6, u8 x.a7, u8 x.a8]
theorem if_L_A9_u8 {a0_ a1_ a2_ a3_ a4_ a5_ a6_ a7_ a8_} : IF (.agg [u8 a0_, u8 a1_, u8 a2_, u8 a3_, u8 a4_, u8 a5_, u8 a6_, u8 a7_, u8 a8_]) := if_agg (ifs_cons if_u8 (ifs_cons if_u8 (ifs_cons if_u8 (ifs_cons if_u8 (ifs_cons if_u8 (ifs_cons if_u8 (ifs_cons if_u8 (ifs_cons if_u8 (ifs_cons if_u8 (ifs_nil))))))))))
abbrev L_retrospectref17_Node (x : M_retrospectref17_Node) : Ly := .agg [i64 x.Op, i64 x.I, L_S_u32 x.N]
theorem if_L_retrospectref17_Node {a0_ a1_ a2_} : IF (.agg [i64 a0_, i64 a1_, sli 1 a2_]) := if_agg (ifs_cons if_i64 (ifs_cons if_i64 (ifs_cons if_sli (ifs_nil))))
abbrev L_S_retrospectref17_Node (xs : List M_retrospectref17_Node) : Ly := sli 3 (xs.map L_retrospectref17_Node)
abbrev L_retrospectref17_Let (x : M_retrospectref17_Let) : Ly := .agg [str x.Name, L_S_retrospectref17_Node x.Code]
theorem if_L_retrospectref17_Let {a0_ a1_} : IF (.agg [str a0_, sli 3 a1_]) := if_agg (ifs_cons if_str (ifs_cons if_sli (ifs_nil)))
abbrev L_S_retrospectref17_Let (xs : List M_retrospectref17_Let) : Ly := sli 2 (xs.map L_retrospectref17_Let)
abbrev L_S_S_retrospectref17_Node (xs : List (List M_retrospectref17_Node)) : Ly := sli 1 (xs.map L_S_retrospectref17_Node)
abbrev L_retrospectref17_Field (x : M_retrospectref17_Field) : Ly := .agg [L_S_retrospectref17_Let x.Lets, L_S_S_retrospectref17_Node x.Outs]
theorem if_L_retrospectref17_Field {a0_ a1_} : IF (.agg [sli 2 a0_, sli 1 a1_]) := if_agg (ifs_cons if_sli (ifs_cons if_sli (ifs_nil)))
abbrev L_tree_Node (x : M_tree_Node) : Ly := .agg [i64 x.Op, i64 x.I, L_S_u32 x.N]
theorem if_L_tree_Node {a0_ a1_ a2_} : IF (.agg [i64 a0_, i64 a1_, sli 1 a2_]) := if_agg (ifs_cons if_i64 (ifs_cons if_i64 (ifs_cons if_sli (ifs_nil))))
abbrev L_S_tree_Node (xs : List M_tree_Node) : Ly := sli 3 (xs.map L_tree_Node)
abbrev L_S_S_tree_Node (xs : List (List M_tree_Node)) : Ly := sli 1 (xs.map L_S_tree_Node)
abbrev L_tree_Let (x : M_tree_Let) : Ly := .agg [str x.Name, L_S_tree_Node x.Code]
theorem if_L_tree_Let {a0_ a1_} : IF (.agg [str a0_, sli 3 a1_]) := if_agg (ifs_cons if_str (ifs_cons if_sli (ifs_nil)))
abbrev L_S_tree_Let (xs : List M_tree_Let) : Ly := sli 2 (xs.map L_tree_Let)
abbrev L_tree_Field (x : M_tree_Field) : Ly := .agg [L_S_tree_Let x.Lets, L_S_S_tree_Node x.Outs]
theorem if_L_tree_Field {a0_ a1_} : IF (.agg [sli 2 a0_, sli 1 a1_]) := if_agg (ifs_cons if_sli (ifs_cons if_sli (ifs_nil)))
abbrev L_lex_Word (x : M_lex_Word) : Ly := .agg [i64 x.Kind, str x.Text, i64 x.At]
theorem if_L_lex_Word {a0_ a1_ a2_} : IF (.agg [i64 a0_, str a1_, i64 a2_]) := if_agg (ifs_cons if_i64 (ifs_cons if_str (ifs_cons if_i64 (ifs_nil))))
abbrev L_S_i64 (xs : List Int) : Ly := sli 1 (xs.map i64)
abbrev L_A3_i64 (x : M_A3_i64) : Ly := .agg [i64 x.a0, i64 x.a1, i64 x.a2]
theorem if_L_A3_i64 {a0_ a1_ a2_} : IF (.agg [i64 a0_, i64 a1_, i64 a2_]) := if_agg (ifs_cons if_i64 (ifs_cons if_i64 (ifs_cons if_i64 (ifs_nil))))
abbrev L_retrospectref16_Word (x : M_retrospectref16_Word) : Ly := .agg [i64 x.Kind, str x.Text, i64 x.At]
theorem if_L_retrospectref16_Word {a0_ a1_ a2_} : IF (.agg [i64 a0_, str a1_, i64 a2_]) := if_agg (ifs_cons if_i64 (ifs_cons if_str (ifs_cons if_i64 (ifs_nil))))
abbrev L_S_retrospectref16_Word (xs : List M_retrospectref16_Word) : Ly := sli 3 (xs.map L_retrospectref16_Word)
theorem ti_25 : TyI Tryd.prog 25 4 32 (.agg #[.int .i64 0, .int .i64 0, .int .i64 0, .int .i64 0]) := tyI (by kernel_rfl)
theorem zr_api_Fault : Zr (L_api_Fault (⟨0, 0, 0, 0⟩ : M_api_Fault)) [.int .i64 0, .int .i64 0, .int .i64 0, .int .i64 0] := zr_agg (zrs_cons (c1 := [.int .i64 0]) zr_i64 (zrs_cons (c1 := [.int .i64 0]) zr_i64 (zrs_cons (c1 := [.int .i64 0]) zr_i64 (zrs_cons (c1 := [.int .i64 0]) zr_i64 (zrs_nil)))))
theorem pl_25 : Plc Tryd.prog 25 [(0, 1), (1, 1), (2, 1), (3, 1)] := ⟨_, Tryd.underlying25, by kernel_rfl⟩
theorem sh_25 : Shp Tryd.prog 25 true 4 := shp Tryd.underlying25 rfl ti_25
theorem ti_72 : TyI Tryd.prog 72 1 4 (.int .u32 0) := tyI (by kernel_rfl)
theorem sh_72 : Shp Tryd.prog 72 false 1 := shp Tryd.underlying72 rfl ti_72
theorem fol : Tryd.prog.follows .mixedOrders = true := by kernel_rfl
theorem ti_115 : TyI Tryd.prog 115 9 9 (.agg #[.int .u8 0, .int .u8 0, .int .u8 0, .int .u8 0, .int .u8 0, .int .u8 0, .int .u8 0, .int .u8 0, .int .u8 0]) := tyI (by kernel_rfl)
theorem zr_A9_u8 : Zr (L_A9_u8 (⟨0, 0, 0, 0, 0, 0, 0, 0, 0⟩ : M_A9_u8)) [.int .u8 0, .int .u8 0, .int .u8 0, .int .u8 0, .int .u8 0, .int .u8 0, .int .u8 0, .int .u8 0, .int .u8 0] := zr_agg (zrs_cons (c1 := [.int .u8 0]) zr_u8 (zrs_cons (c1 := [.int .u8 0]) zr_u8 (zrs_cons (c1 := [.int .u8 0]) zr_u8 (zrs_cons (c1 := [.int .u8 0]) zr_u8 (zrs_cons (c1 := [.int .u8 0]) zr_u8 (zrs_cons (c1 := [.int .u8 0]) zr_u8 (zrs_cons (c1 := [.int .u8 0]) zr_u8 (zrs_cons (c1 := [.int .u8 0]) zr_u8 (zrs_cons (c1 := [.int .u8 0]) zr_u8 (zrs_nil))))))))))
theorem ti_5 : TyI Tryd.prog 5 1 1 (.int .u8 0) := tyI (by kernel_rfl)
theorem sh_5 : Shp Tryd.prog 5 false 1 := shp Tryd.underlying5 rfl ti_5
theorem ofl_ok_A9_u8 : ∀ l : List Nat, l.length = 9 → (.agg (l.map u8) : Ly) = L_A9_u8 (ofl_A9_u8 l)
  | [a0, a1, a2, a3, a4, a5, a6, a7, a8], _ => rfl
  | [], h => by simp at h
  | [_], h => by simp at h
  | [_, _], h => by simp at h
  | [_, _, _], h => by simp at h
  | [_, _, _, _], h => by simp at h
  | [_, _, _, _, _], h => by simp at h
  | [_, _, _, _, _, _], h => by simp at h
  | [_, _, _, _, _, _, _], h => by simp at h
  | [_, _, _, _, _, _, _, _], h => by simp at h
  | _ :: _ :: _ :: _ :: _ :: _ :: _ :: _ :: _ :: _ :: _, h => by simp at h
theorem ti_9 : TyI Tryd.prog 9 1 16 (.string ⟨#[]⟩) := tyI (by kernel_rfl)
theorem ti_84 : TyI Tryd.prog 84 2 32 (.agg #[.pointer none, .slice none 0 0]) := tyI (by kernel_rfl)
theorem sh_9 : Shp Tryd.prog 9 false 1 := shp Tryd.underlying9 rfl ti_9
theorem ti_3 : TyI Tryd.prog 3 1 8 (.int .i64 0) := tyI (by kernel_rfl)
theorem sh_3 : Shp Tryd.prog 3 false 1 := shp Tryd.underlying3 rfl ti_3
theorem eq_25_2 : EqF Tryd.prog 2 25 (fun x : M_api_Fault => .agg [i64 x.Kind, i64 x.Step, i64 x.Stage, i64 x.At]) eqb_api_Fault :=
  eqf_struct Tryd.underlying25 (by kernel_rfl) (eqfs_cons rfl rfl sh_3 (fun _ => rfl) (fun _ => rfl) (eqf_comp (fun x : M_api_Fault => x.Kind) (eqf_i64 (n := 0) Tryd.underlying3)) (eqfs_cons rfl rfl sh_3 (fun _ => rfl) (fun _ => rfl) (eqf_comp (fun x : M_api_Fault => x.Step) (eqf_i64 (n := 0) Tryd.underlying3)) (eqfs_cons rfl rfl sh_3 (fun _ => rfl) (fun _ => rfl) (eqf_comp (fun x : M_api_Fault => x.Stage) (eqf_i64 (n := 0) Tryd.underlying3)) (eqfs_cons rfl rfl sh_3 (fun _ => rfl) (fun _ => rfl) (eqf_comp (fun x : M_api_Fault => x.At) (eqf_i64 (n := 0) Tryd.underlying3)) (eqfs_nil)))))
theorem eg_25 : Tryd.prog.eqGuardType Tryd.prog.depth 25 = false := by kernel_rfl
theorem fd_25_0 : FldAt Tryd.prog 25 0 0 := by
  obtain ⟨i, h1, _, h3, _⟩ := ti_3
  exact ⟨_, _, Tryd.underlying25, rfl, rfl, i, h1, by rw [h3]; decide⟩
theorem ti_41 : TyI Tryd.prog 41 2 48 (.agg #[.slice none 0 0, .slice none 0 0]) := tyI (by kernel_rfl)
theorem sh_41 : Shp Tryd.prog 41 true 2 := shp Tryd.underlying41 rfl ti_41
theorem ti_38 : TyI Tryd.prog 38 1 24 (.slice none 0 0) := tyI (by kernel_rfl)
theorem fd_41_0 : FldAt Tryd.prog 41 0 0 := by
  obtain ⟨i, h1, _, h3, _⟩ := ti_38
  exact ⟨_, _, Tryd.underlying41, rfl, rfl, i, h1, by rw [h3]; decide⟩
theorem sh_38 : Shp Tryd.prog 38 false 1 := shp Tryd.underlying38 rfl ti_38
theorem ti_39 : TyI Tryd.prog 39 1 24 (.slice none 0 0) := tyI (by kernel_rfl)
theorem fd_41_1 : FldAt Tryd.prog 41 1 1 := by
  obtain ⟨i, h1, _, h3, _⟩ := ti_39
  exact ⟨_, _, Tryd.underlying41, rfl, rfl, i, h1, by rw [h3]; decide⟩
theorem sh_39 : Shp Tryd.prog 39 false 1 := shp Tryd.underlying39 rfl ti_39
theorem ti_92 : TyI Tryd.prog 92 2 40 (.agg #[.string ⟨#[]⟩, .slice none 0 0]) := tyI (by kernel_rfl)
theorem fd_92_0 : FldAt Tryd.prog 92 0 0 := by
  obtain ⟨i, h1, _, h3, _⟩ := ti_9
  exact ⟨_, _, Tryd.underlying92, rfl, rfl, i, h1, by rw [h3]; decide⟩
theorem ti_54 : TyI Tryd.prog 54 1 24 (.slice none 0 0) := tyI (by kernel_rfl)
theorem fd_92_1 : FldAt Tryd.prog 92 1 1 := by
  obtain ⟨i, h1, _, h3, _⟩ := ti_54
  exact ⟨_, _, Tryd.underlying92, rfl, rfl, i, h1, by rw [h3]; decide⟩
theorem sh_54 : Shp Tryd.prog 54 false 1 := shp Tryd.underlying54 rfl ti_54
theorem ti_62 : TyI Tryd.prog 62 3 40 (.agg #[.int .i64 0, .int .i64 0, .slice none 0 0]) := tyI (by kernel_rfl)
theorem ti_23 : TyI Tryd.prog 23 1 24 (.slice none 0 0) := tyI (by kernel_rfl)
theorem fd_62_2 : FldAt Tryd.prog 62 2 2 := by
  obtain ⟨i, h1, _, h3, _⟩ := ti_23
  exact ⟨_, _, Tryd.underlying62, rfl, rfl, i, h1, by rw [h3]; decide⟩
theorem sh_23 : Shp Tryd.prog 23 false 1 := shp Tryd.underlying23 rfl ti_23
theorem ti_60 : TyI Tryd.prog 60 3 40 (.agg #[.int .i64 0, .int .i64 0, .slice none 0 0]) := tyI (by kernel_rfl)
theorem pl_60 : Plc Tryd.prog 60 [(0, 1), (1, 1), (2, 1)] := ⟨_, Tryd.underlying60, by kernel_rfl⟩
theorem zr_tree_Node : Zr (L_tree_Node (⟨0, 0, []⟩ : M_tree_Node)) [.int .i64 0, .int .i64 0, .slice none 0 0] := zr_agg (zrs_cons (c1 := [.int .i64 0]) zr_i64 (zrs_cons (c1 := [.int .i64 0]) zr_i64 (zrs_cons (c1 := [.slice none 0 0]) zr_sli (zrs_nil))))
theorem ti_56 : TyI Tryd.prog 56 1 24 (.slice none 0 0) := tyI (by kernel_rfl)
theorem ti_50 : TyI Tryd.prog 50 2 48 (.agg #[.slice none 0 0, .slice none 0 0]) := tyI (by kernel_rfl)
theorem pl_50 : Plc Tryd.prog 50 [(0, 1), (1, 1)] := ⟨_, Tryd.underlying50, by kernel_rfl⟩
theorem zr_tree_Field : Zr (L_tree_Field (⟨[], []⟩ : M_tree_Field)) [.slice none 0 0, .slice none 0 0] := zr_agg (zrs_cons (c1 := [.slice none 0 0]) zr_sli (zrs_cons (c1 := [.slice none 0 0]) zr_sli (zrs_nil)))
theorem sh_50 : Shp Tryd.prog 50 true 2 := shp Tryd.underlying50 rfl ti_50
theorem ti_48 : TyI Tryd.prog 48 1 24 (.slice none 0 0) := tyI (by kernel_rfl)
theorem fd_50_1 : FldAt Tryd.prog 50 1 1 := by
  obtain ⟨i, h1, _, h3, _⟩ := ti_48
  exact ⟨_, _, Tryd.underlying50, rfl, rfl, i, h1, by rw [h3]; decide⟩
theorem sh_48 : Shp Tryd.prog 48 false 1 := shp Tryd.underlying48 rfl ti_48
theorem ti_47 : TyI Tryd.prog 47 1 24 (.slice none 0 0) := tyI (by kernel_rfl)
theorem fd_50_0 : FldAt Tryd.prog 50 0 0 := by
  obtain ⟨i, h1, _, h3, _⟩ := ti_47
  exact ⟨_, _, Tryd.underlying50, rfl, rfl, i, h1, by rw [h3]; decide⟩
theorem sh_47 : Shp Tryd.prog 47 false 1 := shp Tryd.underlying47 rfl ti_47
theorem ti_98 : TyI Tryd.prog 98 2 40 (.agg #[.string ⟨#[]⟩, .slice none 0 0]) := tyI (by kernel_rfl)
theorem sh_98 : Shp Tryd.prog 98 true 2 := shp Tryd.underlying98 rfl ti_98
theorem zr_tree_Let : Zr (L_tree_Let (⟨[], []⟩ : M_tree_Let)) [.string ⟨#[]⟩, .slice none 0 0] := zr_agg (zrs_cons (c1 := [.string ⟨#[]⟩]) zr_str (zrs_cons (c1 := [.slice none 0 0]) zr_sli (zrs_nil)))
theorem fd_98_1 : FldAt Tryd.prog 98 1 1 := by
  obtain ⟨i, h1, _, h3, _⟩ := ti_56
  exact ⟨_, _, Tryd.underlying98, rfl, rfl, i, h1, by rw [h3]; decide⟩
theorem sh_56 : Shp Tryd.prog 56 false 1 := shp Tryd.underlying56 rfl ti_56
theorem sh_60 : Shp Tryd.prog 60 true 3 := shp Tryd.underlying60 rfl ti_60
theorem fd_60_0 : FldAt Tryd.prog 60 0 0 := by
  obtain ⟨i, h1, _, h3, _⟩ := ti_3
  exact ⟨_, _, Tryd.underlying60, rfl, rfl, i, h1, by rw [h3]; decide⟩
theorem fd_60_1 : FldAt Tryd.prog 60 1 1 := by
  obtain ⟨i, h1, _, h3, _⟩ := ti_3
  exact ⟨_, _, Tryd.underlying60, rfl, rfl, i, h1, by rw [h3]; decide⟩
theorem fd_60_2 : FldAt Tryd.prog 60 2 2 := by
  obtain ⟨i, h1, _, h3, _⟩ := ti_23
  exact ⟨_, _, Tryd.underlying60, rfl, rfl, i, h1, by rw [h3]; decide⟩
theorem fd_98_0 : FldAt Tryd.prog 98 0 0 := by
  obtain ⟨i, h1, _, h3, _⟩ := ti_9
  exact ⟨_, _, Tryd.underlying98, rfl, rfl, i, h1, by rw [h3]; decide⟩
theorem ti_105 : TyI Tryd.prog 105 3 32 (.agg #[.int .i64 0, .string ⟨#[]⟩, .int .i64 0]) := tyI (by kernel_rfl)
theorem pl_105 : Plc Tryd.prog 105 [(0, 1), (1, 1), (2, 1)] := ⟨_, Tryd.underlying105, by kernel_rfl⟩
theorem zr_lex_Word : Zr (L_lex_Word (⟨0, [], 0⟩ : M_lex_Word)) [.int .i64 0, .string ⟨#[]⟩, .int .i64 0] := zr_agg (zrs_cons (c1 := [.int .i64 0]) zr_i64 (zrs_cons (c1 := [.string ⟨#[]⟩]) zr_str (zrs_cons (c1 := [.int .i64 0]) zr_i64 (zrs_nil))))
theorem fd_105_1 : FldAt Tryd.prog 105 1 1 := by
  obtain ⟨i, h1, _, h3, _⟩ := ti_9
  exact ⟨_, _, Tryd.underlying105, rfl, rfl, i, h1, by rw [h3]; decide⟩
theorem fd_105_0 : FldAt Tryd.prog 105 0 0 := by
  obtain ⟨i, h1, _, h3, _⟩ := ti_3
  exact ⟨_, _, Tryd.underlying105, rfl, rfl, i, h1, by rw [h3]; decide⟩
theorem ti_43 : TyI Tryd.prog 43 3 24 (.agg #[.int .i64 0, .int .i64 0, .int .i64 0]) := tyI (by kernel_rfl)
theorem zr_A3_i64 : Zr (L_A3_i64 (⟨0, 0, 0⟩ : M_A3_i64)) [.int .i64 0, .int .i64 0, .int .i64 0] := zr_agg (zrs_cons (c1 := [.int .i64 0]) zr_i64 (zrs_cons (c1 := [.int .i64 0]) zr_i64 (zrs_cons (c1 := [.int .i64 0]) zr_i64 (zrs_nil))))
theorem sh_43 : Shp Tryd.prog 43 true 3 := shp Tryd.underlying43 rfl ti_43
theorem ti_107 : TyI Tryd.prog 107 3 32 (.agg #[.int .i64 0, .string ⟨#[]⟩, .int .i64 0]) := tyI (by kernel_rfl)
theorem pl_107 : Plc Tryd.prog 107 [(0, 1), (1, 1), (2, 1)] := ⟨_, Tryd.underlying107, by kernel_rfl⟩
theorem zr_retrospectref16_Word : Zr (L_retrospectref16_Word (⟨0, [], 0⟩ : M_retrospectref16_Word)) [.int .i64 0, .string ⟨#[]⟩, .int .i64 0] := zr_agg (zrs_cons (c1 := [.int .i64 0]) zr_i64 (zrs_cons (c1 := [.string ⟨#[]⟩]) zr_str (zrs_cons (c1 := [.int .i64 0]) zr_i64 (zrs_nil))))
theorem fd_107_1 : FldAt Tryd.prog 107 1 1 := by
  obtain ⟨i, h1, _, h3, _⟩ := ti_9
  exact ⟨_, _, Tryd.underlying107, rfl, rfl, i, h1, by rw [h3]; decide⟩
theorem fd_107_2 : FldAt Tryd.prog 107 2 2 := by
  obtain ⟨i, h1, _, h3, _⟩ := ti_3
  exact ⟨_, _, Tryd.underlying107, rfl, rfl, i, h1, by rw [h3]; decide⟩
theorem fd_107_0 : FldAt Tryd.prog 107 0 0 := by
  obtain ⟨i, h1, _, h3, _⟩ := ti_3
  exact ⟨_, _, Tryd.underlying107, rfl, rfl, i, h1, by rw [h3]; decide⟩
theorem sh_107 : Shp Tryd.prog 107 true 3 := shp Tryd.underlying107 rfl ti_107
theorem fd_62_0 : FldAt Tryd.prog 62 0 0 := by
  obtain ⟨i, h1, _, h3, _⟩ := ti_3
  exact ⟨_, _, Tryd.underlying62, rfl, rfl, i, h1, by rw [h3]; decide⟩
theorem sh_62 : Shp Tryd.prog 62 true 3 := shp Tryd.underlying62 rfl ti_62
theorem fd_62_1 : FldAt Tryd.prog 62 1 1 := by
  obtain ⟨i, h1, _, h3, _⟩ := ti_3
  exact ⟨_, _, Tryd.underlying62, rfl, rfl, i, h1, by rw [h3]; decide⟩
theorem pl_98 : Plc Tryd.prog 98 [(0, 1), (1, 1)] := ⟨_, Tryd.underlying98, by kernel_rfl⟩
theorem c_digits_wrong {n : Nat} {x0 : (List UInt8)} : ∀ r, m_digits_wrong n x0 = some r → FnOk Tryd.prog 38 [str x0] [] (i64 r) [] := by
  unfold m_digits_wrong
  refine fn_of_sq (res := fun (r : Int) => i64 r) (mo := fun (r : Int) => []) Tryd.func38 rfl rfl (by kernel_rfl) rfl ?_
  intro w S0 γ hγ
  refine sseq ?_
  refine sreg ?_
  refine s1 (asg rfl (kI (x := 0) rfl)) ?_
  refine snil ?_
  refine pnm ?_
  refine sseq ?_
  refine sseq ?_
  refine sreg ?_
  refine s1 (mv rfl rfl) ?_
  refine s1 (lenS Tryd.underlying9 rfl rfl) ?_
  refine s1 (mv rfl (kI (x := 0) rfl)) ?_
  refine snil ?_
  refine pnm ?_
  refine sblk ?_
  refine sloopE 0 Lp.go (fun (s27 : Int) => [(0, str x0), (2, i64 (0 : Int)), (5, i64 (x0.length : Int)), (6, i64 s27)]) (fun (s27 : Int) => []) (fun (t25 : Unit) => [(0, str x0), (2, i64 (0 : Int))]) (fun (t25 : Unit) => []) (entI ⟨rfl, rfl, rfl, rfl, trivial⟩ eqm0) ?_ ?_
  · intro hj26 s27
    refine sseq ?_
    refine sreg ?_
    refine s1 (ltI rfl rfl rfl) ?_
    refine snil ?_
    refine pnm ?_
    refine sseq ?_
    refine scond rfl ?_ ?_
    · refine sskip ?_
      refine pnm ?_
      refine sseq ?_
      refine sblk ?_
      refine sseq ?_
      refine sreg ?_
      refine s1 (mv rfl rfl) ?_
      refine s1 (asg rfl rfl) ?_
      refine snil ?_
      refine pnm ?_
      refine sjq (fun (s34 : Bool) => [(0, str x0), (2, i64 (0 : Int)), (3, i64 s27), (5, i64 (x0.length : Int)), (6, i64 s27), (22, bl s34)]) (fun (s34 : Bool) => []) ?_ ?_
      · intro j32 hj33
        refine sreg ?_
        refine s1 (mv rfl rfl) ?_
        refine s1 (mv rfl rfl) ?_
        refine bd fun y35 h36 => ?_
        refine s1 (ixS Tryd.underlying9 h36 rfl rfl rfl) ?_
        refine s1 (ltU .u8 rfl rfl (k8 (x := 48) rfl)) ?_
        refine s1 (mv rfl rfl) ?_
        refine sifd 13 rfl ?_ ?_
        · refine spB 13 rfl rfl rfl ?_
          refine spB 13 rfl rfl rfl ?_
          refine spB 13 rfl rfl rfl ?_
          refine spB 13 rfl rfl rfl ?_
          refine s1 (pickT rfl rfl kB) ?_
          refine s1 (mv rfl rfl) ?_
          refine spB 19 rfl rfl rfl ?_
          refine spB 19 rfl rfl rfl ?_
          refine s1 (pickT rfl rfl kB) ?_
          refine snil ?_
          refine pnm ?_
          exact sj (hj33 _) (entI ⟨rfl, rfl, rfl, rfl, rfl, rfl, trivial⟩ eqm0)
        · refine sg 13 rfl rfl (mv rfl rfl) ?_
          refine sg 13 rfl rfl (mv rfl rfl) ?_
          refine bd fun y37 h38 => ?_
          refine sg 13 rfl rfl (ixS Tryd.underlying9 h38 rfl rfl rfl) ?_
          refine sg 13 rfl rfl (gtU .u8 rfl rfl (k8 (x := 57) rfl)) ?_
          refine s1 (pickF rfl rfl rfl) ?_
          refine s1 (mv rfl rfl) ?_
          refine sifd 19 rfl ?_ ?_
          · refine spB 19 rfl rfl rfl ?_
            refine spB 19 rfl rfl rfl ?_
            refine s1 (pickT rfl rfl kB) ?_
            refine snil ?_
            refine pnm ?_
            exact sj (hj33 _) (entI ⟨rfl, rfl, rfl, rfl, rfl, rfl, trivial⟩ eqm0)
          · refine sg 19 rfl rfl (mv rfl rfl) ?_
            refine sg 19 rfl rfl (eqI rfl rfl (kI (x := 60) rfl)) ?_
            refine s1 (pickF rfl rfl rfl) ?_
            refine snil ?_
            refine pnm ?_
            exact sj (hj33 _) (entI ⟨rfl, rfl, rfl, rfl, rfl, rfl, trivial⟩ eqm0)
      · intro s34
        refine scond rfl ?_ ?_
        · refine sseq ?_
          refine sreg ?_
          refine s1 (mv rfl rfl) ?_
          refine s1 (asg rfl rfl) ?_
          refine snil ?_
          refine pnm ?_
          refine sret ?_
          refine pbl ?_
          refine pth ?_
          refine sout (fun h => by cases h) ?_
          refine pbl ?_
          refine pth ?_
          exact ret [] [.tmp 2] [_] [_] .ret hγ (.inl rfl) rfl ⟨rfl, trivial⟩ rfl trivial trivial trivial (rns_cons (rn_id if_i64) (rns_nil)) rfl
        · refine sskip ?_
          refine pbn ?_
          refine pnm ?_
          refine sreg ?_
          refine s1 (addI rfl rfl (kI (x := 1) rfl)) ?_
          refine s1 (mv rfl rfl) ?_
          refine snil ?_
          exact sgo (entI ⟨rfl, rfl, rfl, rfl, trivial⟩ eqm0)
    · refine sexit ?_
      refine ptx ?_
      exact sout (fun h => by cases h) (sj (hj26 _) (entI ⟨rfl, rfl, trivial⟩ eqm0))
  · intro t25
    refine slpk ?_
    refine sx ?_
    refine pnm ?_
    refine sseq ?_
    refine sseq ?_
    refine sreg ?_
    refine s1 (mv rfl rfl) ?_
    refine s1 (eqS rfl rfl (kS (s := []) rfl)) ?_
    refine snil ?_
    refine pnm ?_
    refine scond rfl ?_ ?_
    · refine sseq ?_
      refine sreg ?_
      refine s1 (asg rfl (kI (x := 0) rfl)) ?_
      refine snil ?_
      refine pnm ?_
      refine sret ?_
      refine pth ?_
      exact ret [] [.tmp 2] [_] [_] .ret hγ (.inl rfl) rfl ⟨rfl, trivial⟩ rfl trivial trivial trivial (rns_cons (rn_id if_i64) (rns_nil)) rfl
    · refine sskip ?_
      refine pnm ?_
      refine sseq ?_
      refine sreg ?_
      refine s1 (asg rfl (kI (x := (-1)) rfl)) ?_
      refine snil ?_
      refine pnm ?_
      refine sret ?_
      exact ret [] [.tmp 2] [_] [_] .ret hγ (.inl rfl) rfl ⟨rfl, trivial⟩ rfl trivial trivial trivial (rns_cons (rn_id if_i64) (rns_nil)) rfl
theorem c_limb_Mul {x0 : Nat} {x1 : Nat} {x2 : Nat} {x3 : Nat} : ∀ r, m_limb_Mul x0 x1 x2 x3 = some r → FnOk Tryd.prog 80 [u32 x0, u32 x1, u32 x2, u32 x3] [] (.tup [u32 r.1, u32 r.2]) [] := by
  unfold m_limb_Mul
  refine fn_of_sq (res := fun (r : Nat × Nat) => .tup [u32 r.1, u32 r.2]) (mo := fun (r : Nat × Nat) => []) Tryd.func80 rfl rfl (by kernel_rfl) rfl ?_
  intro w S0 γ hγ
  refine sseq ?_
  refine sreg ?_
  refine s1 (asg rfl (k32 (x := 0) rfl)) ?_
  refine s1 (asg rfl (k32 (x := 0) rfl)) ?_
  refine snil ?_
  refine pnm ?_
  refine sseq ?_
  refine sreg ?_
  refine s1 (mv rfl rfl) ?_
  refine s1 (cvUw uk64 uk32 rfl Tryd.underlying72 Tryd.underlying71 rfl rfl) ?_
  refine s1 (mv rfl rfl) ?_
  refine s1 (cvUw uk64 uk32 rfl Tryd.underlying72 Tryd.underlying71 rfl rfl) ?_
  refine s1 (mulU uk64 rfl rfl rfl) ?_
  refine s1 (mv rfl rfl) ?_
  refine s1 (cvUw uk64 uk32 rfl Tryd.underlying72 Tryd.underlying71 rfl rfl) ?_
  refine s1 (addU uk64 rfl rfl rfl) ?_
  refine s1 (mv rfl rfl) ?_
  refine s1 (cvUw uk64 uk32 rfl Tryd.underlying72 Tryd.underlying71 rfl rfl) ?_
  refine s1 (addU uk64 rfl rfl rfl) ?_
  refine sbn (F := u64) 21 rfl fun z1 => ?_
  refine s1 (asg rfl rfl) ?_
  refine snil ?_
  refine pnm ?_
  refine sseq ?_
  refine sreg ?_
  refine s1 (mv rfl rfl) ?_
  refine s1 (shrU uk64 rfl rfl rfl (k64 (x := 32) rfl)) ?_
  refine s1 (cvU uk32 Tryd.underlying71 Tryd.underlying72 rfl rfl) ?_
  refine s1 (mv rfl rfl) ?_
  refine s1 (cvU uk32 Tryd.underlying71 Tryd.underlying72 rfl rfl) ?_
  refine s1 (asg rfl rfl) ?_
  refine s1 (asg rfl rfl) ?_
  refine snil ?_
  refine pnm ?_
  refine sret ?_
  exact ret [] [.tmp 8, .tmp 9] [_, _] [_, _] .ret hγ (.inl rfl) rfl ⟨rfl, rfl, trivial⟩ rfl trivial trivial trivial (rns_cons (rn_id if_u32) (rns_cons (rn_id if_u32) (rns_nil))) rfl
theorem c_prod_row {x0 : (List Nat)} {x1 : Int} {x2 : (List Nat)} {x3 : Nat} {x4 : Nat} : ∀ r, m_prod_row x0 x1 x2 x3 x4 = some r → FnOk Tryd.prog 65 [.own 0, i64 x1, sli 1 (List.map u32 x2), u32 x3, u32 x4] [(0, .sl 72 1 (List.map u32 x0))] (.tup []) [(0, .sl 72 1 (List.map u32 r))] := by
  unfold m_prod_row
  refine fn_of_sq (res := fun (r : (List Nat)) => .tup []) (mo := fun (r : (List Nat)) => [(0, .sl 72 1 (List.map u32 r))]) Tryd.func65 rfl rfl (by kernel_rfl) rfl ?_
  intro w S0 γ hγ
  refine sseq ?_
  refine sseq ?_
  refine sreg ?_
  refine s1 (mv rfl rfl) ?_
  refine s1 (lenL (f := u32) Tryd.underlying23 rfl rfl) ?_
  refine s1 (mv rfl (kI (x := 0) rfl)) ?_
  refine snil ?_
  refine pnm ?_
  refine sblk ?_
  refine srangeN (fun (s22 : (List Nat) × Nat) => [(0, .own 0), (1, i64 x1), (2, sli 1 (List.map u32 x2)), (3, u32 x3), (4, u32 s22.2), (12, sli 1 (List.map u32 x2))]) (fun (s22 : (List Nat) × Nat) => [(0, .sl 72 1 (List.map u32 s22.1))]) rfl (fun _ => rfl) (entR [(0, 0)] rfl (keepS hγ ⟨rfl, trivial⟩) ⟨⟨_, rfl⟩, trivial⟩ ⟨⟨_, _, rfl, rfl, rci (rc_sl (ifs_map (f := u32) (fun _ => if_u32) x0))⟩, trivial⟩ ⟨⟨_, rfl, rn_id if_i64⟩, ⟨_, rfl, rn_id if_i64⟩, ⟨_, rfl, rn_own rfl⟩, ⟨_, rfl, rn_id if_i64⟩, ⟨_, rfl, rn_id if_sli⟩, ⟨_, rfl, rn_id if_u32⟩, ⟨_, rfl, rn_id if_u32⟩, ⟨_, rfl, rn_id if_sli⟩, trivial⟩) ?_ ?_
  · intro i23 x24 s22 hx25
    refine sblk ?_
    refine sseq ?_
    refine sreg ?_
    refine s1 (mv rfl rfl) ?_
    refine s1 (ixR (f := u32) Tryd.underlying23 ti_72 (getI_nat hx25) rfl rfl rfl) ?_
    refine s1 (ldR sh_72 (by exact rfl) (by exact rfl) rfl rfl) ?_
    refine s1 (asg rfl rfl) ?_
    refine s1 (asg rfl rfl) ?_
    refine snil ?_
    refine pnm ?_
    refine sreg ?_
    refine s1 (mv rfl rfl) ?_
    refine s1 (mv rfl rfl) ?_
    refine s1 (mv rfl rfl) ?_
    refine s1 (addI rfl rfl rfl) ?_
    refine s1 (mv rfl rfl) ?_
    refine s1 (mv rfl rfl) ?_
    refine s1 (mv rfl rfl) ?_
    refine s1 (mv rfl rfl) ?_
    refine s1 (mv rfl rfl) ?_
    refine s1 (addI rfl rfl rfl) ?_
    refine bd fun y26 h27 => ?_
    refine s1 (ixO (f := u32) rfl Tryd.underlying23 ti_72 h27 rfl rfl rfl) ?_
    refine s1 (ldO (f := u32) [] rfl (getI_ix h27) (by exact rfl) (by exact rfl) sh_72 (by exact rfl) (by exact rfl) rfl rfl) ?_
    refine s1 (mv rfl rfl) ?_
    refine bd fun r28 h29 => ?_
    refine s1 (call0 (c_limb_Mul _ h29) ⟨⟨_, rfl, rn_id if_u32⟩, ⟨_, rfl, rn_id if_u32⟩, ⟨_, rfl, rn_id if_u32⟩, ⟨_, rfl, rn_id if_u32⟩, trivial⟩ (if_tup (ifs_cons if_u32 (ifs_cons if_u32 (ifs_nil)))) rfl) ?_
    refine s1 (mv rfl rfl) ?_
    refine s1 (ext (by exact rfl) rfl rfl) ?_
    refine s1 (ext (by exact rfl) rfl rfl) ?_
    refine s1 (asg rfl rfl) ?_
    refine bd fun y30 h31 => ?_
    refine s1 (ixO (f := u32) rfl Tryd.underlying23 ti_72 h31 rfl rfl rfl) ?_
    refine so (stO (f := u32) r28.2 [] rfl (getI_ix h31) (by exact rfl) (by exact rfl) (by exact rfl) (by exact rfl) sh_72 (by exact rfl) (by exact rfl) (by exact rfl) rfl rfl) ?_
    refine snil ?_
    refine pbn ?_
    exact sgo (entR [(0, 0)] rfl (keepS hγ ⟨rfl, trivial⟩) ⟨⟨_, rfl⟩, trivial⟩ ⟨⟨_, _, rfl, rfl, rci (rc_sl (ifs_map (f := u32) (fun _ => if_u32) (List.set s22.1 (Int.toNat (wrap64 (x1 + (i23 : Int)))) r28.2)))⟩, trivial⟩ ⟨⟨_, rfl, rn_id if_i64⟩, ⟨_, rfl, rn_id if_i64⟩, ⟨_, rfl, rn_own rfl⟩, ⟨_, rfl, rn_id if_i64⟩, ⟨_, rfl, rn_id if_sli⟩, ⟨_, rfl, rn_id if_u32⟩, ⟨_, rfl, rn_id if_u32⟩, ⟨_, rfl, rn_id if_sli⟩, trivial⟩)
  · intro s32
    refine sx ?_
    refine pnm ?_
    refine sreg ?_
    refine s1 (mv rfl rfl) ?_
    refine s1 (mv rfl rfl) ?_
    refine s1 (mv rfl rfl) ?_
    refine s1 (lenL (f := u32) Tryd.underlying23 rfl rfl) ?_
    refine s1 (addI rfl rfl rfl) ?_
    refine s1 (mv rfl rfl) ?_
    refine bd fun y33 h34 => ?_
    refine s1 (ixO (f := u32) rfl Tryd.underlying23 ti_72 h34 rfl rfl rfl) ?_
    refine so (stO (f := u32) s32.2 [] rfl (getI_ix h34) (by exact rfl) (by exact rfl) (by exact rfl) (by exact rfl) sh_72 (by exact rfl) (by exact rfl) (by exact rfl) rfl rfl) ?_
    refine snil ?_
    exact ret [(0, 0)] [] [] [] .normal hγ (.inr rfl) rfl trivial rfl ⟨rfl, trivial⟩ ⟨⟨_, rfl⟩, trivial⟩ ⟨⟨_, _, rfl, rfl, rci (rc_sl (ifs_map (f := u32) (fun _ => if_u32) (List.set s32.1 (Int.toNat (wrap64 (x1 + (x2.length : Int)))) s32.2)))⟩, trivial⟩ (rns_nil) rfl
theorem c_nat_trim {n : Nat} {x0 : (List Nat)} : ∀ r, m_nat_trim n x0 = some r → FnOk Tryd.prog 50 [sli 1 (List.map u32 x0)] [] (sli 1 (List.map u32 r)) [] := by
  unfold m_nat_trim
  refine fn_of_sq (res := fun (r : (List Nat)) => sli 1 (List.map u32 r)) (mo := fun (r : (List Nat)) => []) Tryd.func50 rfl rfl (by kernel_rfl) rfl ?_
  intro w S0 γ hγ
  refine sseq ?_
  refine sreg ?_
  refine s1 (asg rfl (kLm (k := 1) u32)) ?_
  refine snil ?_
  refine pnm ?_
  refine sseq ?_
  refine sreg ?_
  refine s1 (mv rfl rfl) ?_
  refine s1 (lenL (f := u32) Tryd.underlying23 rfl rfl) ?_
  refine s1 (asg rfl rfl) ?_
  refine snil ?_
  refine pnm ?_
  refine sseq ?_
  refine sblk ?_
  refine sloopE 0 (fun t => t) (fun (s19 : Int) => [(0, sli 1 (List.map u32 x0)), (2, sli 1 (List.map u32 ([] : List Nat))), (3, i64 s19)]) (fun (s19 : Int) => []) (fun (t17 : Int) => [(0, sli 1 (List.map u32 x0)), (2, sli 1 (List.map u32 ([] : List Nat))), (3, i64 t17)]) (fun (t17 : Int) => []) (entI ⟨rfl, rfl, rfl, trivial⟩ eqm0) ?_ ?_
  · intro hj18 s19
    refine sseq ?_
    refine sjq (fun (s24 : Bool) => [(0, sli 1 (List.map u32 x0)), (2, sli 1 (List.map u32 ([] : List Nat))), (3, i64 s19), (15, bl s24)]) (fun (s24 : Bool) => []) ?_ ?_
    · intro j22 hj23
      refine sreg ?_
      refine s1 (mv rfl rfl) ?_
      refine s1 (gtI rfl rfl (kI (x := 0) rfl)) ?_
      refine s1 (mv rfl rfl) ?_
      refine sifd 8 rfl ?_ ?_
      · refine sg 8 rfl rfl (mv rfl rfl) ?_
        refine sg 8 rfl rfl (mv rfl rfl) ?_
        refine sg 8 rfl rfl (subI rfl rfl (kI (x := 1) rfl)) ?_
        refine bd fun y25 h26 => ?_
        refine sg 8 rfl rfl (ixR (f := u32) Tryd.underlying23 ti_72 h26 rfl rfl rfl) ?_
        refine sg 8 rfl rfl (ldR sh_72 (by exact rfl) (by exact rfl) rfl rfl) ?_
        refine sg 8 rfl rfl (eqU .u32 rfl rfl (k32 (x := 0) rfl)) ?_
        refine s1 (pickT rfl rfl rfl) ?_
        refine snil ?_
        refine pnm ?_
        exact sj (hj23 _) (entI ⟨rfl, rfl, rfl, rfl, trivial⟩ eqm0)
      · refine spB 8 rfl rfl rfl ?_
        refine spB 8 rfl rfl rfl ?_
        refine spB 8 rfl rfl rfl ?_
        refine spB 8 rfl rfl rfl ?_
        refine spB 8 rfl rfl rfl ?_
        refine spB 8 rfl rfl rfl ?_
        refine s1 (pickF rfl rfl kB) ?_
        refine snil ?_
        refine pnm ?_
        exact sj (hj23 _) (entI ⟨rfl, rfl, rfl, rfl, trivial⟩ eqm0)
    · intro s24
      refine scond rfl ?_ ?_
      · refine sskip ?_
        refine pnm ?_
        refine sblk ?_
        refine sreg ?_
        refine s1 (mv rfl rfl) ?_
        refine s1 (subI rfl rfl (kI (x := 1) rfl)) ?_
        refine s1 (asg rfl rfl) ?_
        refine snil ?_
        refine pbn ?_
        exact sgo (entI ⟨rfl, rfl, rfl, trivial⟩ eqm0)
      · refine sexit ?_
        refine ptx ?_
        exact sout (fun h => by cases h) (sj (hj18 _) (entI ⟨rfl, rfl, rfl, trivial⟩ eqm0))
  · intro t17
    refine sx ?_
    refine pnm ?_
    refine sseq ?_
    refine sreg ?_
    refine s1 (mv rfl rfl) ?_
    refine s1 (mv rfl rfl) ?_
    refine bd fun y27 h28 => ?_
    refine s1 (slR (f := u32) h28 Tryd.underlying23 ti_72 rfl rfl bnd0 (bnd rfl)) ?_
    refine s1 (asg rfl rfl) ?_
    refine snil ?_
    refine pnm ?_
    refine sret ?_
    exact ret [] [.tmp 2] [_] [_] .ret hγ (.inl rfl) rfl ⟨rfl, trivial⟩ rfl trivial trivial trivial (rns_cons (rn_id if_sli) (rns_nil)) rfl
theorem c_nat_fresh {x0 : (List Nat)} {x1 : Int} : ∀ r, m_nat_fresh x0 x1 = some r → FnOk Tryd.prog 81 [sli 1 (List.map u32 x0), i64 x1] [] (sli 1 (List.map u32 r)) [] := by
  unfold m_nat_fresh
  refine fn_of_sq (res := fun (r : (List Nat)) => sli 1 (List.map u32 r)) (mo := fun (r : (List Nat)) => []) Tryd.func81 rfl rfl (by kernel_rfl) rfl ?_
  intro w S0 γ hγ
  refine sseq ?_
  refine sreg ?_
  refine s1 (asg rfl (kLm (k := 1) u32)) ?_
  refine snil ?_
  refine pnm ?_
  refine sseq ?_
  refine sreg ?_
  refine s1 (mv rfl rfl) ?_
  refine s1 (lenL (f := u32) Tryd.underlying23 rfl rfl) ?_
  refine s1 (mv rfl rfl) ?_
  refine s1 (addI rfl rfl rfl) ?_
  refine bd fun y1 h2 => ?_
  refine so (mks (y := 100) (f := u32) h2 Tryd.underlying23 ti_72 zr_u32 rfl rfl rfl rfl rfl rfl) ?_
  refine s1 (asg rfl rfl) ?_
  refine snil ?_
  refine pnm ?_
  refine sseq ?_
  refine sreg ?_
  refine s1 (mv rfl rfl) ?_
  refine s1 (mv rfl rfl) ?_
  refine so (cpy (f := u32) rfl Tryd.underlying23 ti_72 rfl rfl (.inl rfl) rfl) ?_
  refine snil ?_
  refine pnm ?_
  refine sseq ?_
  refine sreg ?_
  refine s1 (mv rfl rfl) ?_
  refine s1 (asg rfl rfl) ?_
  refine snil ?_
  refine pnm ?_
  refine sret ?_
  refine frz (id := 100) [(4, sli 1 (List.map u32 (cpyL y1 x0))), (5, sli 1 (List.map u32 (cpyL y1 x0))), (10, sli 1 (List.map u32 (cpyL y1 x0))), (11, sli 1 (List.map u32 (cpyL y1 x0))), (14, sli 1 (List.map u32 (cpyL y1 x0)))] [] rfl (ifs_map (f := u32) (fun _ => if_u32) (cpyL y1 x0)) ⟨⟨_, rfl, fz_own⟩, ⟨_, rfl, fz_own⟩, ⟨_, rfl, fz_own⟩, ⟨_, rfl, fz_own⟩, ⟨_, rfl, fz_own⟩, trivial⟩ trivial ?_
  exact ret [] [.tmp 4] [_] [_] .ret hγ (.inl rfl) rfl ⟨rfl, trivial⟩ rfl trivial trivial trivial (rns_cons (rn_id if_sli) (rns_nil)) rfl
theorem c_nat_Norm {n : Nat} {x0 : (List Nat)} : ∀ r, m_nat_Norm n x0 = some r → FnOk Tryd.prog 66 [sli 1 (List.map u32 x0)] [] (sli 1 (List.map u32 r)) [] := by
  unfold m_nat_Norm
  refine fn_of_sq (res := fun (r : (List Nat)) => sli 1 (List.map u32 r)) (mo := fun (r : (List Nat)) => []) Tryd.func66 rfl rfl (by kernel_rfl) rfl ?_
  intro w S0 γ hγ
  refine sseq ?_
  refine sreg ?_
  refine s1 (asg rfl (kLm (k := 1) u32)) ?_
  refine snil ?_
  refine pnm ?_
  refine sseq ?_
  refine sreg ?_
  refine s1 (mv rfl rfl) ?_
  refine bd fun r1 h2 => ?_
  refine s1 (call0 (c_nat_trim _ h2) ⟨⟨_, rfl, rn_id if_sli⟩, trivial⟩ (if_sli) rfl) ?_
  refine bd fun r3 h4 => ?_
  refine s1 (call0 (c_nat_fresh _ h4) ⟨⟨_, rfl, rn_id if_sli⟩, ⟨_, (kI (x := 0) rfl), rn_id if_i64⟩, trivial⟩ (if_sli) rfl) ?_
  refine s1 (asg rfl rfl) ?_
  refine snil ?_
  refine pnm ?_
  refine sret ?_
  exact ret [] [.tmp 2] [_] [_] .ret hγ (.inl rfl) rfl ⟨rfl, trivial⟩ rfl trivial trivial trivial (rns_cons (rn_id if_sli) (rns_nil)) rfl
theorem c_prod_Word {n : Nat} {x0 : (List Nat)} {x1 : Nat} {x2 : Nat} : ∀ r, m_prod_Word n x0 x1 x2 = some r → FnOk Tryd.prog 39 [sli 1 (List.map u32 x0), u32 x1, u32 x2] [] (sli 1 (List.map u32 r)) [] := by
  unfold m_prod_Word
  refine fn_of_sq (res := fun (r : (List Nat)) => sli 1 (List.map u32 r)) (mo := fun (r : (List Nat)) => []) Tryd.func39 rfl rfl (by kernel_rfl) rfl ?_
  intro w S0 γ hγ
  refine sseq ?_
  refine sreg ?_
  refine s1 (asg rfl (kLm (k := 1) u32)) ?_
  refine snil ?_
  refine pnm ?_
  refine sseq ?_
  refine sreg ?_
  refine s1 (mv rfl rfl) ?_
  refine s1 (lenL (f := u32) Tryd.underlying23 rfl rfl) ?_
  refine s1 (addI rfl rfl (kI (x := 1) rfl)) ?_
  refine bd fun y1 h2 => ?_
  refine so (mks (y := 100) (f := u32) h2 Tryd.underlying23 ti_72 zr_u32 rfl rfl rfl rfl rfl rfl) ?_
  refine s1 (asg rfl rfl) ?_
  refine snil ?_
  refine pnm ?_
  refine sseq ?_
  refine sreg ?_
  refine s1 (mv rfl rfl) ?_
  refine s1 (mv rfl rfl) ?_
  refine s1 (mv rfl rfl) ?_
  refine s1 (mv rfl rfl) ?_
  refine bd fun r3 h4 => ?_
  refine so (callG (em := [(100, .sl 72 1 (List.map u32 r3))]) (res' := .tup []) [(0, 100)] [] [(100, 0)] (c_prod_row _ h4) ⟨⟨_, rfl, rn_own rfl⟩, ⟨_, (kI (x := 0) rfl), rn_id if_i64⟩, ⟨_, rfl, rn_id if_sli⟩, ⟨_, rfl, rn_id if_u32⟩, ⟨_, rfl, rn_id if_u32⟩, trivial⟩ (MiF.get (mi := [(0, _)]) ⟨⟨_, _, rfl, rfl, rc_sl (ifs_map (f := u32) (fun _ => if_u32) y1)⟩, trivial⟩) ⟨⟨_, rfl⟩, trivial⟩ rfl trivial ⟨.inr rfl, trivial⟩ rfl ⟨.inl ⟨_, _, rfl, rfl, rc_sl (ifs_map (f := u32) (fun _ => if_u32) r3)⟩, trivial⟩ ⟨⟨_, rfl⟩, trivial⟩ trivial (rn_tup (rns_nil)) rfl) ?_
  refine snil ?_
  refine pnm ?_
  refine sseq ?_
  refine sreg ?_
  refine s1 (mv rfl rfl) ?_
  refine frz (id := 100) [(7, sli 1 (List.map u32 r3)), (11, sli 1 (List.map u32 r3)), (12, sli 1 (List.map u32 r3)), (17, sli 1 (List.map u32 r3))] [] rfl (ifs_map (f := u32) (fun _ => if_u32) r3) ⟨⟨_, rfl, fz_own⟩, ⟨_, rfl, fz_own⟩, ⟨_, rfl, fz_own⟩, ⟨_, rfl, fz_own⟩, trivial⟩ trivial ?_
  refine bd fun r5 h6 => ?_
  refine s1 (call0 (c_nat_Norm _ h6) ⟨⟨_, rfl, rn_id if_sli⟩, trivial⟩ (if_sli) rfl) ?_
  refine s1 (asg rfl rfl) ?_
  refine snil ?_
  refine pnm ?_
  refine sret ?_
  exact ret [] [.tmp 6] [_] [_] .ret hγ (.inl rfl) rfl ⟨rfl, trivial⟩ rfl trivial trivial trivial (rns_cons (rn_id if_sli) (rns_nil)) rfl
theorem c_digits_Read {n : Nat} {x0 : (List UInt8)} : ∀ r, m_digits_Read n x0 = some r → FnOk Tryd.prog 10 [str x0] [] (.tup [sli 1 (List.map u32 r.1), L_api_Fault r.2]) [] := by
  unfold m_digits_Read
  refine fn_of_sq (res := fun (r : (List Nat) × M_api_Fault) => .tup [sli 1 (List.map u32 r.1), L_api_Fault r.2]) (mo := fun (r : (List Nat) × M_api_Fault) => []) Tryd.func10 rfl rfl (by kernel_rfl) rfl ?_
  intro w S0 γ hγ
  refine sseq ?_
  refine sreg ?_
  refine s1 (asg rfl (kLm (k := 1) u32)) ?_
  refine so (al (y := 100) (ly := L_api_Fault (⟨0, 0, 0, 0⟩ : M_api_Fault)) ti_25 zr_api_Fault rfl rfl) ?_
  refine snil ?_
  refine pnm ?_
  refine sseq ?_
  refine sseq ?_
  refine sreg ?_
  refine s1 (mv rfl rfl) ?_
  refine bd fun r1 h2 => ?_
  refine s1 (call0 (c_digits_wrong _ h2) ⟨⟨_, rfl, rn_id if_str⟩, trivial⟩ (if_i64) rfl) ?_
  refine s1 (asg rfl rfl) ?_
  refine snil ?_
  refine pnm ?_
  refine sseq ?_
  refine sreg ?_
  refine s1 (mv rfl rfl) ?_
  refine s1 (geI rfl rfl (kI (x := 0) rfl)) ?_
  refine snil ?_
  refine pnm ?_
  refine scond rfl ?_ ?_
  · refine sseq ?_
    refine sreg ?_
    refine s1 (mv rfl rfl) ?_
    refine s1 (bld (l := [i64 (1 : Int), i64 0, i64 0, i64 r1]) pl_25 ti_25 zr_api_Fault ⟨_, _, _, (kI (x := 1) rfl), rfl, rfl, rfl, (szk (k := 1) rfl rfl), ⟨_, _, _, rfl, rfl, rfl, rfl, (szk (k := 1) rfl rfl), rfl⟩⟩ rfl) ?_
    refine s1 (asg rfl (kLm (k := 1) u32)) ?_
    refine so (stB2 (ly2 := L_api_Fault (⟨(1 : Int), 0, 0, r1⟩ : M_api_Fault)) [] (by exact rfl) rfl (by exact rfl) sh_25 (by exact rfl) (by exact rfl) (by exact rfl) rfl (.inr ⟨rfl, rfl, _, _, rfl⟩) rfl) ?_
    refine snil ?_
    refine pnm ?_
    refine sret ?_
    refine pth ?_
    exact ret [] [.tmp 2, .cell 3 25] [_, _] [_, _] .ret hγ (.inl rfl) rfl ⟨rfl, ⟨100, _, rfl, rfl, sh_25⟩, trivial⟩ rfl trivial trivial trivial (rns_cons (rn_id if_sli) (rns_cons (rn_id if_L_api_Fault) (rns_nil))) rfl
  · refine sskip ?_
    refine pnm ?_
    refine sseq ?_
    refine sreg ?_
    refine s1 (asg rfl (kLm (k := 1) u32)) ?_
    refine snil ?_
    refine pnm ?_
    refine sseq ?_
    refine sseq ?_
    refine sreg ?_
    refine s1 (asg rfl (kI (x := 0) rfl)) ?_
    refine snil ?_
    refine pnm ?_
    refine sblk ?_
    refine sloopE 0 (fun t => t) (fun (s49 : (List Nat) × Int) => [(0, str x0), (2, sli 1 (List.map u32 ([] : List Nat))), (3, .own 100), (5, sli 1 (List.map u32 s49.1)), (6, i64 s49.2)]) (fun (s49 : (List Nat) × Int) => [(100, .bx 25 (L_api_Fault (⟨0, 0, 0, 0⟩ : M_api_Fault)))]) (fun (t47 : (List Nat)) => [(2, sli 1 (List.map u32 ([] : List Nat))), (3, .own 100), (5, sli 1 (List.map u32 t47))]) (fun (t47 : (List Nat)) => [(100, .bx 25 (L_api_Fault (⟨0, 0, 0, 0⟩ : M_api_Fault)))]) (entR [(100, 100)] rfl (keepS hγ trivial) ⟨⟨_, rfl⟩, trivial⟩ ⟨⟨_, _, rfl, rfl, rci (rc_bx (rn_id if_L_api_Fault))⟩, trivial⟩ ⟨⟨_, rfl, rn_id if_str⟩, ⟨_, rfl, rn_id if_sli⟩, ⟨_, rfl, rn_own rfl⟩, ⟨_, rfl, rn_id if_sli⟩, ⟨_, rfl, rn_id if_i64⟩, trivial⟩) ?_ ?_
    · intro hj48 s49
      refine sseq ?_
      refine sseq ?_
      refine sreg ?_
      refine s1 (mv rfl rfl) ?_
      refine s1 (mv rfl rfl) ?_
      refine s1 (lenS Tryd.underlying9 rfl rfl) ?_
      refine s1 (ltI rfl rfl rfl) ?_
      refine snil ?_
      refine pnm ?_
      refine scond rfl ?_ ?_
      · refine sskip ?_
        refine pnm ?_
        refine sblk ?_
        refine sseq ?_
        refine sreg ?_
        refine s1 (asg rfl (k32 (x := 0) rfl)) ?_
        refine s1 (asg rfl (k32 (x := 1) rfl)) ?_
        refine snil ?_
        refine pnm ?_
        refine sseq ?_
        refine sseq ?_
        refine sreg ?_
        refine s1 (asg rfl (kI (x := 0) rfl)) ?_
        refine snil ?_
        refine pnm ?_
        refine sblk ?_
        refine sloopE 2 (fun t => t) (fun (s59 : Int × Nat × Nat × Int) => [(0, str x0), (2, sli 1 (List.map u32 ([] : List Nat))), (3, .own 100), (5, sli 1 (List.map u32 s49.1)), (6, i64 s59.1), (7, u32 s59.2.1), (8, u32 s59.2.2.1), (9, i64 s59.2.2.2)]) (fun (s59 : Int × Nat × Nat × Int) => [(100, .bx 25 (L_api_Fault (⟨0, 0, 0, 0⟩ : M_api_Fault)))]) (fun (t57 : Int × Nat × Nat) => [(0, str x0), (2, sli 1 (List.map u32 ([] : List Nat))), (3, .own 100), (5, sli 1 (List.map u32 s49.1)), (6, i64 t57.1), (7, u32 t57.2.1), (8, u32 t57.2.2)]) (fun (t57 : Int × Nat × Nat) => [(100, .bx 25 (L_api_Fault (⟨0, 0, 0, 0⟩ : M_api_Fault)))]) (entR [(100, 100)] rfl (keepS hγ trivial) ⟨⟨_, rfl⟩, trivial⟩ ⟨⟨_, _, rfl, rfl, rci (rc_bx (rn_id if_L_api_Fault))⟩, trivial⟩ ⟨⟨_, rfl, rn_id if_str⟩, ⟨_, rfl, rn_id if_sli⟩, ⟨_, rfl, rn_own rfl⟩, ⟨_, rfl, rn_id if_sli⟩, ⟨_, rfl, rn_id if_i64⟩, ⟨_, rfl, rn_id if_u32⟩, ⟨_, rfl, rn_id if_u32⟩, ⟨_, rfl, rn_id if_i64⟩, trivial⟩) ?_ ?_
        · intro hj58 s59
          refine sseq ?_
          refine sjq (fun (s62 : Bool) => [(0, str x0), (2, sli 1 (List.map u32 ([] : List Nat))), (3, .own 100), (5, sli 1 (List.map u32 s49.1)), (6, i64 s59.1), (7, u32 s59.2.1), (8, u32 s59.2.2.1), (9, i64 s59.2.2.2), (27, bl s62)]) (fun (s62 : Bool) => [(100, .bx 25 (L_api_Fault (⟨0, 0, 0, 0⟩ : M_api_Fault)))]) ?_ ?_
          · intro j60 hj61
            refine sreg ?_
            refine s1 (mv rfl rfl) ?_
            refine s1 (ltI rfl rfl (kI (x := 9) rfl)) ?_
            refine s1 (mv rfl rfl) ?_
            refine sifd 22 rfl ?_ ?_
            · refine sg 22 rfl rfl (mv rfl rfl) ?_
              refine sg 22 rfl rfl (mv rfl rfl) ?_
              refine sg 22 rfl rfl (lenS Tryd.underlying9 rfl rfl) ?_
              refine sg 22 rfl rfl (ltI rfl rfl rfl) ?_
              refine s1 (pickT rfl rfl rfl) ?_
              refine snil ?_
              refine pnm ?_
              exact sj (hj61 _) (entR [(100, 100)] rfl (keepS hγ trivial) ⟨⟨_, rfl⟩, trivial⟩ ⟨⟨_, _, rfl, rfl, rci (rc_bx (rn_id if_L_api_Fault))⟩, trivial⟩ ⟨⟨_, rfl, rn_id if_str⟩, ⟨_, rfl, rn_id if_sli⟩, ⟨_, rfl, rn_own rfl⟩, ⟨_, rfl, rn_id if_sli⟩, ⟨_, rfl, rn_id if_i64⟩, ⟨_, rfl, rn_id if_u32⟩, ⟨_, rfl, rn_id if_u32⟩, ⟨_, rfl, rn_id if_i64⟩, ⟨_, rfl, rn_id if_bl⟩, trivial⟩)
            · refine spB 22 rfl rfl rfl ?_
              refine spB 22 rfl rfl rfl ?_
              refine spB 22 rfl rfl rfl ?_
              refine spB 22 rfl rfl rfl ?_
              refine s1 (pickF rfl rfl kB) ?_
              refine snil ?_
              refine pnm ?_
              exact sj (hj61 _) (entR [(100, 100)] rfl (keepS hγ trivial) ⟨⟨_, rfl⟩, trivial⟩ ⟨⟨_, _, rfl, rfl, rci (rc_bx (rn_id if_L_api_Fault))⟩, trivial⟩ ⟨⟨_, rfl, rn_id if_str⟩, ⟨_, rfl, rn_id if_sli⟩, ⟨_, rfl, rn_own rfl⟩, ⟨_, rfl, rn_id if_sli⟩, ⟨_, rfl, rn_id if_i64⟩, ⟨_, rfl, rn_id if_u32⟩, ⟨_, rfl, rn_id if_u32⟩, ⟨_, rfl, rn_id if_i64⟩, ⟨_, rfl, rn_id if_bl⟩, trivial⟩)
          · intro s62
            refine scond rfl ?_ ?_
            · refine sskip ?_
              refine pnm ?_
              refine sseq ?_
              refine sblk ?_
              refine sseq ?_
              refine sreg ?_
              refine s1 (mv rfl rfl) ?_
              refine s1 (mulU uk32 rfl rfl (k32 (x := 10) rfl)) ?_
              refine s1 (mv rfl rfl) ?_
              refine s1 (mv rfl rfl) ?_
              refine bd fun y63 h64 => ?_
              refine s1 (ixS Tryd.underlying9 h64 rfl rfl rfl) ?_
              refine s1 (subU uk8 rfl rfl (k8 (x := 48) rfl)) ?_
              refine s1 (cvUw uk32 uk8 rfl Tryd.underlying5 Tryd.underlying72 rfl rfl) ?_
              refine s1 (addU uk32 rfl rfl rfl) ?_
              refine sbn (F := u32) 37 rfl fun z65 => ?_
              refine s1 (asg rfl rfl) ?_
              refine snil ?_
              refine pnm ?_
              refine sseq ?_
              refine sreg ?_
              refine s1 (mv rfl rfl) ?_
              refine s1 (mulU uk32 rfl rfl (k32 (x := 10) rfl)) ?_
              refine s1 (asg rfl rfl) ?_
              refine snil ?_
              refine pnm ?_
              refine sreg ?_
              refine s1 (mv rfl rfl) ?_
              refine s1 (addI rfl rfl (kI (x := 1) rfl)) ?_
              refine s1 (asg rfl rfl) ?_
              refine snil ?_
              refine pbn ?_
              refine pnm ?_
              refine sreg ?_
              refine s1 (mv rfl rfl) ?_
              refine s1 (addI rfl rfl (kI (x := 1) rfl)) ?_
              refine s1 (asg rfl rfl) ?_
              refine snil ?_
              exact sgo (entR [(100, 100)] rfl (keepS hγ trivial) ⟨⟨_, rfl⟩, trivial⟩ ⟨⟨_, _, rfl, rfl, rci (rc_bx (rn_id if_L_api_Fault))⟩, trivial⟩ ⟨⟨_, rfl, rn_id if_str⟩, ⟨_, rfl, rn_id if_sli⟩, ⟨_, rfl, rn_own rfl⟩, ⟨_, rfl, rn_id if_sli⟩, ⟨_, rfl, rn_id if_i64⟩, ⟨_, rfl, rn_id if_u32⟩, ⟨_, rfl, rn_id if_u32⟩, ⟨_, rfl, rn_id if_i64⟩, trivial⟩)
            · refine sexit ?_
              refine ptx ?_
              exact sout (fun h => by cases h) (sj (hj58 _) (entR [(100, 100)] rfl (keepS hγ trivial) ⟨⟨_, rfl⟩, trivial⟩ ⟨⟨_, _, rfl, rfl, rci (rc_bx (rn_id if_L_api_Fault))⟩, trivial⟩ ⟨⟨_, rfl, rn_id if_str⟩, ⟨_, rfl, rn_id if_sli⟩, ⟨_, rfl, rn_own rfl⟩, ⟨_, rfl, rn_id if_sli⟩, ⟨_, rfl, rn_id if_i64⟩, ⟨_, rfl, rn_id if_u32⟩, ⟨_, rfl, rn_id if_u32⟩, trivial⟩))
        · intro t57
          refine sx ?_
          refine pnm ?_
          refine sreg ?_
          refine s1 (mv rfl rfl) ?_
          refine s1 (mv rfl rfl) ?_
          refine s1 (mv rfl rfl) ?_
          refine bd fun r66 h67 => ?_
          refine s1 (call0 (c_prod_Word _ h67) ⟨⟨_, rfl, rn_id if_sli⟩, ⟨_, rfl, rn_id if_u32⟩, ⟨_, rfl, rn_id if_u32⟩, trivial⟩ (if_sli) rfl) ?_
          refine s1 (asg rfl rfl) ?_
          refine snil ?_
          refine pbn ?_
          exact sgo (entR [(100, 100)] rfl (keepS hγ trivial) ⟨⟨_, rfl⟩, trivial⟩ ⟨⟨_, _, rfl, rfl, rci (rc_bx (rn_id if_L_api_Fault))⟩, trivial⟩ ⟨⟨_, rfl, rn_id if_str⟩, ⟨_, rfl, rn_id if_sli⟩, ⟨_, rfl, rn_own rfl⟩, ⟨_, rfl, rn_id if_sli⟩, ⟨_, rfl, rn_id if_i64⟩, trivial⟩)
      · refine sexit ?_
        refine ptx ?_
        exact sout (fun h => by cases h) (sj (hj48 _) (entR [(100, 100)] rfl (keepS hγ trivial) ⟨⟨_, rfl⟩, trivial⟩ ⟨⟨_, _, rfl, rfl, rci (rc_bx (rn_id if_L_api_Fault))⟩, trivial⟩ ⟨⟨_, rfl, rn_id if_sli⟩, ⟨_, rfl, rn_own rfl⟩, ⟨_, rfl, rn_id if_sli⟩, trivial⟩))
    · intro t47
      refine sx ?_
      refine pnm ?_
      refine sseq ?_
      refine sreg ?_
      refine s1 (mv rfl rfl) ?_
      refine s1 (bld (l := [i64 0, i64 0, i64 0, i64 0]) pl_25 ti_25 zr_api_Fault rfl rfl) ?_
      refine s1 (asg rfl rfl) ?_
      refine so (stB2 (ly2 := L_api_Fault (⟨0, 0, 0, 0⟩ : M_api_Fault)) [] (by exact rfl) rfl (by exact rfl) sh_25 (by exact rfl) (by exact rfl) (by exact rfl) rfl (.inr ⟨rfl, rfl, _, _, rfl⟩) rfl) ?_
      refine snil ?_
      refine pnm ?_
      refine sret ?_
      exact ret [] [.tmp 2, .cell 3 25] [_, _] [_, _] .ret hγ (.inl rfl) rfl ⟨rfl, ⟨100, _, rfl, rfl, sh_25⟩, trivial⟩ rfl trivial trivial trivial (rns_cons (rn_id if_sli) (rns_cons (rn_id if_L_api_Fault) (rns_nil))) rfl
theorem c_nat_Of {n : Nat} {x0 : Nat} : ∀ r, m_nat_Of n x0 = some r → FnOk Tryd.prog 37 [u64 x0] [] (sli 1 (List.map u32 r)) [] := by
  unfold m_nat_Of
  refine fn_of_sq (res := fun (r : (List Nat)) => sli 1 (List.map u32 r)) (mo := fun (r : (List Nat)) => []) Tryd.func37 rfl rfl (by kernel_rfl) rfl ?_
  intro w S0 γ hγ
  refine sseq ?_
  refine sreg ?_
  refine s1 (asg rfl (kLm (k := 1) u32)) ?_
  refine snil ?_
  refine pnm ?_
  refine sseq ?_
  refine sreg ?_
  refine s1 (mv rfl rfl) ?_
  refine s1 (cvU uk32 Tryd.underlying71 Tryd.underlying72 rfl rfl) ?_
  refine s1 (mv rfl rfl) ?_
  refine s1 (shrU uk64 rfl rfl rfl (k64 (x := 32) rfl)) ?_
  refine s1 (cvU uk32 Tryd.underlying71 Tryd.underlying72 rfl rfl) ?_
  refine so (bsl (y := 100) (ls := List.map u32 ([(x0 % 4294967296), ((x0 / 2 ^ 32) % 4294967296)] : List Nat)) Tryd.underlying23 ti_72 rfl rfl rfl rfl rfl ⟨rfl, rfl, (by exact rfl), (by exact rfl), rfl, rfl, (by exact rfl), (by exact rfl), trivial⟩ rfl rfl) ?_
  refine frz (id := 100) [(8, sli 1 (List.map u32 ([(x0 % 4294967296), ((x0 / 2 ^ 32) % 4294967296)] : List Nat)))] [] rfl (ifs_map (f := u32) (fun _ => if_u32) ([(x0 % 4294967296), ((x0 / 2 ^ 32) % 4294967296)] : List Nat)) ⟨⟨_, rfl, fz_own⟩, trivial⟩ trivial ?_
  refine bd fun r1 h2 => ?_
  refine s1 (call0 (c_nat_trim _ h2) ⟨⟨_, rfl, rn_id if_sli⟩, trivial⟩ (if_sli) rfl) ?_
  refine s1 (asg rfl rfl) ?_
  refine snil ?_
  refine pnm ?_
  refine sret ?_
  exact ret [] [.tmp 2] [_] [_] .ret hγ (.inl rfl) rfl ⟨rfl, trivial⟩ rfl trivial trivial trivial (rns_cons (rn_id if_sli) (rns_nil)) rfl
theorem c_nat_Zero {n : Nat} {x0 : (List Nat)} : ∀ r, m_nat_Zero n x0 = some r → FnOk Tryd.prog 44 [sli 1 (List.map u32 x0)] [] (bl r) [] := by
  unfold m_nat_Zero
  refine fn_of_sq (res := fun (r : Bool) => bl r) (mo := fun (r : Bool) => []) Tryd.func44 rfl rfl (by kernel_rfl) rfl ?_
  intro w S0 γ hγ
  refine sseq ?_
  refine sreg ?_
  refine s1 (asg rfl kB) ?_
  refine snil ?_
  refine pnm ?_
  refine sseq ?_
  refine sreg ?_
  refine s1 (mv rfl rfl) ?_
  refine bd fun r1 h2 => ?_
  refine s1 (call0 (c_nat_trim _ h2) ⟨⟨_, rfl, rn_id if_sli⟩, trivial⟩ (if_sli) rfl) ?_
  refine s1 (lenL (f := u32) Tryd.underlying23 rfl rfl) ?_
  refine s1 (eqI rfl rfl (kI (x := 0) rfl)) ?_
  refine s1 (asg rfl rfl) ?_
  refine snil ?_
  refine pnm ?_
  refine sret ?_
  exact ret [] [.tmp 2] [_] [_] .ret hγ (.inl rfl) rfl ⟨rfl, trivial⟩ rfl trivial trivial trivial (rns_cons (rn_id if_bl) (rns_nil)) rfl
theorem c_limb_Div {x0 : Nat} {x1 : Nat} {x2 : Nat} : ∀ r, m_limb_Div x0 x1 x2 = some r → FnOk Tryd.prog 68 [u32 x0, u32 x1, u32 x2] [] (.tup [u32 r.1, u32 r.2.1, bl r.2.2]) [] := by
  unfold m_limb_Div
  refine fn_of_sq (res := fun (r : Nat × Nat × Bool) => .tup [u32 r.1, u32 r.2.1, bl r.2.2]) (mo := fun (r : Nat × Nat × Bool) => []) Tryd.func68 rfl rfl (by kernel_rfl) rfl ?_
  intro w S0 γ hγ
  refine sseq ?_
  refine sreg ?_
  refine s1 (asg rfl (k32 (x := 0) rfl)) ?_
  refine s1 (asg rfl (k32 (x := 0) rfl)) ?_
  refine s1 (asg rfl kB) ?_
  refine snil ?_
  refine pnm ?_
  refine sseq ?_
  refine sseq ?_
  refine sreg ?_
  refine s1 (mv rfl rfl) ?_
  refine s1 (mv rfl rfl) ?_
  refine s1 (geU .u32 rfl rfl rfl) ?_
  refine snil ?_
  refine pnm ?_
  refine scond rfl ?_ ?_
  · refine sseq ?_
    refine sreg ?_
    refine s1 (asg rfl (k32 (x := 0) rfl)) ?_
    refine s1 (asg rfl (k32 (x := 0) rfl)) ?_
    refine s1 (asg rfl kB) ?_
    refine snil ?_
    refine pnm ?_
    refine sret ?_
    refine pth ?_
    exact ret [] [.tmp 6, .tmp 7, .tmp 8] [_, _, _] [_, _, _] .ret hγ (.inl rfl) rfl ⟨rfl, rfl, rfl, trivial⟩ rfl trivial trivial trivial (rns_cons (rn_id if_u32) (rns_cons (rn_id if_u32) (rns_cons (rn_id if_bl) (rns_nil)))) rfl
  · refine sskip ?_
    refine pnm ?_
    refine sseq ?_
    refine sreg ?_
    refine s1 (mv rfl rfl) ?_
    refine s1 (cvUw uk64 uk32 rfl Tryd.underlying72 Tryd.underlying71 rfl rfl) ?_
    refine s1 (shlU uk64 rfl rfl rfl (k64 (x := 32) rfl)) ?_
    refine s1 (mv rfl rfl) ?_
    refine s1 (cvUw uk64 uk32 rfl Tryd.underlying72 Tryd.underlying71 rfl rfl) ?_
    refine s1 (orU uk64 rfl rfl rfl) ?_
    refine s1 (asg rfl rfl) ?_
    refine snil ?_
    refine pnm ?_
    refine sseq ?_
    refine bd fun _ h1 => ?_
    refine bd fun _ h2 => ?_
    refine sdraw [⟨[9], [], [(19, u64 (((x0 * 2 ^ 32) % 18446744073709551616) ||| x1))], []⟩, ⟨[2], [], [(20, u32 x2)], []⟩, ⟨[20], [], [(21, u64 x2)], []⟩, ⟨[19, 21], [], [(22, u64 ((((x0 * 2 ^ 32) % 18446744073709551616) ||| x1) / x2))], []⟩, ⟨[22], [], [(23, u32 (((((x0 * 2 ^ 32) % 18446744073709551616) ||| x1) / x2) % 4294967296))], []⟩, ⟨[9], [], [(24, u64 (((x0 * 2 ^ 32) % 18446744073709551616) ||| x1))], []⟩, ⟨[2], [], [(25, u32 x2)], []⟩, ⟨[25], [], [(26, u64 x2)], []⟩, ⟨[24, 26], [], [(27, u64 ((((x0 * 2 ^ 32) % 18446744073709551616) ||| x1) % x2))], []⟩, ⟨[27], [], [(28, u32 (((((x0 * 2 ^ 32) % 18446744073709551616) ||| x1) % x2) % 4294967296))], []⟩, ⟨[23], [], [(6, u32 (((((x0 * 2 ^ 32) % 18446744073709551616) ||| x1) / x2) % 4294967296))], []⟩, ⟨[28], [], [(7, u32 (((((x0 * 2 ^ 32) % 18446744073709551616) ||| x1) % x2) % 4294967296))], []⟩, ⟨[], [], [(8, bl true)], []⟩] fol (by kernel_rfl) ⟨fun st mm ⟨a9, _⟩ _ => og (mv rfl (a9.trans rfl)), fun st mm ⟨a2, _⟩ _ => og (mv rfl (a2.trans rfl)), fun st mm ⟨a20, _⟩ _ => og (cvUw uk64 uk32 rfl Tryd.underlying72 Tryd.underlying71 rfl (a20.trans rfl)), fun st mm ⟨a19, a21, _⟩ _ => og (quoU uk64 (nzU h1) rfl (a19.trans rfl) (a21.trans rfl)), fun st mm ⟨a22, _⟩ _ => og (cvU uk32 Tryd.underlying71 Tryd.underlying72 rfl (a22.trans rfl)), fun st mm ⟨a9, _⟩ _ => og (mv rfl (a9.trans rfl)), fun st mm ⟨a2, _⟩ _ => og (mv rfl (a2.trans rfl)), fun st mm ⟨a25, _⟩ _ => og (cvUw uk64 uk32 rfl Tryd.underlying72 Tryd.underlying71 rfl (a25.trans rfl)), fun st mm ⟨a24, a26, _⟩ _ => og (remU uk64 (nzU h2) rfl (a24.trans rfl) (a26.trans rfl)), fun st mm ⟨a27, _⟩ _ => og (cvU uk32 Tryd.underlying71 Tryd.underlying72 rfl (a27.trans rfl)), fun st mm ⟨a23, _⟩ _ => og (asg rfl (a23.trans rfl)), fun st mm ⟨a28, _⟩ _ => og (asg rfl (a28.trans rfl)), fun st mm _ _ => og (asg rfl kB), trivial⟩ ?_
    refine pnm ?_
    refine sret ?_
    exact ret [] [.tmp 6, .tmp 7, .tmp 8] [_, _, _] [_, _, _] .ret hγ (.inl rfl) rfl ⟨rfl, rfl, rfl, trivial⟩ rfl trivial trivial trivial (rns_cons (rn_id if_u32) (rns_cons (rn_id if_u32) (rns_cons (rn_id if_bl) (rns_nil)))) rfl
theorem c_quot_Word {n : Nat} {x0 : (List Nat)} {x1 : Nat} : ∀ r, m_quot_Word n x0 x1 = some r → FnOk Tryd.prog 45 [sli 1 (List.map u32 x0), u32 x1] [] (.tup [sli 1 (List.map u32 r.1), u32 r.2.1, bl r.2.2]) [] := by
  unfold m_quot_Word
  refine fn_of_sq (res := fun (r : (List Nat) × Nat × Bool) => .tup [sli 1 (List.map u32 r.1), u32 r.2.1, bl r.2.2]) (mo := fun (r : (List Nat) × Nat × Bool) => []) Tryd.func45 rfl rfl (by kernel_rfl) rfl ?_
  intro w S0 γ hγ
  refine sseq ?_
  refine sreg ?_
  refine s1 (asg rfl (kLm (k := 1) u32)) ?_
  refine s1 (asg rfl (k32 (x := 0) rfl)) ?_
  refine s1 (asg rfl kB) ?_
  refine snil ?_
  refine pnm ?_
  refine sseq ?_
  refine sseq ?_
  refine sreg ?_
  refine s1 (mv rfl rfl) ?_
  refine s1 (eqU .u32 rfl rfl (k32 (x := 0) rfl)) ?_
  refine snil ?_
  refine pnm ?_
  refine scond rfl ?_ ?_
  · refine sseq ?_
    refine sreg ?_
    refine s1 (asg rfl (kLm (k := 1) u32)) ?_
    refine s1 (asg rfl (k32 (x := 0) rfl)) ?_
    refine s1 (asg rfl kB) ?_
    refine snil ?_
    refine pnm ?_
    refine sret ?_
    refine pth ?_
    exact ret [] [.tmp 4, .tmp 5, .tmp 6] [_, _, _] [_, _, _] .ret hγ (.inl rfl) rfl ⟨rfl, rfl, rfl, trivial⟩ rfl trivial trivial trivial (rns_cons (rn_id if_sli) (rns_cons (rn_id if_u32) (rns_cons (rn_id if_bl) (rns_nil)))) rfl
  · refine sskip ?_
    refine pnm ?_
    refine sseq ?_
    refine sreg ?_
    refine s1 (mv rfl rfl) ?_
    refine s1 (lenL (f := u32) Tryd.underlying23 rfl rfl) ?_
    refine bd fun y1 h2 => ?_
    refine so (mks (y := 100) (f := u32) h2 Tryd.underlying23 ti_72 zr_u32 rfl rfl rfl rfl rfl rfl) ?_
    refine s1 (asg rfl rfl) ?_
    refine snil ?_
    refine pnm ?_
    refine sseq ?_
    refine sseq ?_
    refine sreg ?_
    refine s1 (mv rfl rfl) ?_
    refine s1 (lenL (f := u32) Tryd.underlying23 rfl rfl) ?_
    refine s1 (subI rfl rfl (kI (x := 1) rfl)) ?_
    refine s1 (asg rfl rfl) ?_
    refine snil ?_
    refine pnm ?_
    refine sblk ?_
    refine sloopE 0 (fun t => t) (fun (s20 : (List Nat) × Nat × Int) => [(0, sli 1 (List.map u32 x0)), (1, u32 x1), (4, .own 100), (5, u32 s20.2.1), (6, bl false), (7, i64 s20.2.2)]) (fun (s20 : (List Nat) × Nat × Int) => [(100, .sl 72 1 (List.map u32 s20.1))]) (fun (t18 : (List Nat) × Nat) => [(4, .own 100), (5, u32 t18.2), (6, bl false)]) (fun (t18 : (List Nat) × Nat) => [(100, .sl 72 1 (List.map u32 t18.1))]) (entR [(100, 100)] rfl (keepS hγ trivial) ⟨⟨_, rfl⟩, trivial⟩ ⟨⟨_, _, rfl, rfl, rci (rc_sl (ifs_map (f := u32) (fun _ => if_u32) y1))⟩, trivial⟩ ⟨⟨_, rfl, rn_id if_sli⟩, ⟨_, rfl, rn_id if_u32⟩, ⟨_, rfl, rn_own rfl⟩, ⟨_, rfl, rn_id if_u32⟩, ⟨_, rfl, rn_id if_bl⟩, ⟨_, rfl, rn_id if_i64⟩, trivial⟩) ?_ ?_
    · intro hj19 s20
      refine sseq ?_
      refine sseq ?_
      refine sreg ?_
      refine s1 (mv rfl rfl) ?_
      refine s1 (geI rfl rfl (kI (x := 0) rfl)) ?_
      refine snil ?_
      refine pnm ?_
      refine scond rfl ?_ ?_
      · refine sskip ?_
        refine pnm ?_
        refine sseq ?_
        refine sblk ?_
        refine sreg ?_
        refine s1 (mv rfl rfl) ?_
        refine s1 (mv rfl rfl) ?_
        refine s1 (mv rfl rfl) ?_
        refine s1 (mv rfl rfl) ?_
        refine s1 (mv rfl rfl) ?_
        refine bd fun y21 h22 => ?_
        refine s1 (ixR (f := u32) Tryd.underlying23 ti_72 h22 rfl rfl rfl) ?_
        refine s1 (ldR sh_72 (by exact rfl) (by exact rfl) rfl rfl) ?_
        refine s1 (mv rfl rfl) ?_
        refine bd fun r23 h24 => ?_
        refine s1 (call0 (c_limb_Div _ h24) ⟨⟨_, rfl, rn_id if_u32⟩, ⟨_, rfl, rn_id if_u32⟩, ⟨_, rfl, rn_id if_u32⟩, trivial⟩ (if_tup (ifs_cons if_u32 (ifs_cons if_u32 (ifs_cons if_bl (ifs_nil))))) rfl) ?_
        refine s1 (mv rfl rfl) ?_
        refine s1 (ext (by exact rfl) rfl rfl) ?_
        refine s1 (ext (by exact rfl) rfl rfl) ?_
        refine s1 (ext (by exact rfl) rfl rfl) ?_
        refine bd fun y25 h26 => ?_
        refine s1 (ixO (f := u32) rfl Tryd.underlying23 ti_72 h26 rfl rfl rfl) ?_
        refine so (stO (f := u32) r23.1 [] rfl (getI_ix h26) (by exact rfl) (by exact rfl) (by exact rfl) (by exact rfl) sh_72 (by exact rfl) (by exact rfl) (by exact rfl) rfl rfl) ?_
        refine s1 (asg rfl rfl) ?_
        refine snil ?_
        refine pbn ?_
        refine pnm ?_
        refine sreg ?_
        refine s1 (mv rfl rfl) ?_
        refine s1 (subI rfl rfl (kI (x := 1) rfl)) ?_
        refine s1 (asg rfl rfl) ?_
        refine snil ?_
        exact sgo (entR [(100, 100)] rfl (keepS hγ trivial) ⟨⟨_, rfl⟩, trivial⟩ ⟨⟨_, _, rfl, rfl, rci (rc_sl (ifs_map (f := u32) (fun _ => if_u32) (List.set s20.1 (Int.toNat s20.2.2) r23.1)))⟩, trivial⟩ ⟨⟨_, rfl, rn_id if_sli⟩, ⟨_, rfl, rn_id if_u32⟩, ⟨_, rfl, rn_own rfl⟩, ⟨_, rfl, rn_id if_u32⟩, ⟨_, rfl, rn_id if_bl⟩, ⟨_, rfl, rn_id if_i64⟩, trivial⟩)
      · refine sexit ?_
        refine ptx ?_
        exact sout (fun h => by cases h) (sj (hj19 _) (entR [(100, 100)] rfl (keepS hγ trivial) ⟨⟨_, rfl⟩, trivial⟩ ⟨⟨_, _, rfl, rfl, rci (rc_sl (ifs_map (f := u32) (fun _ => if_u32) s20.1))⟩, trivial⟩ ⟨⟨_, rfl, rn_own rfl⟩, ⟨_, rfl, rn_id if_u32⟩, ⟨_, rfl, rn_id if_bl⟩, trivial⟩))
    · intro t18
      refine sx ?_
      refine pnm ?_
      refine sseq ?_
      refine sreg ?_
      refine s1 (mv rfl rfl) ?_
      refine frz (id := 100) [(4, sli 1 (List.map u32 t18.1)), (34, sli 1 (List.map u32 t18.1))] [] rfl (ifs_map (f := u32) (fun _ => if_u32) t18.1) ⟨⟨_, rfl, fz_own⟩, ⟨_, rfl, fz_own⟩, trivial⟩ trivial ?_
      refine bd fun r27 h28 => ?_
      refine s1 (call0 (c_nat_Norm _ h28) ⟨⟨_, rfl, rn_id if_sli⟩, trivial⟩ (if_sli) rfl) ?_
      refine s1 (mv rfl rfl) ?_
      refine s1 (asg rfl rfl) ?_
      refine s1 (asg rfl rfl) ?_
      refine s1 (asg rfl kB) ?_
      refine snil ?_
      refine pnm ?_
      refine sret ?_
      exact ret [] [.tmp 4, .tmp 5, .tmp 6] [_, _, _] [_, _, _] .ret hγ (.inl rfl) rfl ⟨rfl, rfl, rfl, trivial⟩ rfl trivial trivial trivial (rns_cons (rn_id if_sli) (rns_cons (rn_id if_u32) (rns_cons (rn_id if_bl) (rns_nil)))) rfl
theorem c_digits_nine {n : Nat} {x0 : Nat} : ∀ r, m_digits_nine n x0 = some r → FnOk Tryd.prog 46 [u32 x0] [] (str r) [] := by
  unfold m_digits_nine
  refine fn_of_sq (res := fun (r : (List UInt8)) => str r) (mo := fun (r : (List UInt8)) => []) Tryd.func46 rfl rfl (by kernel_rfl) rfl ?_
  intro w S0 γ hγ
  refine sseq ?_
  refine sreg ?_
  refine s1 (asg rfl (kS (s := []) rfl)) ?_
  refine snil ?_
  refine pnm ?_
  refine sseq ?_
  refine sreg ?_
  refine so (al (y := 100) (ly := L_A9_u8 (⟨0, 0, 0, 0, 0, 0, 0, 0, 0⟩ : M_A9_u8)) ti_115 zr_A9_u8 rfl rfl) ?_
  refine snil ?_
  refine pnm ?_
  refine sseq ?_
  refine sseq ?_
  refine sreg ?_
  refine s1 (asg rfl (kI (x := 8) rfl)) ?_
  refine snil ?_
  refine pnm ?_
  refine sblk ?_
  refine sloopE 0 (fun t => t) (fun (s7 : Nat × M_A9_u8 × Int) => [(0, u32 s7.1), (2, str ([] : List UInt8)), (3, .own 100), (4, i64 s7.2.2)]) (fun (s7 : Nat × M_A9_u8 × Int) => [(100, .bx 115 (L_A9_u8 s7.2.1))]) (fun (t5 : M_A9_u8) => [(2, str ([] : List UInt8)), (3, .own 100)]) (fun (t5 : M_A9_u8) => [(100, .bx 115 (L_A9_u8 t5))]) (entR [(100, 100)] rfl (keepS hγ trivial) ⟨⟨_, rfl⟩, trivial⟩ ⟨⟨_, _, rfl, rfl, rci (rc_bx (rn_id if_L_A9_u8))⟩, trivial⟩ ⟨⟨_, rfl, rn_id if_u32⟩, ⟨_, rfl, rn_id if_str⟩, ⟨_, rfl, rn_own rfl⟩, ⟨_, rfl, rn_id if_i64⟩, trivial⟩) ?_ ?_
  · intro hj6 s7
    refine sseq ?_
    refine sseq ?_
    refine sreg ?_
    refine s1 (mv rfl rfl) ?_
    refine s1 (geI rfl rfl (kI (x := 0) rfl)) ?_
    refine snil ?_
    refine pnm ?_
    refine scond rfl ?_ ?_
    · refine sskip ?_
      refine pnm ?_
      refine sseq ?_
      refine sblk ?_
      refine sseq ?_
      refine sreg ?_
      refine s1 (mv rfl rfl) ?_
      refine s1 (mv rfl rfl) ?_
      refine s1 (remU uk32 rfl rfl rfl (k32 (x := 10) rfl)) ?_
      refine s1 (addU uk32 rfl (k32 (x := 48) rfl) rfl) ?_
      refine s1 (cvU uk8 Tryd.underlying72 Tryd.underlying5 rfl rfl) ?_
      refine bd fun y8 h9 => ?_
      refine s1 (ixAO Tryd.underlying115 ti_5 (getI_dec (n := 9) rfl h9) (.inr ⟨rfl, rfl, _, _, rfl⟩) rfl rfl rfl) ?_
      refine so (stB2 (ly := .agg (List.map u8 ([s7.2.1.a0, s7.2.1.a1, s7.2.1.a2, s7.2.1.a3, s7.2.1.a4, s7.2.1.a5, s7.2.1.a6, s7.2.1.a7, s7.2.1.a8] : List Nat))) (ly2 := L_A9_u8 (ofl_A9_u8 (List.set ([s7.2.1.a0, s7.2.1.a1, s7.2.1.a2, s7.2.1.a3, s7.2.1.a4, s7.2.1.a5, s7.2.1.a6, s7.2.1.a7, s7.2.1.a8] : List Nat) (Int.toNat s7.2.2) (((48 + (s7.1 % 10)) % 4294967296) % 256)))) (ln := u8 (((48 + (s7.1 % 10)) % 4294967296) % 256)) [Int.toNat s7.2.2] (puA0 (f := u8) h9 (ofl_ok_A9_u8 _ (List.length_set.trans rfl))) rfl (goA0 (f := u8) (fun _ => rfl) h9) sh_5 (by exact rfl) (by exact rfl) (by exact rfl) rfl (.inl rfl) rfl) ?_
      refine snil ?_
      refine pnm ?_
      refine sreg ?_
      refine s1 (mv rfl rfl) ?_
      refine s1 (quoU uk32 rfl rfl rfl (k32 (x := 10) rfl)) ?_
      refine s1 (asg rfl rfl) ?_
      refine snil ?_
      refine pbn ?_
      refine pnm ?_
      refine sreg ?_
      refine s1 (mv rfl rfl) ?_
      refine s1 (subI rfl rfl (kI (x := 1) rfl)) ?_
      refine s1 (asg rfl rfl) ?_
      refine snil ?_
      exact sgo (entR [(100, 100)] rfl (keepS hγ trivial) ⟨⟨_, rfl⟩, trivial⟩ ⟨⟨_, _, rfl, rfl, rci (rc_bx (rn_id if_L_A9_u8))⟩, trivial⟩ ⟨⟨_, rfl, rn_id if_u32⟩, ⟨_, rfl, rn_id if_str⟩, ⟨_, rfl, rn_own rfl⟩, ⟨_, rfl, rn_id if_i64⟩, trivial⟩)
    · refine sexit ?_
      refine ptx ?_
      exact sout (fun h => by cases h) (sj (hj6 _) (entR [(100, 100)] rfl (keepS hγ trivial) ⟨⟨_, rfl⟩, trivial⟩ ⟨⟨_, _, rfl, rfl, rci (rc_bx (rn_id if_L_A9_u8))⟩, trivial⟩ ⟨⟨_, rfl, rn_id if_str⟩, ⟨_, rfl, rn_own rfl⟩, trivial⟩))
  · intro t5
    refine sx ?_
    refine pnm ?_
    refine sseq ?_
    refine sreg ?_
    refine so (slA (f := u8) (xs := ([t5.a0, t5.a1, t5.a2, t5.a3, t5.a4, t5.a5, t5.a6, t5.a7, t5.a8] : List Nat)) Tryd.underlying115 ti_5 rfl rfl rfl (fun _ => if_u8) (fun _ => rfl) rfl rfl) ?_
    refine sbn (F := (fun x => sli 1 (List.map u8 x))) 17 rfl fun z10 => ?_
    refine s1 (cvBS Tryd.underlying82 Tryd.underlying5 Tryd.underlying9 rfl rfl) ?_
    refine s1 (asg rfl rfl) ?_
    refine snil ?_
    refine pnm ?_
    refine sret ?_
    exact ret [] [.tmp 2] [_] [_] .ret hγ (.inl rfl) rfl ⟨rfl, trivial⟩ rfl trivial trivial trivial (rns_cons (rn_id if_str) (rns_nil)) rfl
theorem c_digits_Text {n : Nat} {x0 : (List Nat)} : ∀ r, m_digits_Text n x0 = some r → FnOk Tryd.prog 15 [sli 1 (List.map u32 x0)] [] (str r) [] := by
  unfold m_digits_Text
  refine fn_of_sq (res := fun (r : (List UInt8)) => str r) (mo := fun (r : (List UInt8)) => []) Tryd.func15 rfl rfl (by kernel_rfl) rfl ?_
  intro w S0 γ hγ
  refine sseq ?_
  refine sreg ?_
  refine s1 (asg rfl (kS (s := []) rfl)) ?_
  refine snil ?_
  refine pnm ?_
  refine sseq ?_
  refine sseq ?_
  refine sreg ?_
  refine s1 (mv rfl rfl) ?_
  refine bd fun r1 h2 => ?_
  refine s1 (call0 (c_nat_Zero _ h2) ⟨⟨_, rfl, rn_id if_sli⟩, trivial⟩ (if_bl) rfl) ?_
  refine snil ?_
  refine pnm ?_
  refine scond rfl ?_ ?_
  · refine sseq ?_
    refine sreg ?_
    refine s1 (asg rfl (kS (s := [48]) rfl)) ?_
    refine snil ?_
    refine pnm ?_
    refine sret ?_
    refine pth ?_
    exact ret [] [.tmp 2] [_] [_] .ret hγ (.inl rfl) rfl ⟨rfl, trivial⟩ rfl trivial trivial trivial (rns_cons (rn_id if_str) (rns_nil)) rfl
  · refine sskip ?_
    refine pnm ?_
    refine sseq ?_
    refine sreg ?_
    refine so (asgN (y := 100) (E := 9) (k := 1) rfl rfl) ?_
    refine snil ?_
    refine pnm ?_
    refine sseq ?_
    refine sblk ?_
    refine sloopE 0 (fun t => t) (fun (s23 : (List Nat) × (List (List UInt8))) => [(0, sli 1 (List.map u32 s23.1)), (2, str ([] : List UInt8)), (3, .own 100)]) (fun (s23 : (List Nat) × (List (List UInt8))) => [(100, .sl 9 1 (List.map str s23.2))]) (fun (t21 : (List (List UInt8))) => [(2, str ([] : List UInt8)), (3, .own 100)]) (fun (t21 : (List (List UInt8))) => [(100, .sl 9 1 (List.map str t21))]) (entR [(100, 100)] rfl (keepS hγ trivial) ⟨⟨_, rfl⟩, trivial⟩ ⟨⟨_, _, rfl, rfl, rci (rc_sl (ifs_map (f := str) (fun _ => if_str) ([] : List (List UInt8))))⟩, trivial⟩ ⟨⟨_, rfl, rn_id if_sli⟩, ⟨_, rfl, rn_id if_str⟩, ⟨_, rfl, rn_own rfl⟩, trivial⟩) ?_ ?_
    · intro hj22 s23
      refine sseq ?_
      refine sseq ?_
      refine sreg ?_
      refine s1 (mv rfl rfl) ?_
      refine bd fun r24 h25 => ?_
      refine s1 (call0 (c_nat_Zero _ h25) ⟨⟨_, rfl, rn_id if_sli⟩, trivial⟩ (if_bl) rfl) ?_
      refine s1 (notB rfl rfl) ?_
      refine snil ?_
      refine pnm ?_
      refine scond rfl ?_ ?_
      · refine sskip ?_
        refine pnm ?_
        refine sblk ?_
        refine sseq ?_
        refine sreg ?_
        refine s1 (mv rfl rfl) ?_
        refine bd fun r26 h27 => ?_
        refine s1 (call0 (c_quot_Word _ h27) ⟨⟨_, rfl, rn_id if_sli⟩, ⟨_, (k32 (x := 1000000000) rfl), rn_id if_u32⟩, trivial⟩ (if_tup (ifs_cons if_sli (ifs_cons if_u32 (ifs_cons if_bl (ifs_nil))))) rfl) ?_
        refine s1 (mv rfl rfl) ?_
        refine s1 (ext (by exact rfl) rfl rfl) ?_
        refine s1 (ext (by exact rfl) rfl rfl) ?_
        refine s1 (ext (by exact rfl) rfl rfl) ?_
        refine s1 (asg rfl rfl) ?_
        refine s1 (asg rfl rfl) ?_
        refine s1 (asg rfl rfl) ?_
        refine snil ?_
        refine pnm ?_
        refine sseq ?_
        refine sreg ?_
        refine s1 (mv rfl rfl) ?_
        refine s1 (mv rfl rfl) ?_
        refine bd fun r28 h29 => ?_
        refine s1 (call0 (c_digits_nine _ h29) ⟨⟨_, rfl, rn_id if_u32⟩, trivial⟩ (if_str) rfl) ?_
        refine so (bsl (y := 101) (ls := List.map str ([r28] : List (List UInt8))) Tryd.underlying77 ti_9 rfl rfl rfl rfl rfl ⟨rfl, rfl, (by exact rfl), (by exact rfl), trivial⟩ rfl rfl) ?_
        refine bd fun y30 h31 => ?_
        refine so (app (y := 102) (f := str) h31 rfl Tryd.underlying77 ti_9 rfl rfl rfl rfl (.inr ⟨_, _, rfl, rfl⟩) rfl rfl) ?_
        refine s1 (asg rfl rfl) ?_
        refine snil ?_
        refine pnm ?_
        refine sreg ?_
        refine s1 (mv rfl rfl) ?_
        refine s1 (asg rfl rfl) ?_
        refine snil ?_
        refine pbn ?_
        exact sgo (entR [(100, 102)] rfl (keepS hγ trivial) ⟨⟨_, rfl⟩, trivial⟩ ⟨⟨_, _, rfl, rfl, rci (rc_sl (ifs_map (f := str) (fun _ => if_str) y30))⟩, trivial⟩ ⟨⟨_, rfl, rn_id if_sli⟩, ⟨_, rfl, rn_id if_str⟩, ⟨_, rfl, rn_own rfl⟩, trivial⟩)
      · refine sexit ?_
        refine ptx ?_
        exact sout (fun h => by cases h) (sj (hj22 _) (entR [(100, 100)] rfl (keepS hγ trivial) ⟨⟨_, rfl⟩, trivial⟩ ⟨⟨_, _, rfl, rfl, rci (rc_sl (ifs_map (f := str) (fun _ => if_str) s23.2))⟩, trivial⟩ ⟨⟨_, rfl, rn_id if_str⟩, ⟨_, rfl, rn_own rfl⟩, trivial⟩))
    · intro t21
      refine sx ?_
      refine pnm ?_
      refine sseq ?_
      refine sreg ?_
      refine so (alOw (y := 101) (ly := .agg [.por 101, .own 102]) [(102, 5, 1)] ti_84 (zo_agg (zos_cons (c1 := [.pointer none]) zo_por (zos_cons (c1 := [.slice none 0 0]) (zo_own rfl) zos_nil))) ⟨rfl, trivial⟩ rfl rfl rfl) ?_
      refine snil ?_
      refine pnm ?_
      refine sseq ?_
      refine sseq ?_
      refine sreg ?_
      refine s1 (mv rfl rfl) ?_
      refine s1 (lenO (f := str) Tryd.underlying77 rfl rfl rfl) ?_
      refine s1 (subI rfl rfl (kI (x := 1) rfl)) ?_
      refine s1 (asg rfl rfl) ?_
      refine snil ?_
      refine pnm ?_
      refine sblk ?_
      refine sloopE 2 (fun t => t) (fun (s44 : (List UInt8) × Int) => [(2, str ([] : List UInt8)), (3, .own 100), (7, .own 101), (8, i64 s44.2)]) (fun (s44 : (List UInt8) × Int) => [(100, .sl 9 1 (List.map str t21)), (101, .bx 84 (.agg [.por 101, .own 102])), (102, .sl 5 1 (List.map ub s44.1))]) (fun (t42 : (List UInt8)) => [(2, str ([] : List UInt8)), (7, .own 101)]) (fun (t42 : (List UInt8)) => [(101, .bx 84 (.agg [.por 101, .own 102])), (102, .sl 5 1 (List.map ub t42))]) (entR [(100, 100), (101, 101), (102, 102)] rfl (keepS hγ trivial) ⟨⟨_, rfl⟩, ⟨_, rfl⟩, ⟨_, rfl⟩, trivial⟩ ⟨⟨_, _, rfl, rfl, rci (rc_sl (ifs_map (f := str) (fun _ => if_str) t21))⟩, ⟨_, _, rfl, rfl, rci (rc_bx (rn_agg (rns_cons (rn_por rfl) (rns_cons (rn_own rfl) (rns_nil)))))⟩, ⟨_, _, rfl, rfl, rci (rc_sl (ifs_map (f := ub) (fun _ => if_ub) ([] : List UInt8)))⟩, trivial⟩ ⟨⟨_, rfl, rn_id if_str⟩, ⟨_, rfl, rn_own rfl⟩, ⟨_, rfl, rn_own rfl⟩, ⟨_, rfl, rn_id if_i64⟩, trivial⟩) ?_ ?_
      · intro hj43 s44
        refine sseq ?_
        refine sseq ?_
        refine sreg ?_
        refine s1 (mv rfl rfl) ?_
        refine s1 (geI rfl rfl (kI (x := 0) rfl)) ?_
        refine snil ?_
        refine pnm ?_
        refine scond rfl ?_ ?_
        · refine sskip ?_
          refine pnm ?_
          refine sseq ?_
          refine sblk ?_
          refine sreg ?_
          refine s1 (mv rfl rfl) ?_
          refine s1 (mv rfl rfl) ?_
          refine bd fun y45 h46 => ?_
          refine s1 (ixO (f := str) rfl Tryd.underlying77 ti_9 h46 rfl rfl rfl) ?_
          refine s1 (ldO (f := str) [] rfl (getI_ix h46) (by exact rfl) (by exact rfl) sh_9 (by exact rfl) (by exact rfl) rfl rfl) ?_
          refine bd fun y47 h48 => ?_
          refine so (callG (em := [(103, .sl 5 1 (List.map ub y47)), (101, .bx 84 (.agg [.por 101, .own 103])), (102, .gone)]) (res' := .tup [i64 (y45.length : Int), nilI]) [(0, 101), (1, 102)] [(103, 52)] [(103, 52), (101, 0)] (ws_ok' h48) ⟨⟨_, rfl, rn_own rfl⟩, ⟨_, rfl, rn_id if_str⟩, trivial⟩ (MiF.get (mi := [(0, _), (1, _)]) ⟨⟨_, _, rfl, rfl, rc_bx (rn_agg (rns_cons (rn_por rfl) (rns_cons (rn_own rfl) rns_nil)))⟩, ⟨_, _, rfl, rfl, rc_sl (ifs_map (f := ub) (fun _ => if_ub) s44.1)⟩, trivial⟩) ⟨⟨_, rfl⟩, ⟨_, rfl⟩, trivial⟩ rfl ⟨rfl, trivial⟩ ⟨.inl rfl, .inr rfl, trivial⟩ rfl ⟨.inl ⟨_, _, rfl, rfl, rc_sl (ifs_map (f := ub) (fun _ => if_ub) y47)⟩, .inl ⟨_, _, rfl, rfl, rc_bx (rn_agg (rns_cons (rn_por rfl) (rns_cons (rn_own rfl) rns_nil)))⟩, .inr ⟨rfl, 1, .tail _ (.head _)⟩, trivial⟩ ⟨⟨_, rfl⟩, ⟨_, rfl⟩, trivial⟩ ⟨⟨_, rfl⟩, trivial⟩ (rn_tup (rns_cons (rn_id if_i64) (rns_cons (rn_id if_nilI) rns_nil))) rfl) ?_
          refine snil ?_
          refine pbn ?_
          refine pnm ?_
          refine sreg ?_
          refine s1 (mv rfl rfl) ?_
          refine s1 (subI rfl rfl (kI (x := 1) rfl)) ?_
          refine s1 (asg rfl rfl) ?_
          refine snil ?_
          exact sgo (entR [(100, 100), (101, 101), (102, 103)] rfl (keepS hγ trivial) ⟨⟨_, rfl⟩, ⟨_, rfl⟩, ⟨_, rfl⟩, trivial⟩ ⟨⟨_, _, rfl, rfl, rci (rc_sl (ifs_map (f := str) (fun _ => if_str) t21))⟩, ⟨_, _, rfl, rfl, rci (rc_bx (rn_agg (rns_cons (rn_por rfl) (rns_cons (rn_own rfl) (rns_nil)))))⟩, ⟨_, _, rfl, rfl, rci (rc_sl (ifs_map (f := ub) (fun _ => if_ub) y47))⟩, trivial⟩ ⟨⟨_, rfl, rn_id if_str⟩, ⟨_, rfl, rn_own rfl⟩, ⟨_, rfl, rn_own rfl⟩, ⟨_, rfl, rn_id if_i64⟩, trivial⟩)
        · refine sexit ?_
          refine ptx ?_
          exact sout (fun h => by cases h) (sj (hj43 _) (entR [(101, 101), (102, 102)] rfl (keepS hγ trivial) ⟨⟨_, rfl⟩, ⟨_, rfl⟩, trivial⟩ ⟨⟨_, _, rfl, rfl, rci (rc_bx (rn_agg (rns_cons (rn_por rfl) (rns_cons (rn_own rfl) (rns_nil)))))⟩, ⟨_, _, rfl, rfl, rci (rc_sl (ifs_map (f := ub) (fun _ => if_ub) s44.1))⟩, trivial⟩ ⟨⟨_, rfl, rn_id if_str⟩, ⟨_, rfl, rn_own rfl⟩, trivial⟩))
      · intro t42
        refine sx ?_
        refine pnm ?_
        refine sseq ?_
        refine sreg ?_
        refine so (strOp (id := 101) (id2 := 102) rfl rfl rfl rfl rfl) ?_
        refine bd fun r49 h50 => ?_
        refine s1 (call0 (c_strings_TrimLeft _ h50) ⟨⟨_, rfl, rn_id if_str⟩, ⟨_, (kS (s := [48]) rfl), rn_id if_str⟩, trivial⟩ (if_str) rfl) ?_
        refine s1 (asg rfl rfl) ?_
        refine snil ?_
        refine pnm ?_
        refine sret ?_
        exact ret [] [.tmp 2] [_] [_] .ret hγ (.inl rfl) rfl ⟨rfl, trivial⟩ rfl trivial trivial trivial (rns_cons (rn_id if_str) (rns_nil)) rfl
theorem c_retrospectref02_Same {n : Nat} {x0 : (List Nat)} {x1 : (List Nat)} : ∀ r, m_retrospectref02_Same n x0 x1 = some r → FnOk Tryd.prog 12 [sli 1 (List.map u32 x0), sli 1 (List.map u32 x1)] [] (bl r) [] := by
  unfold m_retrospectref02_Same
  refine fn_of_sq (res := fun (r : Bool) => bl r) (mo := fun (r : Bool) => []) Tryd.func12 rfl rfl (by kernel_rfl) rfl ?_
  intro w S0 γ hγ
  refine sseq ?_
  refine sreg ?_
  refine s1 (asg rfl kB) ?_
  refine snil ?_
  refine pnm ?_
  refine sseq ?_
  refine sseq ?_
  refine sreg ?_
  refine s1 (mv rfl rfl) ?_
  refine s1 (lenL (f := u32) Tryd.underlying23 rfl rfl) ?_
  refine s1 (mv rfl rfl) ?_
  refine s1 (lenL (f := u32) Tryd.underlying23 rfl rfl) ?_
  refine s1 (neI rfl rfl rfl) ?_
  refine snil ?_
  refine pnm ?_
  refine scond rfl ?_ ?_
  · refine sseq ?_
    refine sreg ?_
    refine s1 (asg rfl kB) ?_
    refine snil ?_
    refine pnm ?_
    refine sret ?_
    refine pth ?_
    exact ret [] [.tmp 4] [_] [_] .ret hγ (.inl rfl) rfl ⟨rfl, trivial⟩ rfl trivial trivial trivial (rns_cons (rn_id if_bl) (rns_nil)) rfl
  · refine sskip ?_
    refine pnm ?_
    refine sseq ?_
    refine sseq ?_
    refine sreg ?_
    refine s1 (asg rfl (kI (x := 0) rfl)) ?_
    refine snil ?_
    refine pnm ?_
    refine sblk ?_
    refine sloopE 0 Lp.go (fun (s13 : Int) => [(0, sli 1 (List.map u32 x0)), (1, sli 1 (List.map u32 x1)), (4, bl false), (5, i64 s13)]) (fun (s13 : Int) => []) (fun (t11 : Unit) => [(4, bl false)]) (fun (t11 : Unit) => []) (entI ⟨rfl, rfl, rfl, rfl, trivial⟩ eqm0) ?_ ?_
    · intro hj12 s13
      refine sseq ?_
      refine sseq ?_
      refine sreg ?_
      refine s1 (mv rfl rfl) ?_
      refine s1 (mv rfl rfl) ?_
      refine s1 (lenL (f := u32) Tryd.underlying23 rfl rfl) ?_
      refine s1 (ltI rfl rfl rfl) ?_
      refine snil ?_
      refine pnm ?_
      refine scond rfl ?_ ?_
      · refine sskip ?_
        refine pnm ?_
        refine sseq ?_
        refine sblk ?_
        refine sseq ?_
        refine bd fun y14 h15 => ?_
        refine bd fun y16 h17 => ?_
        refine sdraw [⟨[0], [], [(17, sli 1 (List.map u32 x0))], []⟩, ⟨[5], [], [(18, i64 s13)], []⟩, ⟨[17, 18], [], [(19, .ref (u32 y14))], []⟩, ⟨[19], [], [(20, u32 y14)], []⟩, ⟨[1], [], [(21, sli 1 (List.map u32 x1))], []⟩, ⟨[5], [], [(22, i64 s13)], []⟩, ⟨[21, 22], [], [(23, .ref (u32 y16))], []⟩, ⟨[23], [], [(24, u32 y16)], []⟩, ⟨[20, 24], [], [(25, bl (!decide (y14 = y16)))], []⟩] fol (by kernel_rfl) ⟨fun st mm ⟨a0, _⟩ _ => og (mv rfl (a0.trans rfl)), fun st mm ⟨a5, _⟩ _ => og (mv rfl (a5.trans rfl)), fun st mm ⟨a17, a18, _⟩ _ => og (ixR (f := u32) Tryd.underlying23 ti_72 h15 rfl (a17.trans rfl) (a18.trans rfl)), fun st mm ⟨a19, _⟩ _ => og (ldR sh_72 (by exact rfl) (by exact rfl) rfl (a19.trans rfl)), fun st mm ⟨a1, _⟩ _ => og (mv rfl (a1.trans rfl)), fun st mm ⟨a5, _⟩ _ => og (mv rfl (a5.trans rfl)), fun st mm ⟨a21, a22, _⟩ _ => og (ixR (f := u32) Tryd.underlying23 ti_72 h17 rfl (a21.trans rfl) (a22.trans rfl)), fun st mm ⟨a23, _⟩ _ => og (ldR sh_72 (by exact rfl) (by exact rfl) rfl (a23.trans rfl)), fun st mm ⟨a20, a24, _⟩ _ => og (neU .u32 rfl (a20.trans rfl) (a24.trans rfl)), trivial⟩ ?_
        refine pnm ?_
        refine scond rfl ?_ ?_
        · refine sseq ?_
          refine sreg ?_
          refine s1 (asg rfl kB) ?_
          refine snil ?_
          refine pnm ?_
          refine sret ?_
          refine pbl ?_
          refine pth ?_
          refine sout (fun h => by cases h) ?_
          refine pbl ?_
          refine pth ?_
          exact ret [] [.tmp 4] [_] [_] .ret hγ (.inl rfl) rfl ⟨rfl, trivial⟩ rfl trivial trivial trivial (rns_cons (rn_id if_bl) (rns_nil)) rfl
        · refine sskip ?_
          refine pbn ?_
          refine pnm ?_
          refine sreg ?_
          refine s1 (mv rfl rfl) ?_
          refine s1 (addI rfl rfl (kI (x := 1) rfl)) ?_
          refine s1 (asg rfl rfl) ?_
          refine snil ?_
          exact sgo (entI ⟨rfl, rfl, rfl, rfl, trivial⟩ eqm0)
      · refine sexit ?_
        refine ptx ?_
        exact sout (fun h => by cases h) (sj (hj12 _) (entI ⟨rfl, trivial⟩ eqm0))
    · intro t11
      refine slpk ?_
      refine sx ?_
      refine pnm ?_
      refine sseq ?_
      refine sreg ?_
      refine s1 (asg rfl kB) ?_
      refine snil ?_
      refine pnm ?_
      refine sret ?_
      exact ret [] [.tmp 4] [_] [_] .ret hγ (.inl rfl) rfl ⟨rfl, trivial⟩ rfl trivial trivial trivial (rns_cons (rn_id if_bl) (rns_nil)) rfl
theorem c_retrospectlaw07_works {n : Nat}  : ∀ r, m_retrospectlaw07_works n  = some r → FnOk Tryd.prog 9 [] [] (bl r) [] := by
  unfold m_retrospectlaw07_works
  refine fn_of_sq (res := fun (r : Bool) => bl r) (mo := fun (r : Bool) => []) Tryd.func9 rfl rfl (by kernel_rfl) rfl ?_
  intro w S0 γ hγ
  refine sseq ?_
  refine sreg ?_
  refine s1 (asg rfl kB) ?_
  refine snil ?_
  refine pnm ?_
  refine sseq ?_
  refine sreg ?_
  refine bd fun r1 h2 => ?_
  refine s1 (call0 (c_digits_Read _ h2) ⟨⟨_, (kS (s := [48, 48, 55]) rfl), rn_id if_str⟩, trivial⟩ (if_tup (ifs_cons if_sli (ifs_cons if_L_api_Fault (ifs_nil)))) rfl) ?_
  refine s1 (mv rfl rfl) ?_
  refine s1 (ext (by exact rfl) rfl rfl) ?_
  refine s1 (ext (by exact rfl) rfl rfl) ?_
  refine so (al (y := 100) (ly := L_api_Fault (⟨0, 0, 0, 0⟩ : M_api_Fault)) ti_25 zr_api_Fault rfl rfl) ?_
  refine s1 (asg rfl rfl) ?_
  refine so (stB2 (ly2 := L_api_Fault r1.2) [] (by exact rfl) rfl (by exact rfl) sh_25 (by exact rfl) (by exact rfl) (by exact rfl) rfl (.inr ⟨rfl, rfl, _, _, rfl⟩) rfl) ?_
  refine snil ?_
  refine pnm ?_
  refine sseq ?_
  refine sreg ?_
  refine bd fun r3 h4 => ?_
  refine s1 (call0 (c_digits_Read _ h4) ⟨⟨_, (kS (s := [49, 50, 120]) rfl), rn_id if_str⟩, trivial⟩ (if_tup (ifs_cons if_sli (ifs_cons if_L_api_Fault (ifs_nil)))) rfl) ?_
  refine s1 (mv rfl rfl) ?_
  refine s1 (ext (by exact rfl) rfl rfl) ?_
  refine s1 (ext (by exact rfl) rfl rfl) ?_
  refine so (al (y := 101) (ly := L_api_Fault (⟨0, 0, 0, 0⟩ : M_api_Fault)) ti_25 zr_api_Fault rfl rfl) ?_
  refine s1 (asg rfl rfl) ?_
  refine so (stB2 (ly2 := L_api_Fault r3.2) [] (by exact rfl) rfl (by exact rfl) sh_25 (by exact rfl) (by exact rfl) (by exact rfl) rfl (.inr ⟨rfl, rfl, _, _, rfl⟩) rfl) ?_
  refine snil ?_
  refine pnm ?_
  refine sjq (fun (s13 : Bool) => [(0, bl s13)]) (fun (s13 : Bool) => []) ?_ ?_
  · intro j11 hj12
    refine sreg ?_
    refine bd fun r14 h15 => ?_
    refine s1 (call0 (c_nat_Of _ h15) ⟨⟨_, (k64 (x := 4294967296) rfl), rn_id if_u64⟩, trivial⟩ (if_sli) rfl) ?_
    refine bd fun r16 h17 => ?_
    refine s1 (call0 (c_digits_Text _ h17) ⟨⟨_, rfl, rn_id if_sli⟩, trivial⟩ (if_str) rfl) ?_
    refine s1 (eqS rfl rfl (kS (s := [52, 50, 57, 52, 57, 54, 55, 50, 57, 54]) rfl)) ?_
    refine s1 (mv rfl rfl) ?_
    refine sifd 16 rfl ?_ ?_
    · refine sg 16 rfl rfl (mv rfl rfl) ?_
      refine sg 16 rfl rfl (bsl (y := 102) (ls := List.map u32 ([7] : List Nat)) Tryd.underlying23 ti_72 rfl rfl rfl rfl rfl ⟨rfl, (k32 (x := 7) rfl), (by exact rfl), (by exact rfl), trivial⟩ rfl rfl) ?_
      refine bd fun r18 h19 => ?_
      refine sg 16 rfl rfl (callL (em := []) [102] [] [] [] rfl (c_retrospectref02_Same _ h19) trivial (pl_bl) ⟨.inl ⟨_, rfl, rn_id if_sli⟩, .inr ⟨102, rfl, rfl, .inl ⟨_, _, _, rfl, ifs_map (f := u32) (fun _ => if_u32) ([7] : List Nat), rfl⟩⟩, trivial⟩ (fun _ _ h => by cases h) trivial rfl trivial trivial rfl trivial trivial trivial (rn_id (if_bl)) rfl) ?_
      refine s1 (pickT rfl rfl rfl) ?_
      refine s1 (mv rfl rfl) ?_
      refine sifd 21 rfl ?_ ?_
      · refine sg 21 rfl rfl (ldB [] rfl rfl sh_25 (by exact rfl) (by exact rfl) rfl rfl (.inr ⟨rfl, rfl, _, _, rfl⟩)) ?_
        refine sg 21 rfl rfl (bld (l := [i64 0, i64 0, i64 0, i64 0]) pl_25 ti_25 zr_api_Fault rfl rfl) ?_
        refine sg 21 rfl rfl (eqA (p := (r1.2 : M_api_Fault)) (q := ((⟨0, 0, 0, 0⟩ : M_api_Fault) : M_api_Fault)) eq_25_2 rfl eg_25 rfl rfl rfl) ?_
        refine s1 (pickT rfl rfl rfl) ?_
        refine s1 (mv rfl rfl) ?_
        refine sifd 26 rfl ?_ ?_
        · refine sg 26 rfl rfl (ldB [] rfl rfl sh_25 (by exact rfl) (by exact rfl) rfl rfl (.inr ⟨rfl, rfl, _, _, rfl⟩)) ?_
          refine sg 26 rfl rfl (bld (l := [i64 (1 : Int), i64 0, i64 0, i64 (2 : Int)]) pl_25 ti_25 zr_api_Fault ⟨_, _, _, (kI (x := 1) rfl), rfl, rfl, rfl, (szk (k := 1) rfl rfl), ⟨_, _, _, (kI (x := 2) rfl), rfl, rfl, rfl, (szk (k := 1) rfl rfl), rfl⟩⟩ rfl) ?_
          refine sg 26 rfl rfl (eqA (p := (r3.2 : M_api_Fault)) (q := ((⟨(1 : Int), 0, 0, (2 : Int)⟩ : M_api_Fault) : M_api_Fault)) eq_25_2 rfl eg_25 rfl rfl rfl) ?_
          refine s1 (pickT rfl rfl rfl) ?_
          refine s1 (asg rfl rfl) ?_
          refine snil ?_
          refine pnm ?_
          exact sj (hj12 _) (entR [] rfl (keepS hγ trivial) (by exact trivial) (by exact trivial) ⟨⟨_, rfl, rn_id if_bl⟩, trivial⟩)
        · refine spB 26 rfl rfl rfl ?_
          refine spB 26 rfl rfl rfl ?_
          refine spB 26 rfl rfl rfl ?_
          refine s1 (pickF rfl rfl kB) ?_
          refine s1 (asg rfl rfl) ?_
          refine snil ?_
          refine pnm ?_
          exact sj (hj12 _) (entR [] rfl (keepS hγ trivial) (by exact trivial) (by exact trivial) ⟨⟨_, rfl, rn_id if_bl⟩, trivial⟩)
      · refine spB 21 rfl rfl rfl ?_
        refine spB 21 rfl rfl rfl ?_
        refine spB 21 rfl rfl rfl ?_
        refine s1 (pickF rfl rfl kB) ?_
        refine s1 (mv rfl rfl) ?_
        refine spB 26 rfl rfl rfl ?_
        refine spB 26 rfl rfl rfl ?_
        refine spB 26 rfl rfl rfl ?_
        refine s1 (pickF rfl rfl kB) ?_
        refine s1 (asg rfl rfl) ?_
        refine snil ?_
        refine pnm ?_
        exact sj (hj12 _) (entR [] rfl (keepS hγ trivial) (by exact trivial) (by exact trivial) ⟨⟨_, rfl, rn_id if_bl⟩, trivial⟩)
    · refine spB 16 rfl rfl rfl ?_
      refine spB 16 rfl rfl rfl ?_
      refine spB 16 rfl rfl rfl ?_
      refine s1 (pickF rfl rfl kB) ?_
      refine s1 (mv rfl rfl) ?_
      refine spB 21 rfl rfl rfl ?_
      refine spB 21 rfl rfl rfl ?_
      refine spB 21 rfl rfl rfl ?_
      refine s1 (pickF rfl rfl kB) ?_
      refine s1 (mv rfl rfl) ?_
      refine spB 26 rfl rfl rfl ?_
      refine spB 26 rfl rfl rfl ?_
      refine spB 26 rfl rfl rfl ?_
      refine s1 (pickF rfl rfl kB) ?_
      refine s1 (asg rfl rfl) ?_
      refine snil ?_
      refine pnm ?_
      exact sj (hj12 _) (entR [] rfl (keepS hγ trivial) (by exact trivial) (by exact trivial) ⟨⟨_, rfl, rn_id if_bl⟩, trivial⟩)
  · intro s13
    refine sret ?_
    exact ret [] [.tmp 0] [_] [_] .ret hγ (.inl rfl) rfl ⟨rfl, trivial⟩ rfl trivial trivial trivial (rns_cons (rn_id if_bl) (rns_nil)) rfl
theorem c_retrospectref07_Wrong {n : Nat} {x0 : (List UInt8)} : ∀ r, m_retrospectref07_Wrong n x0 = some r → FnOk Tryd.prog 11 [str x0] [] (i64 r) [] := by
  unfold m_retrospectref07_Wrong
  refine fn_of_sq (res := fun (r : Int) => i64 r) (mo := fun (r : Int) => []) Tryd.func11 rfl rfl (by kernel_rfl) rfl ?_
  intro w S0 γ hγ
  refine sseq ?_
  refine sreg ?_
  refine s1 (asg rfl (kI (x := 0) rfl)) ?_
  refine snil ?_
  refine pnm ?_
  refine sseq ?_
  refine sseq ?_
  refine sreg ?_
  refine s1 (mv rfl rfl) ?_
  refine s1 (eqS rfl rfl (kS (s := []) rfl)) ?_
  refine snil ?_
  refine pnm ?_
  refine scond rfl ?_ ?_
  · refine sseq ?_
    refine sreg ?_
    refine s1 (asg rfl (kI (x := 0) rfl)) ?_
    refine snil ?_
    refine pnm ?_
    refine sret ?_
    refine pth ?_
    exact ret [] [.tmp 2] [_] [_] .ret hγ (.inl rfl) rfl ⟨rfl, trivial⟩ rfl trivial trivial trivial (rns_cons (rn_id if_i64) (rns_nil)) rfl
  · refine sskip ?_
    refine pnm ?_
    refine sseq ?_
    refine sseq ?_
    refine sreg ?_
    refine s1 (asg rfl (kI (x := 0) rfl)) ?_
    refine snil ?_
    refine pnm ?_
    refine sblk ?_
    refine sloopE 0 Lp.go (fun (s27 : Int) => [(0, str x0), (2, i64 (0 : Int)), (3, i64 s27)]) (fun (s27 : Int) => []) (fun (t25 : Unit) => [(2, i64 (0 : Int))]) (fun (t25 : Unit) => []) (entI ⟨rfl, rfl, rfl, trivial⟩ eqm0) ?_ ?_
    · intro hj26 s27
      refine sseq ?_
      refine sseq ?_
      refine sreg ?_
      refine s1 (mv rfl rfl) ?_
      refine s1 (mv rfl rfl) ?_
      refine s1 (lenS Tryd.underlying9 rfl rfl) ?_
      refine s1 (ltI rfl rfl rfl) ?_
      refine snil ?_
      refine pnm ?_
      refine scond rfl ?_ ?_
      · refine sskip ?_
        refine pnm ?_
        refine sseq ?_
        refine sblk ?_
        refine sjq (fun (s34 : Bool) => [(0, str x0), (2, i64 (0 : Int)), (3, i64 s27), (25, bl s34)]) (fun (s34 : Bool) => []) ?_ ?_
        · intro j32 hj33
          refine sreg ?_
          refine s1 (mv rfl rfl) ?_
          refine s1 (mv rfl rfl) ?_
          refine bd fun y35 h36 => ?_
          refine s1 (ixS Tryd.underlying9 h36 rfl rfl rfl) ?_
          refine s1 (ltU .u8 rfl rfl (k8 (x := 48) rfl)) ?_
          refine s1 (mv rfl rfl) ?_
          refine sifd 16 rfl ?_ ?_
          · refine spB 16 rfl rfl rfl ?_
            refine spB 16 rfl rfl rfl ?_
            refine spB 16 rfl rfl rfl ?_
            refine spB 16 rfl rfl rfl ?_
            refine s1 (pickT rfl rfl kB) ?_
            refine s1 (mv rfl rfl) ?_
            refine spB 22 rfl rfl rfl ?_
            refine spB 22 rfl rfl rfl ?_
            refine s1 (pickT rfl rfl kB) ?_
            refine snil ?_
            refine pnm ?_
            exact sj (hj33 _) (entI ⟨rfl, rfl, rfl, rfl, trivial⟩ eqm0)
          · refine sg 16 rfl rfl (mv rfl rfl) ?_
            refine sg 16 rfl rfl (mv rfl rfl) ?_
            refine bd fun y37 h38 => ?_
            refine sg 16 rfl rfl (ixS Tryd.underlying9 h38 rfl rfl rfl) ?_
            refine sg 16 rfl rfl (gtU .u8 rfl rfl (k8 (x := 57) rfl)) ?_
            refine s1 (pickF rfl rfl rfl) ?_
            refine s1 (mv rfl rfl) ?_
            refine sifd 22 rfl ?_ ?_
            · refine spB 22 rfl rfl rfl ?_
              refine spB 22 rfl rfl rfl ?_
              refine s1 (pickT rfl rfl kB) ?_
              refine snil ?_
              refine pnm ?_
              exact sj (hj33 _) (entI ⟨rfl, rfl, rfl, rfl, trivial⟩ eqm0)
            · refine sg 22 rfl rfl (mv rfl rfl) ?_
              refine sg 22 rfl rfl (geI rfl rfl (kI (x := 60) rfl)) ?_
              refine s1 (pickF rfl rfl rfl) ?_
              refine snil ?_
              refine pnm ?_
              exact sj (hj33 _) (entI ⟨rfl, rfl, rfl, rfl, trivial⟩ eqm0)
        · intro s34
          refine scond rfl ?_ ?_
          · refine sseq ?_
            refine sreg ?_
            refine s1 (mv rfl rfl) ?_
            refine s1 (asg rfl rfl) ?_
            refine snil ?_
            refine pnm ?_
            refine sret ?_
            refine pbl ?_
            refine pth ?_
            refine sout (fun h => by cases h) ?_
            refine pbl ?_
            refine pth ?_
            exact ret [] [.tmp 2] [_] [_] .ret hγ (.inl rfl) rfl ⟨rfl, trivial⟩ rfl trivial trivial trivial (rns_cons (rn_id if_i64) (rns_nil)) rfl
          · refine sskip ?_
            refine pbn ?_
            refine pnm ?_
            refine sreg ?_
            refine s1 (mv rfl rfl) ?_
            refine s1 (addI rfl rfl (kI (x := 1) rfl)) ?_
            refine s1 (asg rfl rfl) ?_
            refine snil ?_
            exact sgo (entI ⟨rfl, rfl, rfl, trivial⟩ eqm0)
      · refine sexit ?_
        refine ptx ?_
        exact sout (fun h => by cases h) (sj (hj26 _) (entI ⟨rfl, trivial⟩ eqm0))
    · intro t25
      refine slpk ?_
      refine sx ?_
      refine pnm ?_
      refine sseq ?_
      refine sreg ?_
      refine s1 (asg rfl (kI (x := (-1)) rfl)) ?_
      refine snil ?_
      refine pnm ?_
      refine sret ?_
      exact ret [] [.tmp 2] [_] [_] .ret hγ (.inl rfl) rfl ⟨rfl, trivial⟩ rfl trivial trivial trivial (rns_cons (rn_id if_i64) (rns_nil)) rfl
theorem c_retrospectref02_Norm {n : Nat} {x0 : (List Nat)} : ∀ r, m_retrospectref02_Norm n x0 = some r → FnOk Tryd.prog 42 [sli 1 (List.map u32 x0)] [] (.own 50) [(50, .sl 72 1 (List.map u32 r))] := by
  unfold m_retrospectref02_Norm
  refine fn_of_sq (res := fun (r : (List Nat)) => .own 50) (mo := fun (r : (List Nat)) => [(50, .sl 72 1 (List.map u32 r))]) Tryd.func42 rfl rfl (by kernel_rfl) rfl ?_
  intro w S0 γ hγ
  refine sseq ?_
  refine sreg ?_
  refine s1 (asg rfl (kLm (k := 1) u32)) ?_
  refine snil ?_
  refine pnm ?_
  refine sseq ?_
  refine sreg ?_
  refine s1 (mv rfl rfl) ?_
  refine s1 (lenL (f := u32) Tryd.underlying23 rfl rfl) ?_
  refine s1 (asg rfl rfl) ?_
  refine snil ?_
  refine pnm ?_
  refine sseq ?_
  refine sblk ?_
  refine sloopE 0 (fun t => t) (fun (s19 : Int) => [(0, sli 1 (List.map u32 x0)), (2, sli 1 (List.map u32 ([] : List Nat))), (3, i64 s19)]) (fun (s19 : Int) => []) (fun (t17 : Int) => [(0, sli 1 (List.map u32 x0)), (2, sli 1 (List.map u32 ([] : List Nat))), (3, i64 t17)]) (fun (t17 : Int) => []) (entI ⟨rfl, rfl, rfl, trivial⟩ eqm0) ?_ ?_
  · intro hj18 s19
    refine sseq ?_
    refine sjq (fun (s24 : Bool) => [(0, sli 1 (List.map u32 x0)), (2, sli 1 (List.map u32 ([] : List Nat))), (3, i64 s19), (15, bl s24)]) (fun (s24 : Bool) => []) ?_ ?_
    · intro j22 hj23
      refine sreg ?_
      refine s1 (mv rfl rfl) ?_
      refine s1 (gtI rfl rfl (kI (x := 0) rfl)) ?_
      refine s1 (mv rfl rfl) ?_
      refine sifd 8 rfl ?_ ?_
      · refine sg 8 rfl rfl (mv rfl rfl) ?_
        refine sg 8 rfl rfl (mv rfl rfl) ?_
        refine sg 8 rfl rfl (subI rfl rfl (kI (x := 1) rfl)) ?_
        refine bd fun y25 h26 => ?_
        refine sg 8 rfl rfl (ixR (f := u32) Tryd.underlying23 ti_72 h26 rfl rfl rfl) ?_
        refine sg 8 rfl rfl (ldR sh_72 (by exact rfl) (by exact rfl) rfl rfl) ?_
        refine sg 8 rfl rfl (eqU .u32 rfl rfl (k32 (x := 0) rfl)) ?_
        refine s1 (pickT rfl rfl rfl) ?_
        refine snil ?_
        refine pnm ?_
        exact sj (hj23 _) (entI ⟨rfl, rfl, rfl, rfl, trivial⟩ eqm0)
      · refine spB 8 rfl rfl rfl ?_
        refine spB 8 rfl rfl rfl ?_
        refine spB 8 rfl rfl rfl ?_
        refine spB 8 rfl rfl rfl ?_
        refine spB 8 rfl rfl rfl ?_
        refine spB 8 rfl rfl rfl ?_
        refine s1 (pickF rfl rfl kB) ?_
        refine snil ?_
        refine pnm ?_
        exact sj (hj23 _) (entI ⟨rfl, rfl, rfl, rfl, trivial⟩ eqm0)
    · intro s24
      refine scond rfl ?_ ?_
      · refine sskip ?_
        refine pnm ?_
        refine sblk ?_
        refine sreg ?_
        refine s1 (mv rfl rfl) ?_
        refine s1 (subI rfl rfl (kI (x := 1) rfl)) ?_
        refine s1 (asg rfl rfl) ?_
        refine snil ?_
        refine pbn ?_
        exact sgo (entI ⟨rfl, rfl, rfl, trivial⟩ eqm0)
      · refine sexit ?_
        refine ptx ?_
        exact sout (fun h => by cases h) (sj (hj18 _) (entI ⟨rfl, rfl, rfl, trivial⟩ eqm0))
  · intro t17
    refine sx ?_
    refine pnm ?_
    refine sseq ?_
    refine sreg ?_
    refine so (bsl (y := 100) (ls := List.map u32 ([] : List Nat)) Tryd.underlying23 ti_72 rfl rfl rfl rfl rfl trivial rfl rfl) ?_
    refine s1 (mv rfl rfl) ?_
    refine s1 (mv rfl rfl) ?_
    refine bd fun y27 h28 => ?_
    refine s1 (slR (f := u32) h28 Tryd.underlying23 ti_72 rfl rfl bnd0 (bnd rfl)) ?_
    refine bd fun y29 h30 => ?_
    refine so (app (y := 101) (f := u32) h30 rfl Tryd.underlying23 ti_72 rfl rfl rfl rfl (.inl rfl) rfl rfl) ?_
    refine s1 (asg rfl rfl) ?_
    refine snil ?_
    refine pnm ?_
    refine sret ?_
    exact ret [(50, 101)] [.tmp 2] [_] [.own 50] .ret hγ (.inl rfl) rfl ⟨rfl, trivial⟩ rfl trivial ⟨⟨_, rfl⟩, trivial⟩ ⟨⟨_, _, rfl, rfl, rci (rc_sl (ifs_map (f := u32) (fun _ => if_u32) y29))⟩, trivial⟩ (rns_cons (rn_own rfl) (rns_nil)) rfl
theorem c_retrospectref04_Mul {n : Nat} {x0 : (List Nat)} {x1 : (List Nat)} : ∀ r, m_retrospectref04_Mul n x0 x1 = some r → FnOk Tryd.prog 41 [sli 1 (List.map u32 x0), sli 1 (List.map u32 x1)] [] (sli 1 (List.map u32 r)) [] := by
  unfold m_retrospectref04_Mul
  refine fn_of_sq (res := fun (r : (List Nat)) => sli 1 (List.map u32 r)) (mo := fun (r : (List Nat)) => []) Tryd.func41 rfl rfl (by kernel_rfl) rfl ?_
  intro w S0 γ hγ
  refine sseq ?_
  refine sreg ?_
  refine s1 (asg rfl (kLm (k := 1) u32)) ?_
  refine snil ?_
  refine pnm ?_
  refine sseq ?_
  refine sreg ?_
  refine s1 (mv rfl rfl) ?_
  refine s1 (lenL (f := u32) Tryd.underlying23 rfl rfl) ?_
  refine s1 (mv rfl rfl) ?_
  refine s1 (lenL (f := u32) Tryd.underlying23 rfl rfl) ?_
  refine s1 (addI rfl rfl rfl) ?_
  refine bd fun y1 h2 => ?_
  refine so (mks (y := 100) (f := u32) h2 Tryd.underlying23 ti_72 zr_u32 rfl rfl rfl rfl rfl rfl) ?_
  refine s1 (asg rfl rfl) ?_
  refine snil ?_
  refine pnm ?_
  refine sseq ?_
  refine sseq ?_
  refine sreg ?_
  refine s1 (asg rfl (kI (x := 0) rfl)) ?_
  refine snil ?_
  refine pnm ?_
  refine sblk ?_
  refine sloopE 0 (fun t => t) (fun (s77 : (List Nat) × Int) => [(0, sli 1 (List.map u32 x0)), (1, sli 1 (List.map u32 x1)), (4, sli 1 (List.map u32 ([] : List Nat))), (5, .own 100), (6, i64 s77.2)]) (fun (s77 : (List Nat) × Int) => [(100, .sl 72 1 (List.map u32 s77.1))]) (fun (t75 : (List Nat)) => [(4, sli 1 (List.map u32 ([] : List Nat))), (5, .own 100)]) (fun (t75 : (List Nat)) => [(100, .sl 72 1 (List.map u32 t75))]) (entR [(100, 100)] rfl (keepS hγ trivial) ⟨⟨_, rfl⟩, trivial⟩ ⟨⟨_, _, rfl, rfl, rci (rc_sl (ifs_map (f := u32) (fun _ => if_u32) y1))⟩, trivial⟩ ⟨⟨_, rfl, rn_id if_sli⟩, ⟨_, rfl, rn_id if_sli⟩, ⟨_, rfl, rn_id if_sli⟩, ⟨_, rfl, rn_own rfl⟩, ⟨_, rfl, rn_id if_i64⟩, trivial⟩) ?_ ?_
  · intro hj76 s77
    refine sseq ?_
    refine sseq ?_
    refine sreg ?_
    refine s1 (mv rfl rfl) ?_
    refine s1 (mv rfl rfl) ?_
    refine s1 (lenL (f := u32) Tryd.underlying23 rfl rfl) ?_
    refine s1 (ltI rfl rfl rfl) ?_
    refine snil ?_
    refine pnm ?_
    refine scond rfl ?_ ?_
    · refine sskip ?_
      refine pnm ?_
      refine sseq ?_
      refine sblk ?_
      refine sseq ?_
      refine sreg ?_
      refine s1 (asg rfl (k64 (x := 0) rfl)) ?_
      refine snil ?_
      refine pnm ?_
      refine sseq ?_
      refine sseq ?_
      refine sreg ?_
      refine s1 (asg rfl (kI (x := 0) rfl)) ?_
      refine snil ?_
      refine pnm ?_
      refine sblk ?_
      refine sloopE 2 (fun t => t) (fun (s92 : (List Nat) × Nat × Int) => [(0, sli 1 (List.map u32 x0)), (1, sli 1 (List.map u32 x1)), (4, sli 1 (List.map u32 ([] : List Nat))), (5, .own 100), (6, i64 s77.2), (7, u64 s92.2.1), (8, i64 s92.2.2)]) (fun (s92 : (List Nat) × Nat × Int) => [(100, .sl 72 1 (List.map u32 s92.1))]) (fun (t90 : (List Nat) × Nat) => [(0, sli 1 (List.map u32 x0)), (1, sli 1 (List.map u32 x1)), (4, sli 1 (List.map u32 ([] : List Nat))), (5, .own 100), (6, i64 s77.2), (7, u64 t90.2)]) (fun (t90 : (List Nat) × Nat) => [(100, .sl 72 1 (List.map u32 t90.1))]) (entR [(100, 100)] rfl (keepS hγ trivial) ⟨⟨_, rfl⟩, trivial⟩ ⟨⟨_, _, rfl, rfl, rci (rc_sl (ifs_map (f := u32) (fun _ => if_u32) s77.1))⟩, trivial⟩ ⟨⟨_, rfl, rn_id if_sli⟩, ⟨_, rfl, rn_id if_sli⟩, ⟨_, rfl, rn_id if_sli⟩, ⟨_, rfl, rn_own rfl⟩, ⟨_, rfl, rn_id if_i64⟩, ⟨_, rfl, rn_id if_u64⟩, ⟨_, rfl, rn_id if_i64⟩, trivial⟩) ?_ ?_
      · intro hj91 s92
        refine sseq ?_
        refine sseq ?_
        refine sreg ?_
        refine s1 (mv rfl rfl) ?_
        refine s1 (mv rfl rfl) ?_
        refine s1 (lenL (f := u32) Tryd.underlying23 rfl rfl) ?_
        refine s1 (ltI rfl rfl rfl) ?_
        refine snil ?_
        refine pnm ?_
        refine scond rfl ?_ ?_
        · refine sskip ?_
          refine pnm ?_
          refine sseq ?_
          refine sblk ?_
          refine sseq ?_
          refine bd fun y93 h94 => ?_
          refine bd fun y95 h96 => ?_
          refine bd fun y97 h98 => ?_
          refine sdraw [⟨[7], [], [(27, u64 s92.2.1)], []⟩, ⟨[0], [], [(28, sli 1 (List.map u32 x0))], []⟩, ⟨[6], [], [(29, i64 s77.2)], []⟩, ⟨[28, 29], [], [(30, .ref (u32 y93))], []⟩, ⟨[30], [], [(31, u32 y93)], []⟩, ⟨[31], [], [(32, u64 y93)], []⟩, ⟨[1], [], [(33, sli 1 (List.map u32 x1))], []⟩, ⟨[8], [], [(34, i64 s92.2.2)], []⟩, ⟨[33, 34], [], [(35, .ref (u32 y95))], []⟩, ⟨[35], [], [(36, u32 y95)], []⟩, ⟨[36], [], [(37, u64 y95)], []⟩, ⟨[32, 37], [], [(38, u64 ((y93 * y95) % 18446744073709551616))], []⟩, ⟨[5], [], [(39, .own 100)], []⟩, ⟨[6], [], [(40, i64 s77.2)], []⟩, ⟨[8], [], [(41, i64 s92.2.2)], []⟩, ⟨[40, 41], [], [(42, i64 (wrap64 (s77.2 + s92.2.2)))], []⟩, ⟨[39, 42], [100], [(43, .ptr 100 (Int.toNat (wrap64 (s77.2 + s92.2.2)) * 1))], []⟩, ⟨[43], [100], [(44, u32 y97)], []⟩, ⟨[44], [], [(45, u64 y97)], []⟩, ⟨[38, 45], [], [(46, u64 ((((y93 * y95) % 18446744073709551616) + y97) % 18446744073709551616))], []⟩, ⟨[27, 46], [], [(47, u64 ((s92.2.1 + ((((y93 * y95) % 18446744073709551616) + y97) % 18446744073709551616)) % 18446744073709551616))], []⟩, ⟨[47], [], [(7, u64 ((s92.2.1 + ((((y93 * y95) % 18446744073709551616) + y97) % 18446744073709551616)) % 18446744073709551616))], []⟩] fol (by kernel_rfl) ⟨fun st mm ⟨a7, _⟩ _ => og (mv rfl (a7.trans rfl)), fun st mm ⟨a0, _⟩ _ => og (mv rfl (a0.trans rfl)), fun st mm ⟨a6, _⟩ _ => og (mv rfl (a6.trans rfl)), fun st mm ⟨a28, a29, _⟩ _ => og (ixR (f := u32) Tryd.underlying23 ti_72 h94 rfl (a28.trans rfl) (a29.trans rfl)), fun st mm ⟨a30, _⟩ _ => og (ldR sh_72 (by exact rfl) (by exact rfl) rfl (a30.trans rfl)), fun st mm ⟨a31, _⟩ _ => og (cvUw uk64 uk32 rfl Tryd.underlying72 Tryd.underlying71 rfl (a31.trans rfl)), fun st mm ⟨a1, _⟩ _ => og (mv rfl (a1.trans rfl)), fun st mm ⟨a8, _⟩ _ => og (mv rfl (a8.trans rfl)), fun st mm ⟨a33, a34, _⟩ _ => og (ixR (f := u32) Tryd.underlying23 ti_72 h96 rfl (a33.trans rfl) (a34.trans rfl)), fun st mm ⟨a35, _⟩ _ => og (ldR sh_72 (by exact rfl) (by exact rfl) rfl (a35.trans rfl)), fun st mm ⟨a36, _⟩ _ => og (cvUw uk64 uk32 rfl Tryd.underlying72 Tryd.underlying71 rfl (a36.trans rfl)), fun st mm ⟨a32, a37, _⟩ _ => og (mulU uk64 rfl (a32.trans rfl) (a37.trans rfl)), fun st mm ⟨a5, _⟩ _ => og (mv rfl (a5.trans rfl)), fun st mm ⟨a6, _⟩ _ => og (mv rfl (a6.trans rfl)), fun st mm ⟨a8, _⟩ _ => og (mv rfl (a8.trans rfl)), fun st mm ⟨a40, a41, _⟩ _ => og (addI rfl (a40.trans rfl) (a41.trans rfl)), fun st mm ⟨a39, a42, _⟩ ⟨g100, _⟩ => og (ixO (f := u32) (g100.trans rfl) Tryd.underlying23 ti_72 h98 rfl (a39.trans rfl) (a42.trans rfl)), fun st mm ⟨a43, _⟩ ⟨g100, _⟩ => og (ldO (f := u32) [] (g100.trans rfl) (getI_ix h98) (by exact rfl) (by exact rfl) sh_72 (by exact rfl) (by exact rfl) rfl (a43.trans rfl)), fun st mm ⟨a44, _⟩ _ => og (cvUw uk64 uk32 rfl Tryd.underlying72 Tryd.underlying71 rfl (a44.trans rfl)), fun st mm ⟨a38, a45, _⟩ _ => og (addU uk64 rfl (a38.trans rfl) (a45.trans rfl)), fun st mm ⟨a27, a46, _⟩ _ => og (addU uk64 rfl (a27.trans rfl) (a46.trans rfl)), fun st mm ⟨a47, _⟩ _ => og (asg rfl (a47.trans rfl)), trivial⟩ ?_
          refine sbn (F := u64) 7 rfl fun z99 => ?_
          refine sbn (F := u64) 47 rfl fun z100 => ?_
          refine pnm ?_
          refine sseq ?_
          refine sreg ?_
          refine s1 (mv rfl rfl) ?_
          refine s1 (mv rfl rfl) ?_
          refine s1 (mv rfl rfl) ?_
          refine s1 (addI rfl rfl rfl) ?_
          refine s1 (mv rfl rfl) ?_
          refine s1 (remU uk64 rfl rfl rfl (k64 (x := 4294967296) rfl)) ?_
          refine s1 (cvU uk32 Tryd.underlying71 Tryd.underlying72 rfl rfl) ?_
          refine bd fun y101 h102 => ?_
          refine s1 (ixO (f := u32) rfl Tryd.underlying23 ti_72 h102 rfl rfl rfl) ?_
          refine so (stO (f := u32) ((z99 % 4294967296) % 4294967296) [] rfl (getI_ix h102) (by exact rfl) (by exact rfl) (by exact rfl) (by exact rfl) sh_72 (by exact rfl) (by exact rfl) (by exact rfl) rfl rfl) ?_
          refine sbm (C := fun x => .sl 72 1 (List.map u32 x)) 100 rfl fun z103 => ?_
          refine snil ?_
          refine pnm ?_
          refine sreg ?_
          refine s1 (mv rfl rfl) ?_
          refine s1 (quoU uk64 rfl rfl rfl (k64 (x := 4294967296) rfl)) ?_
          refine s1 (asg rfl rfl) ?_
          refine snil ?_
          refine pbn ?_
          refine pnm ?_
          refine sreg ?_
          refine s1 (mv rfl rfl) ?_
          refine s1 (addI rfl rfl (kI (x := 1) rfl)) ?_
          refine s1 (asg rfl rfl) ?_
          refine snil ?_
          exact sgo (entR [(100, 100)] rfl (keepS hγ trivial) ⟨⟨_, rfl⟩, trivial⟩ ⟨⟨_, _, rfl, rfl, rci (rc_sl (ifs_map (f := u32) (fun _ => if_u32) z103))⟩, trivial⟩ ⟨⟨_, rfl, rn_id if_sli⟩, ⟨_, rfl, rn_id if_sli⟩, ⟨_, rfl, rn_id if_sli⟩, ⟨_, rfl, rn_own rfl⟩, ⟨_, rfl, rn_id if_i64⟩, ⟨_, rfl, rn_id if_u64⟩, ⟨_, rfl, rn_id if_i64⟩, trivial⟩)
        · refine sexit ?_
          refine ptx ?_
          exact sout (fun h => by cases h) (sj (hj91 _) (entR [(100, 100)] rfl (keepS hγ trivial) ⟨⟨_, rfl⟩, trivial⟩ ⟨⟨_, _, rfl, rfl, rci (rc_sl (ifs_map (f := u32) (fun _ => if_u32) s92.1))⟩, trivial⟩ ⟨⟨_, rfl, rn_id if_sli⟩, ⟨_, rfl, rn_id if_sli⟩, ⟨_, rfl, rn_id if_sli⟩, ⟨_, rfl, rn_own rfl⟩, ⟨_, rfl, rn_id if_i64⟩, ⟨_, rfl, rn_id if_u64⟩, trivial⟩))
      · intro t90
        refine sx ?_
        refine pnm ?_
        refine sreg ?_
        refine s1 (mv rfl rfl) ?_
        refine s1 (mv rfl rfl) ?_
        refine s1 (mv rfl rfl) ?_
        refine s1 (lenL (f := u32) Tryd.underlying23 rfl rfl) ?_
        refine s1 (addI rfl rfl rfl) ?_
        refine s1 (mv rfl rfl) ?_
        refine s1 (cvU uk32 Tryd.underlying71 Tryd.underlying72 rfl rfl) ?_
        refine bd fun y104 h105 => ?_
        refine s1 (ixO (f := u32) rfl Tryd.underlying23 ti_72 h105 rfl rfl rfl) ?_
        refine so (stO (f := u32) (t90.2 % 4294967296) [] rfl (getI_ix h105) (by exact rfl) (by exact rfl) (by exact rfl) (by exact rfl) sh_72 (by exact rfl) (by exact rfl) (by exact rfl) rfl rfl) ?_
        refine sbm (C := fun x => .sl 72 1 (List.map u32 x)) 100 rfl fun z106 => ?_
        refine snil ?_
        refine pbn ?_
        refine pnm ?_
        refine sreg ?_
        refine s1 (mv rfl rfl) ?_
        refine s1 (addI rfl rfl (kI (x := 1) rfl)) ?_
        refine s1 (asg rfl rfl) ?_
        refine snil ?_
        exact sgo (entR [(100, 100)] rfl (keepS hγ trivial) ⟨⟨_, rfl⟩, trivial⟩ ⟨⟨_, _, rfl, rfl, rci (rc_sl (ifs_map (f := u32) (fun _ => if_u32) z106))⟩, trivial⟩ ⟨⟨_, rfl, rn_id if_sli⟩, ⟨_, rfl, rn_id if_sli⟩, ⟨_, rfl, rn_id if_sli⟩, ⟨_, rfl, rn_own rfl⟩, ⟨_, rfl, rn_id if_i64⟩, trivial⟩)
    · refine sexit ?_
      refine ptx ?_
      exact sout (fun h => by cases h) (sj (hj76 _) (entR [(100, 100)] rfl (keepS hγ trivial) ⟨⟨_, rfl⟩, trivial⟩ ⟨⟨_, _, rfl, rfl, rci (rc_sl (ifs_map (f := u32) (fun _ => if_u32) s77.1))⟩, trivial⟩ ⟨⟨_, rfl, rn_id if_sli⟩, ⟨_, rfl, rn_own rfl⟩, trivial⟩))
  · intro t75
    refine sx ?_
    refine pnm ?_
    refine sseq ?_
    refine sreg ?_
    refine s1 (mv rfl rfl) ?_
    refine bd fun r107 h108 => ?_
    refine so (callL (em := [(101, .sl 72 1 (List.map u32 r107))]) (res' := .own 101) [100] [] [(101, 50)] [(101, 50)] rfl (c_retrospectref02_Norm _ h108) ⟨pls_map (f := u32) (fun _ => pl_u32) _, trivial⟩ (pl_own) ⟨.inr ⟨100, rfl, rfl, .inl ⟨_, _, _, rfl, ifs_map (f := u32) (fun _ => if_u32) t75, rfl⟩⟩, trivial⟩ (MiF.get (mi := []) trivial) trivial rfl ⟨rfl, trivial⟩ ⟨.inl rfl, trivial⟩ rfl ⟨.inl ⟨_, _, rfl, rfl, rc_sl (ifs_map (f := u32) (fun _ => if_u32) r107)⟩, trivial⟩ trivial ⟨⟨_, rfl⟩, trivial⟩ (rn_own rfl) rfl) ?_
    refine s1 (asg rfl rfl) ?_
    refine snil ?_
    refine pnm ?_
    refine sret ?_
    refine frz (id := 101) [(4, sli 1 (List.map u32 r107)), (67, sli 1 (List.map u32 r107))] [] rfl (ifs_map (f := u32) (fun _ => if_u32) r107) ⟨⟨_, rfl, fz_own⟩, ⟨_, rfl, fz_own⟩, trivial⟩ trivial ?_
    exact ret [] [.tmp 4] [_] [_] .ret hγ (.inl rfl) rfl ⟨rfl, trivial⟩ rfl trivial trivial trivial (rns_cons (rn_id if_sli) (rns_nil)) rfl
theorem c_retrospectref02_At {x0 : (List Nat)} {x1 : Int} : ∀ r, m_retrospectref02_At x0 x1 = some r → FnOk Tryd.prog 67 [sli 1 (List.map u32 x0), i64 x1] [] (u32 r) [] := by
  unfold m_retrospectref02_At
  refine fn_of_sq (res := fun (r : Nat) => u32 r) (mo := fun (r : Nat) => []) Tryd.func67 rfl rfl (by kernel_rfl) rfl ?_
  intro w S0 γ hγ
  refine sseq ?_
  refine sreg ?_
  refine s1 (asg rfl (k32 (x := 0) rfl)) ?_
  refine snil ?_
  refine pnm ?_
  refine sseq ?_
  refine sseq ?_
  refine sreg ?_
  refine s1 (mv rfl rfl) ?_
  refine s1 (mv rfl rfl) ?_
  refine s1 (lenL (f := u32) Tryd.underlying23 rfl rfl) ?_
  refine s1 (ltI rfl rfl rfl) ?_
  refine snil ?_
  refine pnm ?_
  refine scond rfl ?_ ?_
  · refine sseq ?_
    refine sreg ?_
    refine s1 (mv rfl rfl) ?_
    refine s1 (mv rfl rfl) ?_
    refine bd fun y1 h2 => ?_
    refine s1 (ixR (f := u32) Tryd.underlying23 ti_72 h2 rfl rfl rfl) ?_
    refine s1 (ldR sh_72 (by exact rfl) (by exact rfl) rfl rfl) ?_
    refine s1 (asg rfl rfl) ?_
    refine snil ?_
    refine pnm ?_
    refine sret ?_
    refine pth ?_
    exact ret [] [.tmp 4] [_] [_] .ret hγ (.inl rfl) rfl ⟨rfl, trivial⟩ rfl trivial trivial trivial (rns_cons (rn_id if_u32) (rns_nil)) rfl
  · refine sskip ?_
    refine pnm ?_
    refine sseq ?_
    refine sreg ?_
    refine s1 (asg rfl (k32 (x := 0) rfl)) ?_
    refine snil ?_
    refine pnm ?_
    refine sret ?_
    exact ret [] [.tmp 4] [_] [_] .ret hγ (.inl rfl) rfl ⟨rfl, trivial⟩ rfl trivial trivial trivial (rns_cons (rn_id if_u32) (rns_nil)) rfl
theorem c_retrospectref02_Add {n : Nat} {x0 : (List Nat)} {x1 : (List Nat)} : ∀ r, m_retrospectref02_Add n x0 x1 = some r → FnOk Tryd.prog 40 [sli 1 (List.map u32 x0), sli 1 (List.map u32 x1)] [] (sli 1 (List.map u32 r)) [] := by
  unfold m_retrospectref02_Add
  refine fn_of_sq (res := fun (r : (List Nat)) => sli 1 (List.map u32 r)) (mo := fun (r : (List Nat)) => []) Tryd.func40 rfl rfl (by kernel_rfl) rfl ?_
  intro w S0 γ hγ
  refine sseq ?_
  refine sreg ?_
  refine s1 (asg rfl (kLm (k := 1) u32)) ?_
  refine snil ?_
  refine pnm ?_
  refine sseq ?_
  refine sreg ?_
  refine s1 (mv rfl rfl) ?_
  refine s1 (lenL (f := u32) Tryd.underlying23 rfl rfl) ?_
  refine s1 (mv rfl rfl) ?_
  refine s1 (lenL (f := u32) Tryd.underlying23 rfl rfl) ?_
  refine s1 (maxI rfl rfl rfl) ?_
  refine s1 (addI rfl rfl (kI (x := 1) rfl)) ?_
  refine s1 (asg rfl rfl) ?_
  refine snil ?_
  refine pnm ?_
  refine sseq ?_
  refine sreg ?_
  refine s1 (mv rfl rfl) ?_
  refine bd fun y1 h2 => ?_
  refine so (mks (y := 100) (f := u32) h2 Tryd.underlying23 ti_72 zr_u32 rfl rfl rfl rfl rfl rfl) ?_
  refine s1 (asg rfl rfl) ?_
  refine snil ?_
  refine pnm ?_
  refine sseq ?_
  refine sreg ?_
  refine s1 (asg rfl (k64 (x := 0) rfl)) ?_
  refine snil ?_
  refine pnm ?_
  refine sseq ?_
  refine sseq ?_
  refine sreg ?_
  refine s1 (asg rfl (kI (x := 0) rfl)) ?_
  refine snil ?_
  refine pnm ?_
  refine sblk ?_
  refine sloopE 0 (fun t => t) (fun (s24 : (List Nat) × Nat × Int) => [(0, sli 1 (List.map u32 x0)), (1, sli 1 (List.map u32 x1)), (4, sli 1 (List.map u32 ([] : List Nat))), (5, i64 (wrap64 ((max (x0.length : Int) (x1.length : Int)) + (1 : Int)))), (6, .own 100), (7, u64 s24.2.1), (8, i64 s24.2.2)]) (fun (s24 : (List Nat) × Nat × Int) => [(100, .sl 72 1 (List.map u32 s24.1))]) (fun (t22 : (List Nat)) => [(4, sli 1 (List.map u32 ([] : List Nat))), (6, .own 100)]) (fun (t22 : (List Nat)) => [(100, .sl 72 1 (List.map u32 t22))]) (entR [(100, 100)] rfl (keepS hγ trivial) ⟨⟨_, rfl⟩, trivial⟩ ⟨⟨_, _, rfl, rfl, rci (rc_sl (ifs_map (f := u32) (fun _ => if_u32) y1))⟩, trivial⟩ ⟨⟨_, rfl, rn_id if_sli⟩, ⟨_, rfl, rn_id if_sli⟩, ⟨_, rfl, rn_id if_sli⟩, ⟨_, rfl, rn_id if_i64⟩, ⟨_, rfl, rn_own rfl⟩, ⟨_, rfl, rn_id if_u64⟩, ⟨_, rfl, rn_id if_i64⟩, trivial⟩) ?_ ?_
  · intro hj23 s24
    refine sseq ?_
    refine sseq ?_
    refine sreg ?_
    refine s1 (mv rfl rfl) ?_
    refine s1 (mv rfl rfl) ?_
    refine s1 (ltI rfl rfl rfl) ?_
    refine sbn (F := bl) 19 rfl fun z25 => ?_
    refine snil ?_
    refine pnm ?_
    refine scond rfl ?_ ?_
    · refine sskip ?_
      refine pnm ?_
      refine sseq ?_
      refine sblk ?_
      refine sseq ?_
      refine sreg ?_
      refine s1 (mv rfl rfl) ?_
      refine s1 (mv rfl rfl) ?_
      refine s1 (mv rfl rfl) ?_
      refine bd fun r26 h27 => ?_
      refine s1 (call0 (c_retrospectref02_At _ h27) ⟨⟨_, rfl, rn_id if_sli⟩, ⟨_, rfl, rn_id if_i64⟩, trivial⟩ (if_u32) rfl) ?_
      refine s1 (cvUw uk64 uk32 rfl Tryd.underlying72 Tryd.underlying71 rfl rfl) ?_
      refine s1 (mv rfl rfl) ?_
      refine s1 (mv rfl rfl) ?_
      refine bd fun r28 h29 => ?_
      refine s1 (call0 (c_retrospectref02_At _ h29) ⟨⟨_, rfl, rn_id if_sli⟩, ⟨_, rfl, rn_id if_i64⟩, trivial⟩ (if_u32) rfl) ?_
      refine s1 (cvUw uk64 uk32 rfl Tryd.underlying72 Tryd.underlying71 rfl rfl) ?_
      refine s1 (addU uk64 rfl rfl rfl) ?_
      refine s1 (addU uk64 rfl rfl rfl) ?_
      refine sbn (F := u64) 32 rfl fun z30 => ?_
      refine s1 (asg rfl rfl) ?_
      refine snil ?_
      refine pnm ?_
      refine sseq ?_
      refine sreg ?_
      refine s1 (mv rfl rfl) ?_
      refine s1 (mv rfl rfl) ?_
      refine s1 (mv rfl rfl) ?_
      refine s1 (remU uk64 rfl rfl rfl (k64 (x := 4294967296) rfl)) ?_
      refine s1 (cvU uk32 Tryd.underlying71 Tryd.underlying72 rfl rfl) ?_
      refine bd fun y31 h32 => ?_
      refine s1 (ixO (f := u32) rfl Tryd.underlying23 ti_72 h32 rfl rfl rfl) ?_
      refine so (stO (f := u32) ((z30 % 4294967296) % 4294967296) [] rfl (getI_ix h32) (by exact rfl) (by exact rfl) (by exact rfl) (by exact rfl) sh_72 (by exact rfl) (by exact rfl) (by exact rfl) rfl rfl) ?_
      refine snil ?_
      refine pnm ?_
      refine sreg ?_
      refine s1 (mv rfl rfl) ?_
      refine s1 (quoU uk64 rfl rfl rfl (k64 (x := 4294967296) rfl)) ?_
      refine s1 (asg rfl rfl) ?_
      refine snil ?_
      refine pbn ?_
      refine pnm ?_
      refine sreg ?_
      refine s1 (mv rfl rfl) ?_
      refine s1 (addI rfl rfl (kI (x := 1) rfl)) ?_
      refine s1 (asg rfl rfl) ?_
      refine snil ?_
      exact sgo (entR [(100, 100)] rfl (keepS hγ trivial) ⟨⟨_, rfl⟩, trivial⟩ ⟨⟨_, _, rfl, rfl, rci (rc_sl (ifs_map (f := u32) (fun _ => if_u32) (List.set s24.1 (Int.toNat s24.2.2) ((z30 % 4294967296) % 4294967296))))⟩, trivial⟩ ⟨⟨_, rfl, rn_id if_sli⟩, ⟨_, rfl, rn_id if_sli⟩, ⟨_, rfl, rn_id if_sli⟩, ⟨_, rfl, rn_id if_i64⟩, ⟨_, rfl, rn_own rfl⟩, ⟨_, rfl, rn_id if_u64⟩, ⟨_, rfl, rn_id if_i64⟩, trivial⟩)
    · refine sexit ?_
      refine ptx ?_
      exact sout (fun h => by cases h) (sj (hj23 _) (entR [(100, 100)] rfl (keepS hγ trivial) ⟨⟨_, rfl⟩, trivial⟩ ⟨⟨_, _, rfl, rfl, rci (rc_sl (ifs_map (f := u32) (fun _ => if_u32) s24.1))⟩, trivial⟩ ⟨⟨_, rfl, rn_id if_sli⟩, ⟨_, rfl, rn_own rfl⟩, trivial⟩))
  · intro t22
    refine sx ?_
    refine pnm ?_
    refine sseq ?_
    refine sreg ?_
    refine s1 (mv rfl rfl) ?_
    refine bd fun r33 h34 => ?_
    refine so (callL (em := [(101, .sl 72 1 (List.map u32 r33))]) (res' := .own 101) [100] [] [(101, 50)] [(101, 50)] rfl (c_retrospectref02_Norm _ h34) ⟨pls_map (f := u32) (fun _ => pl_u32) _, trivial⟩ (pl_own) ⟨.inr ⟨100, rfl, rfl, .inl ⟨_, _, _, rfl, ifs_map (f := u32) (fun _ => if_u32) t22, rfl⟩⟩, trivial⟩ (MiF.get (mi := []) trivial) trivial rfl ⟨rfl, trivial⟩ ⟨.inl rfl, trivial⟩ rfl ⟨.inl ⟨_, _, rfl, rfl, rc_sl (ifs_map (f := u32) (fun _ => if_u32) r33)⟩, trivial⟩ trivial ⟨⟨_, rfl⟩, trivial⟩ (rn_own rfl) rfl) ?_
    refine s1 (asg rfl rfl) ?_
    refine snil ?_
    refine pnm ?_
    refine sret ?_
    refine frz (id := 101) [(4, sli 1 (List.map u32 r33)), (42, sli 1 (List.map u32 r33))] [] rfl (ifs_map (f := u32) (fun _ => if_u32) r33) ⟨⟨_, rfl, fz_own⟩, ⟨_, rfl, fz_own⟩, trivial⟩ trivial ?_
    exact ret [] [.tmp 4] [_] [_] .ret hγ (.inl rfl) rfl ⟨rfl, trivial⟩ rfl trivial trivial trivial (rns_cons (rn_id if_sli) (rns_nil)) rfl
theorem c_retrospectref07_Read {n : Nat} {x0 : (List UInt8)} : ∀ r, m_retrospectref07_Read n x0 = some r → FnOk Tryd.prog 13 [str x0] [] (sli 1 (List.map u32 r)) [] := by
  unfold m_retrospectref07_Read
  refine fn_of_sq (res := fun (r : (List Nat)) => sli 1 (List.map u32 r)) (mo := fun (r : (List Nat)) => []) Tryd.func13 rfl rfl (by kernel_rfl) rfl ?_
  intro w S0 γ hγ
  refine sseq ?_
  refine sreg ?_
  refine s1 (asg rfl (kLm (k := 1) u32)) ?_
  refine snil ?_
  refine pnm ?_
  refine sseq ?_
  refine sreg ?_
  refine so (bsl (y := 100) (ls := List.map u32 ([] : List Nat)) Tryd.underlying23 ti_72 rfl rfl rfl rfl rfl trivial rfl rfl) ?_
  refine s1 (asg rfl rfl) ?_
  refine snil ?_
  refine pnm ?_
  refine sseq ?_
  refine sseq ?_
  refine sreg ?_
  refine s1 (asg rfl (kI (x := 0) rfl)) ?_
  refine snil ?_
  refine pnm ?_
  refine sblk ?_
  refine frz (id := 100) [(3, sli 1 (List.map u32 ([] : List Nat))), (5, sli 1 (List.map u32 ([] : List Nat)))] [] rfl (ifs_map (f := u32) (fun _ => if_u32) ([] : List Nat)) ⟨⟨_, rfl, fz_own⟩, ⟨_, rfl, fz_own⟩, trivial⟩ trivial ?_
  refine sloopE 0 (fun t => t) (fun (s28 : (List Nat) × Int) => [(0, str x0), (2, sli 1 (List.map u32 ([] : List Nat))), (3, sli 1 (List.map u32 s28.1)), (4, i64 s28.2)]) (fun (s28 : (List Nat) × Int) => []) (fun (t26 : (List Nat)) => [(2, sli 1 (List.map u32 ([] : List Nat))), (3, sli 1 (List.map u32 t26))]) (fun (t26 : (List Nat)) => []) (entR [] rfl (keepS hγ trivial) (by exact trivial) (by exact trivial) ⟨⟨_, rfl, rn_id if_str⟩, ⟨_, rfl, rn_id if_sli⟩, ⟨_, rfl, rn_id if_sli⟩, ⟨_, rfl, rn_id if_i64⟩, trivial⟩) ?_ ?_
  · intro hj27 s28
    refine sseq ?_
    refine sseq ?_
    refine sreg ?_
    refine s1 (mv rfl rfl) ?_
    refine s1 (mv rfl rfl) ?_
    refine s1 (lenS Tryd.underlying9 rfl rfl) ?_
    refine s1 (ltI rfl rfl rfl) ?_
    refine snil ?_
    refine pnm ?_
    refine scond rfl ?_ ?_
    · refine sskip ?_
      refine pnm ?_
      refine sseq ?_
      refine sblk ?_
      refine bd fun r29 h30 => ?_
      refine bd fun y31 h32 => ?_
      refine bd fun r33 h34 => ?_
      refine sdraw [⟨[3], [], [(12, sli 1 (List.map u32 s28.1))], []⟩, ⟨[], [101], [(13, sli 1 (List.map u32 ([10] : List Nat)))], [(101, .gone)]⟩, ⟨[12, 13], [], [(14, sli 1 (List.map u32 r29))], []⟩, ⟨[0], [], [(15, str x0)], []⟩, ⟨[4], [], [(16, i64 s28.2)], []⟩, ⟨[15, 16], [], [(17, u8 y31)], []⟩, ⟨[17], [], [(18, u32 y31)], []⟩, ⟨[18], [], [(19, u32 ((y31 + 4294967296 - 48) % 4294967296))], []⟩, ⟨[19], [102], [(20, sli 1 (List.map u32 ([((y31 + 4294967296 - 48) % 4294967296)] : List Nat)))], [(102, .gone)]⟩, ⟨[14, 20], [], [(21, sli 1 (List.map u32 r33))], []⟩, ⟨[21], [], [(3, sli 1 (List.map u32 r33))], []⟩] fol (by kernel_rfl) ⟨fun st mm ⟨a3, _⟩ _ => og (mv rfl (a3.trans rfl)), fun st mm _ ⟨g101, _⟩ => og (toV (bsl (y := 101) (ls := List.map u32 ([10] : List Nat)) Tryd.underlying23 ti_72 rfl rfl rfl rfl rfl ⟨rfl, (k32 (x := 10) rfl), (by exact rfl), (by exact rfl), trivial⟩ (g101.trans rfl) rfl) (ifs_map (f := u32) (fun _ => if_u32) ([10] : List Nat))), fun st mm ⟨a12, a13, _⟩ _ => og (call0 (c_retrospectref04_Mul _ h30) ⟨⟨_, (a12.trans rfl), rn_id if_sli⟩, ⟨_, (a13.trans rfl), rn_id if_sli⟩, trivial⟩ (if_sli) rfl), fun st mm ⟨a0, _⟩ _ => og (mv rfl (a0.trans rfl)), fun st mm ⟨a4, _⟩ _ => og (mv rfl (a4.trans rfl)), fun st mm ⟨a15, a16, _⟩ _ => og (ixS Tryd.underlying9 h32 rfl (a15.trans rfl) (a16.trans rfl)), fun st mm ⟨a17, _⟩ _ => og (cvUw uk32 uk8 rfl Tryd.underlying5 Tryd.underlying72 rfl (a17.trans rfl)), fun st mm ⟨a18, _⟩ _ => og (subU uk32 rfl (a18.trans rfl) (k32 (x := 48) rfl)), fun st mm ⟨a19, _⟩ ⟨g102, _⟩ => og (toV (bsl (y := 102) (ls := List.map u32 ([((y31 + 4294967296 - 48) % 4294967296)] : List Nat)) Tryd.underlying23 ti_72 rfl rfl rfl rfl rfl ⟨rfl, (a19.trans rfl), (by exact rfl), (by exact rfl), trivial⟩ (g102.trans rfl) rfl) (ifs_map (f := u32) (fun _ => if_u32) ([((y31 + 4294967296 - 48) % 4294967296)] : List Nat))), fun st mm ⟨a14, a20, _⟩ _ => og (call0 (c_retrospectref02_Add _ h34) ⟨⟨_, (a14.trans rfl), rn_id if_sli⟩, ⟨_, (a20.trans rfl), rn_id if_sli⟩, trivial⟩ (if_sli) rfl), fun st mm ⟨a21, _⟩ _ => og (asg rfl (a21.trans rfl)), trivial⟩ ?_
      refine pbn ?_
      refine pnm ?_
      refine sreg ?_
      refine s1 (mv rfl rfl) ?_
      refine s1 (addI rfl rfl (kI (x := 1) rfl)) ?_
      refine s1 (asg rfl rfl) ?_
      refine snil ?_
      exact sgo (entR [] rfl (keepS hγ trivial) (by exact trivial) (by exact trivial) ⟨⟨_, rfl, rn_id if_str⟩, ⟨_, rfl, rn_id if_sli⟩, ⟨_, rfl, rn_id if_sli⟩, ⟨_, rfl, rn_id if_i64⟩, trivial⟩)
    · refine sexit ?_
      refine ptx ?_
      exact sout (fun h => by cases h) (sj (hj27 _) (entI ⟨rfl, rfl, trivial⟩ eqm0))
  · intro t26
    refine sx ?_
    refine pnm ?_
    refine sseq ?_
    refine sreg ?_
    refine s1 (mv rfl rfl) ?_
    refine s1 (asg rfl rfl) ?_
    refine snil ?_
    refine pnm ?_
    refine sret ?_
    exact ret [] [.tmp 2] [_] [_] .ret hγ (.inl rfl) rfl ⟨rfl, trivial⟩ rfl trivial trivial trivial (rns_cons (rn_id if_sli) (rns_nil)) rfl
theorem c_retrospectlaw07_DigitsReads {n : Nat} {x0 : (List UInt8)} : ∀ r, m_retrospectlaw07_DigitsReads n x0 = some r → FnOk Tryd.prog 3 [str x0] [] (bl r) [] := by
  unfold m_retrospectlaw07_DigitsReads
  refine fn_of_sq (res := fun (r : Bool) => bl r) (mo := fun (r : Bool) => []) Tryd.func3 rfl rfl (by kernel_rfl) rfl ?_
  intro w S0 γ hγ
  refine sseq ?_
  refine sreg ?_
  refine s1 (asg rfl kB) ?_
  refine snil ?_
  refine pnm ?_
  refine sseq ?_
  refine sseq ?_
  refine sreg ?_
  refine s1 (mv rfl rfl) ?_
  refine s1 (lenS Tryd.underlying9 rfl rfl) ?_
  refine s1 (gtI rfl rfl (kI (x := 500) rfl)) ?_
  refine snil ?_
  refine pnm ?_
  refine scond rfl ?_ ?_
  · refine sseq ?_
    refine sreg ?_
    refine bd fun r1 h2 => ?_
    refine s1 (call0 (c_retrospectlaw07_works _ h2) trivial (if_bl) rfl) ?_
    refine s1 (asg rfl rfl) ?_
    refine snil ?_
    refine pnm ?_
    refine sret ?_
    refine pth ?_
    exact ret [] [.tmp 2] [_] [_] .ret hγ (.inl rfl) rfl ⟨rfl, trivial⟩ rfl trivial trivial trivial (rns_cons (rn_id if_bl) (rns_nil)) rfl
  · refine sskip ?_
    refine pnm ?_
    refine sseq ?_
    refine sreg ?_
    refine s1 (mv rfl rfl) ?_
    refine bd fun r3 h4 => ?_
    refine s1 (call0 (c_digits_Read _ h4) ⟨⟨_, rfl, rn_id if_str⟩, trivial⟩ (if_tup (ifs_cons if_sli (ifs_cons if_L_api_Fault (ifs_nil)))) rfl) ?_
    refine s1 (mv rfl rfl) ?_
    refine s1 (ext (by exact rfl) rfl rfl) ?_
    refine s1 (ext (by exact rfl) rfl rfl) ?_
    refine so (al (y := 100) (ly := L_api_Fault (⟨0, 0, 0, 0⟩ : M_api_Fault)) ti_25 zr_api_Fault rfl rfl) ?_
    refine s1 (asg rfl rfl) ?_
    refine so (stB2 (ly2 := L_api_Fault r3.2) [] (by exact rfl) rfl (by exact rfl) sh_25 (by exact rfl) (by exact rfl) (by exact rfl) rfl (.inr ⟨rfl, rfl, _, _, rfl⟩) rfl) ?_
    refine snil ?_
    refine pnm ?_
    refine sseq ?_
    refine sreg ?_
    refine s1 (mv rfl rfl) ?_
    refine bd fun r5 h6 => ?_
    refine s1 (call0 (c_retrospectref07_Wrong _ h6) ⟨⟨_, rfl, rn_id if_str⟩, trivial⟩ (if_i64) rfl) ?_
    refine s1 (asg rfl rfl) ?_
    refine snil ?_
    refine pnm ?_
    refine sseq ?_
    refine sseq ?_
    refine sreg ?_
    refine s1 (mv rfl rfl) ?_
    refine s1 (geI rfl rfl (kI (x := 0) rfl)) ?_
    refine snil ?_
    refine pnm ?_
    refine scond rfl ?_ ?_
    · refine sjq (fun (s11 : Bool) => [(0, str x0), (2, bl s11), (3, sli 1 (List.map u32 r3.1)), (4, .own 100)]) (fun (s11 : Bool) => [(100, .bx 25 (L_api_Fault r3.2))]) ?_ ?_
      · intro j9 hj10
        refine sreg ?_
        refine s1 (mv rfl rfl) ?_
        refine s1 (lenL (f := u32) Tryd.underlying23 rfl rfl) ?_
        refine s1 (eqI rfl rfl (kI (x := 0) rfl)) ?_
        refine s1 (mv rfl rfl) ?_
        refine sifd 22 rfl ?_ ?_
        · refine sg 22 rfl rfl (ldB [] rfl rfl sh_25 (by exact rfl) (by exact rfl) rfl rfl (.inr ⟨rfl, rfl, _, _, rfl⟩)) ?_
          refine sg 22 rfl rfl (mv rfl rfl) ?_
          refine sg 22 rfl rfl (bld (l := [i64 (1 : Int), i64 0, i64 0, i64 r5]) pl_25 ti_25 zr_api_Fault ⟨_, _, _, (kI (x := 1) rfl), rfl, rfl, rfl, (szk (k := 1) rfl rfl), ⟨_, _, _, rfl, rfl, rfl, rfl, (szk (k := 1) rfl rfl), rfl⟩⟩ rfl) ?_
          refine sg 22 rfl rfl (eqA (p := (r3.2 : M_api_Fault)) (q := ((⟨(1 : Int), 0, 0, r5⟩ : M_api_Fault) : M_api_Fault)) eq_25_2 rfl eg_25 rfl rfl rfl) ?_
          refine s1 (pickT rfl rfl rfl) ?_
          refine s1 (mv rfl rfl) ?_
          refine sifd 28 rfl ?_ ?_
          · refine bd fun r12 h13 => ?_
            refine sg 28 rfl rfl (call0 (c_retrospectlaw07_works _ h13) trivial (if_bl) rfl) ?_
            refine s1 (pickT rfl rfl rfl) ?_
            refine s1 (asg rfl rfl) ?_
            refine snil ?_
            refine pnm ?_
            exact sj (hj10 _) (entR [(100, 100)] rfl (keepS hγ trivial) ⟨⟨_, rfl⟩, trivial⟩ ⟨⟨_, _, rfl, rfl, rci (rc_bx (rn_id if_L_api_Fault))⟩, trivial⟩ ⟨⟨_, rfl, rn_id if_str⟩, ⟨_, rfl, rn_id if_bl⟩, ⟨_, rfl, rn_id if_sli⟩, ⟨_, rfl, rn_own rfl⟩, trivial⟩)
          · refine spB 28 rfl rfl rfl ?_
            refine s1 (pickF rfl rfl kB) ?_
            refine s1 (asg rfl rfl) ?_
            refine snil ?_
            refine pnm ?_
            exact sj (hj10 _) (entR [(100, 100)] rfl (keepS hγ trivial) ⟨⟨_, rfl⟩, trivial⟩ ⟨⟨_, _, rfl, rfl, rci (rc_bx (rn_id if_L_api_Fault))⟩, trivial⟩ ⟨⟨_, rfl, rn_id if_str⟩, ⟨_, rfl, rn_id if_bl⟩, ⟨_, rfl, rn_id if_sli⟩, ⟨_, rfl, rn_own rfl⟩, trivial⟩)
        · refine spB 22 rfl rfl rfl ?_
          refine spB 22 rfl rfl rfl ?_
          refine spB 22 rfl rfl rfl ?_
          refine spB 22 rfl rfl rfl ?_
          refine s1 (pickF rfl rfl kB) ?_
          refine s1 (mv rfl rfl) ?_
          refine spB 28 rfl rfl rfl ?_
          refine s1 (pickF rfl rfl kB) ?_
          refine s1 (asg rfl rfl) ?_
          refine snil ?_
          refine pnm ?_
          exact sj (hj10 _) (entR [(100, 100)] rfl (keepS hγ trivial) ⟨⟨_, rfl⟩, trivial⟩ ⟨⟨_, _, rfl, rfl, rci (rc_bx (rn_id if_L_api_Fault))⟩, trivial⟩ ⟨⟨_, rfl, rn_id if_str⟩, ⟨_, rfl, rn_id if_bl⟩, ⟨_, rfl, rn_id if_sli⟩, ⟨_, rfl, rn_own rfl⟩, trivial⟩)
      · intro s11
        refine sret ?_
        refine pth ?_
        exact ret [] [.tmp 2] [_] [_] .ret hγ (.inl rfl) rfl ⟨rfl, trivial⟩ rfl trivial trivial trivial (rns_cons (rn_id if_bl) (rns_nil)) rfl
    · refine sskip ?_
      refine pnm ?_
      refine sjq (fun (s22 : Bool) => [(2, bl s22)]) (fun (s22 : Bool) => []) ?_ ?_
      · intro j20 hj21
        refine sreg ?_
        refine s1 (mv rfl rfl) ?_
        refine s1 (mv rfl rfl) ?_
        refine bd fun r23 h24 => ?_
        refine s1 (call0 (c_retrospectref07_Read _ h24) ⟨⟨_, rfl, rn_id if_str⟩, trivial⟩ (if_sli) rfl) ?_
        refine bd fun r25 h26 => ?_
        refine s1 (call0 (c_retrospectref02_Same _ h26) ⟨⟨_, rfl, rn_id if_sli⟩, ⟨_, rfl, rn_id if_sli⟩, trivial⟩ (if_bl) rfl) ?_
        refine s1 (mv rfl rfl) ?_
        refine sifd 35 rfl ?_ ?_
        · refine sg 35 rfl rfl (ldB [] rfl rfl sh_25 (by exact rfl) (by exact rfl) rfl rfl (.inr ⟨rfl, rfl, _, _, rfl⟩)) ?_
          refine sg 35 rfl rfl (bld (l := [i64 0, i64 0, i64 0, i64 0]) pl_25 ti_25 zr_api_Fault rfl rfl) ?_
          refine sg 35 rfl rfl (eqA (p := (r3.2 : M_api_Fault)) (q := ((⟨0, 0, 0, 0⟩ : M_api_Fault) : M_api_Fault)) eq_25_2 rfl eg_25 rfl rfl rfl) ?_
          refine s1 (pickT rfl rfl rfl) ?_
          refine s1 (mv rfl rfl) ?_
          refine sifd 40 rfl ?_ ?_
          · refine bd fun r27 h28 => ?_
            refine sg 40 rfl rfl (call0 (c_retrospectlaw07_works _ h28) trivial (if_bl) rfl) ?_
            refine s1 (pickT rfl rfl rfl) ?_
            refine s1 (asg rfl rfl) ?_
            refine snil ?_
            refine pnm ?_
            exact sj (hj21 _) (entR [] rfl (keepS hγ trivial) (by exact trivial) (by exact trivial) ⟨⟨_, rfl, rn_id if_bl⟩, trivial⟩)
          · refine spB 40 rfl rfl rfl ?_
            refine s1 (pickF rfl rfl kB) ?_
            refine s1 (asg rfl rfl) ?_
            refine snil ?_
            refine pnm ?_
            exact sj (hj21 _) (entR [] rfl (keepS hγ trivial) (by exact trivial) (by exact trivial) ⟨⟨_, rfl, rn_id if_bl⟩, trivial⟩)
        · refine spB 35 rfl rfl rfl ?_
          refine spB 35 rfl rfl rfl ?_
          refine spB 35 rfl rfl rfl ?_
          refine s1 (pickF rfl rfl kB) ?_
          refine s1 (mv rfl rfl) ?_
          refine spB 40 rfl rfl rfl ?_
          refine s1 (pickF rfl rfl kB) ?_
          refine s1 (asg rfl rfl) ?_
          refine snil ?_
          refine pnm ?_
          exact sj (hj21 _) (entR [] rfl (keepS hγ trivial) (by exact trivial) (by exact trivial) ⟨⟨_, rfl, rn_id if_bl⟩, trivial⟩)
      · intro s22
        refine sret ?_
        exact ret [] [.tmp 2] [_] [_] .ret hγ (.inl rfl) rfl ⟨rfl, trivial⟩ rfl trivial trivial trivial (rns_cons (rn_id if_bl) (rns_nil)) rfl
theorem c_retrospectref07_ten {n : Nat} {x0 : (List Nat)} : ∀ r, m_retrospectref07_ten n x0 = some r → FnOk Tryd.prog 43 [.own 0] [(0, .sl 72 1 (List.map u32 x0))] (u64 r.1) [(0, .sl 72 1 (List.map u32 r.2))] := by
  unfold m_retrospectref07_ten
  refine fn_of_sq (res := fun (r : Nat × (List Nat)) => u64 r.1) (mo := fun (r : Nat × (List Nat)) => [(0, .sl 72 1 (List.map u32 r.2))]) Tryd.func43 rfl rfl (by kernel_rfl) rfl ?_
  intro w S0 γ hγ
  refine sseq ?_
  refine sreg ?_
  refine s1 (asg rfl (k64 (x := 0) rfl)) ?_
  refine snil ?_
  refine pnm ?_
  refine sseq ?_
  refine sreg ?_
  refine s1 (asg rfl (k64 (x := 0) rfl)) ?_
  refine snil ?_
  refine pnm ?_
  refine sseq ?_
  refine sseq ?_
  refine sreg ?_
  refine s1 (mv rfl rfl) ?_
  refine s1 (lenO (f := u32) Tryd.underlying23 rfl rfl rfl) ?_
  refine s1 (subI rfl rfl (kI (x := 1) rfl)) ?_
  refine s1 (asg rfl rfl) ?_
  refine snil ?_
  refine pnm ?_
  refine sblk ?_
  refine sloopE 0 (fun t => t) (fun (s16 : (List Nat) × Nat × Int) => [(0, .own 0), (2, u64 0), (3, u64 s16.2.1), (4, i64 s16.2.2)]) (fun (s16 : (List Nat) × Nat × Int) => [(0, .sl 72 1 (List.map u32 s16.1))]) (fun (t14 : (List Nat) × Nat) => [(2, u64 0), (3, u64 t14.2)]) (fun (t14 : (List Nat) × Nat) => [(0, .sl 72 1 (List.map u32 t14.1))]) (entR [(0, 0)] rfl (keepS hγ ⟨rfl, trivial⟩) ⟨⟨_, rfl⟩, trivial⟩ ⟨⟨_, _, rfl, rfl, rci (rc_sl (ifs_map (f := u32) (fun _ => if_u32) x0))⟩, trivial⟩ ⟨⟨_, rfl, rn_own rfl⟩, ⟨_, rfl, rn_id if_u64⟩, ⟨_, rfl, rn_id if_u64⟩, ⟨_, rfl, rn_id if_i64⟩, trivial⟩) ?_ ?_
  · intro hj15 s16
    refine sseq ?_
    refine sseq ?_
    refine sreg ?_
    refine s1 (mv rfl rfl) ?_
    refine s1 (geI rfl rfl (kI (x := 0) rfl)) ?_
    refine snil ?_
    refine pnm ?_
    refine scond rfl ?_ ?_
    · refine sskip ?_
      refine pnm ?_
      refine sseq ?_
      refine sblk ?_
      refine sseq ?_
      refine sreg ?_
      refine s1 (mv rfl rfl) ?_
      refine s1 (mulU uk64 rfl rfl (k64 (x := 4294967296) rfl)) ?_
      refine s1 (mv rfl rfl) ?_
      refine s1 (mv rfl rfl) ?_
      refine bd fun y17 h18 => ?_
      refine s1 (ixO (f := u32) rfl Tryd.underlying23 ti_72 h18 rfl rfl rfl) ?_
      refine s1 (ldO (f := u32) [] rfl (getI_ix h18) (by exact rfl) (by exact rfl) sh_72 (by exact rfl) (by exact rfl) rfl rfl) ?_
      refine s1 (cvUw uk64 uk32 rfl Tryd.underlying72 Tryd.underlying71 rfl rfl) ?_
      refine s1 (addU uk64 rfl rfl rfl) ?_
      refine sbn (F := u64) 19 rfl fun z19 => ?_
      refine s1 (asg rfl rfl) ?_
      refine snil ?_
      refine pnm ?_
      refine sseq ?_
      refine sreg ?_
      refine s1 (mv rfl rfl) ?_
      refine s1 (mv rfl rfl) ?_
      refine s1 (mv rfl rfl) ?_
      refine s1 (quoU uk64 rfl rfl rfl (k64 (x := 10) rfl)) ?_
      refine s1 (cvU uk32 Tryd.underlying71 Tryd.underlying72 rfl rfl) ?_
      refine bd fun y20 h21 => ?_
      refine s1 (ixO (f := u32) rfl Tryd.underlying23 ti_72 h21 rfl rfl rfl) ?_
      refine so (stO (f := u32) ((z19 / 10) % 4294967296) [] rfl (getI_ix h21) (by exact rfl) (by exact rfl) (by exact rfl) (by exact rfl) sh_72 (by exact rfl) (by exact rfl) (by exact rfl) rfl rfl) ?_
      refine snil ?_
      refine pnm ?_
      refine sreg ?_
      refine s1 (mv rfl rfl) ?_
      refine s1 (remU uk64 rfl rfl rfl (k64 (x := 10) rfl)) ?_
      refine s1 (asg rfl rfl) ?_
      refine snil ?_
      refine pbn ?_
      refine pnm ?_
      refine sreg ?_
      refine s1 (mv rfl rfl) ?_
      refine s1 (subI rfl rfl (kI (x := 1) rfl)) ?_
      refine s1 (asg rfl rfl) ?_
      refine snil ?_
      exact sgo (entR [(0, 0)] rfl (keepS hγ ⟨rfl, trivial⟩) ⟨⟨_, rfl⟩, trivial⟩ ⟨⟨_, _, rfl, rfl, rci (rc_sl (ifs_map (f := u32) (fun _ => if_u32) (List.set s16.1 (Int.toNat s16.2.2) ((z19 / 10) % 4294967296))))⟩, trivial⟩ ⟨⟨_, rfl, rn_own rfl⟩, ⟨_, rfl, rn_id if_u64⟩, ⟨_, rfl, rn_id if_u64⟩, ⟨_, rfl, rn_id if_i64⟩, trivial⟩)
    · refine sexit ?_
      refine ptx ?_
      exact sout (fun h => by cases h) (sj (hj15 _) (entR [(0, 0)] rfl (keepS hγ ⟨rfl, trivial⟩) ⟨⟨_, rfl⟩, trivial⟩ ⟨⟨_, _, rfl, rfl, rci (rc_sl (ifs_map (f := u32) (fun _ => if_u32) s16.1))⟩, trivial⟩ ⟨⟨_, rfl, rn_id if_u64⟩, ⟨_, rfl, rn_id if_u64⟩, trivial⟩))
  · intro t14
    refine sx ?_
    refine pnm ?_
    refine sseq ?_
    refine sreg ?_
    refine s1 (mv rfl rfl) ?_
    refine s1 (asg rfl rfl) ?_
    refine snil ?_
    refine pnm ?_
    refine sret ?_
    exact ret [(0, 0)] [.tmp 2] [_] [_] .ret hγ (.inl rfl) rfl ⟨rfl, trivial⟩ rfl ⟨rfl, trivial⟩ ⟨⟨_, rfl⟩, trivial⟩ ⟨⟨_, _, rfl, rfl, rci (rc_sl (ifs_map (f := u32) (fun _ => if_u32) t14.1))⟩, trivial⟩ (rns_cons (rn_id if_u64) (rns_nil)) rfl
theorem c_retrospectref07_Text {n : Nat} {x0 : (List Nat)} : ∀ r, m_retrospectref07_Text n x0 = some r → FnOk Tryd.prog 14 [sli 1 (List.map u32 x0)] [] (str r) [] := by
  unfold m_retrospectref07_Text
  refine fn_of_sq (res := fun (r : (List UInt8)) => str r) (mo := fun (r : (List UInt8)) => []) Tryd.func14 rfl rfl (by kernel_rfl) rfl ?_
  intro w S0 γ hγ
  refine sseq ?_
  refine sreg ?_
  refine s1 (asg rfl (kS (s := []) rfl)) ?_
  refine snil ?_
  refine pnm ?_
  refine sseq ?_
  refine sreg ?_
  refine s1 (mv rfl rfl) ?_
  refine bd fun r1 h2 => ?_
  refine so (callG (em := [(100, .sl 72 1 (List.map u32 r1))]) (res' := .own 100) [] [(100, 50)] [(100, 50)] (c_retrospectref02_Norm _ h2) ⟨⟨_, rfl, rn_id if_sli⟩, trivial⟩ (MiF.get (mi := []) trivial) trivial rfl ⟨rfl, trivial⟩ ⟨.inl rfl, trivial⟩ rfl ⟨.inl ⟨_, _, rfl, rfl, rc_sl (ifs_map (f := u32) (fun _ => if_u32) r1)⟩, trivial⟩ trivial ⟨⟨_, rfl⟩, trivial⟩ (rn_own rfl) rfl) ?_
  refine s1 (asg rfl rfl) ?_
  refine snil ?_
  refine pnm ?_
  refine sseq ?_
  refine sreg ?_
  refine s1 (asg rfl (kS (s := []) rfl)) ?_
  refine snil ?_
  refine pnm ?_
  refine sseq ?_
  refine sblk ?_
  refine sloopE 0 (fun t => t) (fun (s29 : (List Nat) × (List UInt8)) => [(2, str ([] : List UInt8)), (3, .own 100), (4, str s29.2)]) (fun (s29 : (List Nat) × (List UInt8)) => [(100, .sl 72 1 (List.map u32 s29.1))]) (fun (t27 : (List UInt8)) => [(2, str ([] : List UInt8)), (4, str t27)]) (fun (t27 : (List UInt8)) => []) (entR [(100, 100)] rfl (keepS hγ trivial) ⟨⟨_, rfl⟩, trivial⟩ ⟨⟨_, _, rfl, rfl, rci (rc_sl (ifs_map (f := u32) (fun _ => if_u32) r1))⟩, trivial⟩ ⟨⟨_, rfl, rn_id if_str⟩, ⟨_, rfl, rn_own rfl⟩, ⟨_, rfl, rn_id if_str⟩, trivial⟩) ?_ ?_
  · intro hj28 s29
    refine sseq ?_
    refine sjq (fun (s32 : Bool) => [(2, str ([] : List UInt8)), (3, .own 100), (4, str s29.2), (14, bl s32)]) (fun (s32 : Bool) => [(100, .sl 72 1 (List.map u32 s29.1))]) ?_ ?_
    · intro j30 hj31
      refine sreg ?_
      refine s1 (mv rfl rfl) ?_
      refine s1 (lenO (f := u32) Tryd.underlying23 rfl rfl rfl) ?_
      refine s1 (gtI rfl rfl (kI (x := 0) rfl)) ?_
      refine s1 (mv rfl rfl) ?_
      refine sifd 11 rfl ?_ ?_
      · refine spB 11 rfl rfl rfl ?_
        refine spB 11 rfl rfl rfl ?_
        refine s1 (pickT rfl rfl kB) ?_
        refine snil ?_
        refine pnm ?_
        exact sj (hj31 _) (entR [(100, 100)] rfl (keepS hγ trivial) ⟨⟨_, rfl⟩, trivial⟩ ⟨⟨_, _, rfl, rfl, rci (rc_sl (ifs_map (f := u32) (fun _ => if_u32) s29.1))⟩, trivial⟩ ⟨⟨_, rfl, rn_id if_str⟩, ⟨_, rfl, rn_own rfl⟩, ⟨_, rfl, rn_id if_str⟩, ⟨_, rfl, rn_id if_bl⟩, trivial⟩)
      · refine sg 11 rfl rfl (mv rfl rfl) ?_
        refine sg 11 rfl rfl (eqS rfl rfl (kS (s := []) rfl)) ?_
        refine s1 (pickF rfl rfl rfl) ?_
        refine snil ?_
        refine pnm ?_
        exact sj (hj31 _) (entR [(100, 100)] rfl (keepS hγ trivial) ⟨⟨_, rfl⟩, trivial⟩ ⟨⟨_, _, rfl, rfl, rci (rc_sl (ifs_map (f := u32) (fun _ => if_u32) s29.1))⟩, trivial⟩ ⟨⟨_, rfl, rn_id if_str⟩, ⟨_, rfl, rn_own rfl⟩, ⟨_, rfl, rn_id if_str⟩, ⟨_, rfl, rn_id if_bl⟩, trivial⟩)
    · intro s32
      refine scond rfl ?_ ?_
      · refine sskip ?_
        refine pnm ?_
        refine sblk ?_
        refine sseq ?_
        refine sreg ?_
        refine s1 (mv rfl rfl) ?_
        refine bd fun r33 h34 => ?_
        refine so (callG (em := [(100, .sl 72 1 (List.map u32 r33.2))]) (res' := u64 r33.1) [(0, 100)] [] [(100, 0)] (c_retrospectref07_ten _ h34) ⟨⟨_, rfl, rn_own rfl⟩, trivial⟩ (MiF.get (mi := [(0, _)]) ⟨⟨_, _, rfl, rfl, rc_sl (ifs_map (f := u32) (fun _ => if_u32) s29.1)⟩, trivial⟩) ⟨⟨_, rfl⟩, trivial⟩ rfl trivial ⟨.inr rfl, trivial⟩ rfl ⟨.inl ⟨_, _, rfl, rfl, rc_sl (ifs_map (f := u32) (fun _ => if_u32) r33.2)⟩, trivial⟩ ⟨⟨_, rfl⟩, trivial⟩ trivial (rn_id if_u64) rfl) ?_
        refine s1 (asg rfl rfl) ?_
        refine snil ?_
        refine pnm ?_
        refine sseq ?_
        refine sreg ?_
        refine s1 (mv rfl rfl) ?_
        refine s1 (mv rfl rfl) ?_
        refine s1 (addU uk64 rfl rfl (k64 (x := 1) rfl)) ?_
        refine bd fun y35 h36 => ?_
        refine s1 (slS h36 Tryd.underlying9 rfl (kS (s := [48, 49, 50, 51, 52, 53, 54, 55, 56, 57]) rfl) (bnd rfl) (bnd rfl)) ?_
        refine s1 (mv rfl rfl) ?_
        refine bd fun y37 h38 => ?_
        refine s1 (catStr h38 rfl rfl rfl) ?_
        refine s1 (asg rfl rfl) ?_
        refine snil ?_
        refine pnm ?_
        refine sreg ?_
        refine s1 (mv rfl rfl) ?_
        refine bd fun r39 h40 => ?_
        refine so (callL (em := [(101, .sl 72 1 (List.map u32 r39))]) (res' := .own 101) [100] [] [(101, 50)] [(101, 50)] rfl (c_retrospectref02_Norm _ h40) ⟨pls_map (f := u32) (fun _ => pl_u32) _, trivial⟩ (pl_own) ⟨.inr ⟨100, rfl, rfl, .inl ⟨_, _, _, rfl, ifs_map (f := u32) (fun _ => if_u32) r33.2, rfl⟩⟩, trivial⟩ (MiF.get (mi := []) trivial) trivial rfl ⟨rfl, trivial⟩ ⟨.inl rfl, trivial⟩ rfl ⟨.inl ⟨_, _, rfl, rfl, rc_sl (ifs_map (f := u32) (fun _ => if_u32) r39)⟩, trivial⟩ trivial ⟨⟨_, rfl⟩, trivial⟩ (rn_own rfl) rfl) ?_
        refine s1 (asg rfl rfl) ?_
        refine snil ?_
        refine pbn ?_
        exact sgo (entR [(100, 101)] rfl (keepS hγ trivial) ⟨⟨_, rfl⟩, trivial⟩ ⟨⟨_, _, rfl, rfl, rci (rc_sl (ifs_map (f := u32) (fun _ => if_u32) r39))⟩, trivial⟩ ⟨⟨_, rfl, rn_id if_str⟩, ⟨_, rfl, rn_own rfl⟩, ⟨_, rfl, rn_id if_str⟩, trivial⟩)
      · refine sexit ?_
        refine ptx ?_
        exact sout (fun h => by cases h) (sj (hj28 _) (entR [] rfl (keepS hγ trivial) (by exact trivial) (by exact trivial) ⟨⟨_, rfl, rn_id if_str⟩, ⟨_, rfl, rn_id if_str⟩, trivial⟩))
  · intro t27
    refine sx ?_
    refine pnm ?_
    refine sseq ?_
    refine sreg ?_
    refine s1 (mv rfl rfl) ?_
    refine s1 (asg rfl rfl) ?_
    refine snil ?_
    refine pnm ?_
    refine sret ?_
    exact ret [] [.tmp 2] [_] [_] .ret hγ (.inl rfl) rfl ⟨rfl, trivial⟩ rfl trivial trivial trivial (rns_cons (rn_id if_str) (rns_nil)) rfl
theorem c_digits_Len {n : Nat} {x0 : (List Nat)} : ∀ r, m_digits_Len n x0 = some r → FnOk Tryd.prog 16 [sli 1 (List.map u32 x0)] [] (i64 r) [] := by
  unfold m_digits_Len
  refine fn_of_sq (res := fun (r : Int) => i64 r) (mo := fun (r : Int) => []) Tryd.func16 rfl rfl (by kernel_rfl) rfl ?_
  intro w S0 γ hγ
  refine sseq ?_
  refine sreg ?_
  refine s1 (asg rfl (kI (x := 0) rfl)) ?_
  refine snil ?_
  refine pnm ?_
  refine sseq ?_
  refine sreg ?_
  refine s1 (mv rfl rfl) ?_
  refine bd fun r1 h2 => ?_
  refine s1 (call0 (c_digits_Text _ h2) ⟨⟨_, rfl, rn_id if_sli⟩, trivial⟩ (if_str) rfl) ?_
  refine s1 (lenS Tryd.underlying9 rfl rfl) ?_
  refine s1 (asg rfl rfl) ?_
  refine snil ?_
  refine pnm ?_
  refine sret ?_
  exact ret [] [.tmp 2] [_] [_] .ret hγ (.inl rfl) rfl ⟨rfl, trivial⟩ rfl trivial trivial trivial (rns_cons (rn_id if_i64) (rns_nil)) rfl
theorem c_retrospectlaw07_DigitsWrites {n : Nat} {x0 : (List Nat)} : ∀ r, m_retrospectlaw07_DigitsWrites n x0 = some r → FnOk Tryd.prog 4 [sli 1 (List.map u32 x0)] [] (bl r) [] := by
  unfold m_retrospectlaw07_DigitsWrites
  refine fn_of_sq (res := fun (r : Bool) => bl r) (mo := fun (r : Bool) => []) Tryd.func4 rfl rfl (by kernel_rfl) rfl ?_
  intro w S0 γ hγ
  refine sseq ?_
  refine sreg ?_
  refine s1 (asg rfl kB) ?_
  refine snil ?_
  refine pnm ?_
  refine sseq ?_
  refine sseq ?_
  refine sreg ?_
  refine s1 (mv rfl rfl) ?_
  refine s1 (lenL (f := u32) Tryd.underlying23 rfl rfl) ?_
  refine s1 (gtI rfl rfl (kI (x := 40) rfl)) ?_
  refine snil ?_
  refine pnm ?_
  refine scond rfl ?_ ?_
  · refine sseq ?_
    refine sreg ?_
    refine bd fun r1 h2 => ?_
    refine s1 (call0 (c_retrospectlaw07_works _ h2) trivial (if_bl) rfl) ?_
    refine s1 (asg rfl rfl) ?_
    refine snil ?_
    refine pnm ?_
    refine sret ?_
    refine pth ?_
    exact ret [] [.tmp 2] [_] [_] .ret hγ (.inl rfl) rfl ⟨rfl, trivial⟩ rfl trivial trivial trivial (rns_cons (rn_id if_bl) (rns_nil)) rfl
  · refine sskip ?_
    refine pnm ?_
    refine sseq ?_
    refine sreg ?_
    refine s1 (mv rfl rfl) ?_
    refine bd fun r3 h4 => ?_
    refine s1 (call0 (c_retrospectref07_Text _ h4) ⟨⟨_, rfl, rn_id if_sli⟩, trivial⟩ (if_str) rfl) ?_
    refine s1 (asg rfl rfl) ?_
    refine snil ?_
    refine pnm ?_
    refine sjq (fun (s13 : Bool) => [(2, bl s13)]) (fun (s13 : Bool) => []) ?_ ?_
    · intro j11 hj12
      refine sreg ?_
      refine s1 (mv rfl rfl) ?_
      refine bd fun r14 h15 => ?_
      refine s1 (call0 (c_digits_Text _ h15) ⟨⟨_, rfl, rn_id if_sli⟩, trivial⟩ (if_str) rfl) ?_
      refine s1 (mv rfl rfl) ?_
      refine s1 (eqS rfl rfl rfl) ?_
      refine s1 (mv rfl rfl) ?_
      refine sifd 14 rfl ?_ ?_
      · refine sg 14 rfl rfl (mv rfl rfl) ?_
        refine bd fun r16 h17 => ?_
        refine sg 14 rfl rfl (call0 (c_digits_Len _ h17) ⟨⟨_, rfl, rn_id if_sli⟩, trivial⟩ (if_i64) rfl) ?_
        refine sg 14 rfl rfl (mv rfl rfl) ?_
        refine sg 14 rfl rfl (lenS Tryd.underlying9 rfl rfl) ?_
        refine sg 14 rfl rfl (eqI rfl rfl rfl) ?_
        refine s1 (pickT rfl rfl rfl) ?_
        refine s1 (mv rfl rfl) ?_
        refine sifd 21 rfl ?_ ?_
        · refine bd fun r18 h19 => ?_
          refine sg 21 rfl rfl (call0 (c_retrospectlaw07_works _ h19) trivial (if_bl) rfl) ?_
          refine s1 (pickT rfl rfl rfl) ?_
          refine s1 (asg rfl rfl) ?_
          refine snil ?_
          refine pnm ?_
          exact sj (hj12 _) (entI ⟨rfl, trivial⟩ eqm0)
        · refine spB 21 rfl rfl rfl ?_
          refine s1 (pickF rfl rfl kB) ?_
          refine s1 (asg rfl rfl) ?_
          refine snil ?_
          refine pnm ?_
          exact sj (hj12 _) (entI ⟨rfl, trivial⟩ eqm0)
      · refine spB 14 rfl rfl rfl ?_
        refine spB 14 rfl rfl rfl ?_
        refine spB 14 rfl rfl rfl ?_
        refine spB 14 rfl rfl rfl ?_
        refine spB 14 rfl rfl rfl ?_
        refine s1 (pickF rfl rfl kB) ?_
        refine s1 (mv rfl rfl) ?_
        refine spB 21 rfl rfl rfl ?_
        refine s1 (pickF rfl rfl kB) ?_
        refine s1 (asg rfl rfl) ?_
        refine snil ?_
        refine pnm ?_
        exact sj (hj12 _) (entI ⟨rfl, trivial⟩ eqm0)
    · intro s13
      refine sret ?_
      exact ret [] [.tmp 2] [_] [_] .ret hγ (.inl rfl) rfl ⟨rfl, trivial⟩ rfl trivial trivial trivial (rns_cons (rn_id if_bl) (rns_nil)) rfl
theorem c_nat_Cmp {n : Nat} {x0 : (List Nat)} {x1 : (List Nat)} : ∀ r, m_nat_Cmp n x0 x1 = some r → FnOk Tryd.prog 17 [sli 1 (List.map u32 x0), sli 1 (List.map u32 x1)] [] (i64 r) [] := by
  unfold m_nat_Cmp
  refine fn_of_sq (res := fun (r : Int) => i64 r) (mo := fun (r : Int) => []) Tryd.func17 rfl rfl (by kernel_rfl) rfl ?_
  intro w S0 γ hγ
  refine sseq ?_
  refine sreg ?_
  refine s1 (asg rfl (kI (x := 0) rfl)) ?_
  refine snil ?_
  refine pnm ?_
  refine sseq ?_
  refine sreg ?_
  refine s1 (mv rfl rfl) ?_
  refine bd fun r1 h2 => ?_
  refine s1 (call0 (c_nat_trim _ h2) ⟨⟨_, rfl, rn_id if_sli⟩, trivial⟩ (if_sli) rfl) ?_
  refine s1 (mv rfl rfl) ?_
  refine bd fun r3 h4 => ?_
  refine s1 (call0 (c_nat_trim _ h4) ⟨⟨_, rfl, rn_id if_sli⟩, trivial⟩ (if_sli) rfl) ?_
  refine s1 (asg rfl rfl) ?_
  refine s1 (asg rfl rfl) ?_
  refine snil ?_
  refine pnm ?_
  refine sseq ?_
  refine sblk ?_
  refine sseq ?_
  refine sreg ?_
  refine s1 (mv rfl rfl) ?_
  refine s1 (lenL (f := u32) Tryd.underlying23 rfl rfl) ?_
  refine s1 (mv rfl rfl) ?_
  refine s1 (lenL (f := u32) Tryd.underlying23 rfl rfl) ?_
  refine s1 (ltI rfl rfl rfl) ?_
  refine s1 (asg rfl rfl) ?_
  refine snil ?_
  refine pnm ?_
  refine scond rfl ?_ ?_
  · refine sseq ?_
    refine sreg ?_
    refine s1 (asg rfl (kI (x := (-1)) rfl)) ?_
    refine snil ?_
    refine pnm ?_
    refine sret ?_
    refine pbl ?_
    refine pth ?_
    exact ret [] [.tmp 4] [_] [_] .ret hγ (.inl rfl) rfl ⟨rfl, trivial⟩ rfl trivial trivial trivial (rns_cons (rn_id if_i64) (rns_nil)) rfl
  · refine sseq ?_
    refine sreg ?_
    refine s1 (mv rfl rfl) ?_
    refine s1 (lenL (f := u32) Tryd.underlying23 rfl rfl) ?_
    refine s1 (mv rfl rfl) ?_
    refine s1 (lenL (f := u32) Tryd.underlying23 rfl rfl) ?_
    refine s1 (gtI rfl rfl rfl) ?_
    refine s1 (asg rfl rfl) ?_
    refine snil ?_
    refine pnm ?_
    refine scond rfl ?_ ?_
    · refine sseq ?_
      refine sreg ?_
      refine s1 (asg rfl (kI (x := 1) rfl)) ?_
      refine snil ?_
      refine pnm ?_
      refine sret ?_
      refine pbl ?_
      refine pth ?_
      exact ret [] [.tmp 4] [_] [_] .ret hγ (.inl rfl) rfl ⟨rfl, trivial⟩ rfl trivial trivial trivial (rns_cons (rn_id if_i64) (rns_nil)) rfl
    · refine sskip ?_
      refine pbn ?_
      refine pnm ?_
      refine sseq ?_
      refine sseq ?_
      refine sreg ?_
      refine s1 (mv rfl rfl) ?_
      refine s1 (lenL (f := u32) Tryd.underlying23 rfl rfl) ?_
      refine s1 (subI rfl rfl (kI (x := 1) rfl)) ?_
      refine s1 (asg rfl rfl) ?_
      refine snil ?_
      refine pnm ?_
      refine sblk ?_
      refine sloopE 1 Lp.go (fun (s25 : Int) => [(0, sli 1 (List.map u32 r1)), (1, sli 1 (List.map u32 r3)), (4, i64 (0 : Int)), (5, i64 s25)]) (fun (s25 : Int) => []) (fun (t23 : Unit) => [(4, i64 (0 : Int))]) (fun (t23 : Unit) => []) (entI ⟨rfl, rfl, rfl, rfl, trivial⟩ eqm0) ?_ ?_
      · intro hj24 s25
        refine sseq ?_
        refine sseq ?_
        refine sreg ?_
        refine s1 (mv rfl rfl) ?_
        refine s1 (geI rfl rfl (kI (x := 0) rfl)) ?_
        refine snil ?_
        refine pnm ?_
        refine scond rfl ?_ ?_
        · refine sskip ?_
          refine pnm ?_
          refine sseq ?_
          refine sblk ?_
          refine sblk ?_
          refine sseq ?_
          refine bd fun y26 h27 => ?_
          refine bd fun y28 h29 => ?_
          refine sdraw [⟨[0], [], [(30, sli 1 (List.map u32 r1))], []⟩, ⟨[5], [], [(31, i64 s25)], []⟩, ⟨[30, 31], [], [(32, .ref (u32 y26))], []⟩, ⟨[32], [], [(33, u32 y26)], []⟩, ⟨[1], [], [(34, sli 1 (List.map u32 r3))], []⟩, ⟨[5], [], [(35, i64 s25)], []⟩, ⟨[34, 35], [], [(36, .ref (u32 y28))], []⟩, ⟨[36], [], [(37, u32 y28)], []⟩, ⟨[33, 37], [], [(38, bl (decide (y26 < y28)))], []⟩, ⟨[38], [], [(29, bl (decide (y26 < y28)))], []⟩] fol (by kernel_rfl) ⟨fun st mm ⟨a0, _⟩ _ => og (mv rfl (a0.trans rfl)), fun st mm ⟨a5, _⟩ _ => og (mv rfl (a5.trans rfl)), fun st mm ⟨a30, a31, _⟩ _ => og (ixR (f := u32) Tryd.underlying23 ti_72 h27 rfl (a30.trans rfl) (a31.trans rfl)), fun st mm ⟨a32, _⟩ _ => og (ldR sh_72 (by exact rfl) (by exact rfl) rfl (a32.trans rfl)), fun st mm ⟨a1, _⟩ _ => og (mv rfl (a1.trans rfl)), fun st mm ⟨a5, _⟩ _ => og (mv rfl (a5.trans rfl)), fun st mm ⟨a34, a35, _⟩ _ => og (ixR (f := u32) Tryd.underlying23 ti_72 h29 rfl (a34.trans rfl) (a35.trans rfl)), fun st mm ⟨a36, _⟩ _ => og (ldR sh_72 (by exact rfl) (by exact rfl) rfl (a36.trans rfl)), fun st mm ⟨a33, a37, _⟩ _ => og (ltU .u32 rfl (a33.trans rfl) (a37.trans rfl)), fun st mm ⟨a38, _⟩ _ => og (asg rfl (a38.trans rfl)), trivial⟩ ?_
          refine pnm ?_
          refine scond rfl ?_ ?_
          · refine sseq ?_
            refine sreg ?_
            refine s1 (asg rfl (kI (x := (-1)) rfl)) ?_
            refine snil ?_
            refine pnm ?_
            refine sret ?_
            refine pbl ?_
            refine pbl ?_
            refine pth ?_
            refine sout (fun h => by cases h) ?_
            refine pbl ?_
            refine pth ?_
            exact ret [] [.tmp 4] [_] [_] .ret hγ (.inl rfl) rfl ⟨rfl, trivial⟩ rfl trivial trivial trivial (rns_cons (rn_id if_i64) (rns_nil)) rfl
          · refine sseq ?_
            refine bd fun y30 h31 => ?_
            refine bd fun y32 h33 => ?_
            refine sdraw [⟨[0], [], [(40, sli 1 (List.map u32 r1))], []⟩, ⟨[5], [], [(41, i64 s25)], []⟩, ⟨[40, 41], [], [(42, .ref (u32 y30))], []⟩, ⟨[42], [], [(43, u32 y30)], []⟩, ⟨[1], [], [(44, sli 1 (List.map u32 r3))], []⟩, ⟨[5], [], [(45, i64 s25)], []⟩, ⟨[44, 45], [], [(46, .ref (u32 y32))], []⟩, ⟨[46], [], [(47, u32 y32)], []⟩, ⟨[43, 47], [], [(48, bl (decide (y32 < y30)))], []⟩, ⟨[48], [], [(39, bl (decide (y32 < y30)))], []⟩] fol (by kernel_rfl) ⟨fun st mm ⟨a0, _⟩ _ => og (mv rfl (a0.trans rfl)), fun st mm ⟨a5, _⟩ _ => og (mv rfl (a5.trans rfl)), fun st mm ⟨a40, a41, _⟩ _ => og (ixR (f := u32) Tryd.underlying23 ti_72 h31 rfl (a40.trans rfl) (a41.trans rfl)), fun st mm ⟨a42, _⟩ _ => og (ldR sh_72 (by exact rfl) (by exact rfl) rfl (a42.trans rfl)), fun st mm ⟨a1, _⟩ _ => og (mv rfl (a1.trans rfl)), fun st mm ⟨a5, _⟩ _ => og (mv rfl (a5.trans rfl)), fun st mm ⟨a44, a45, _⟩ _ => og (ixR (f := u32) Tryd.underlying23 ti_72 h33 rfl (a44.trans rfl) (a45.trans rfl)), fun st mm ⟨a46, _⟩ _ => og (ldR sh_72 (by exact rfl) (by exact rfl) rfl (a46.trans rfl)), fun st mm ⟨a43, a47, _⟩ _ => og (gtU .u32 rfl (a43.trans rfl) (a47.trans rfl)), fun st mm ⟨a48, _⟩ _ => og (asg rfl (a48.trans rfl)), trivial⟩ ?_
            refine pnm ?_
            refine scond rfl ?_ ?_
            · refine sseq ?_
              refine sreg ?_
              refine s1 (asg rfl (kI (x := 1) rfl)) ?_
              refine snil ?_
              refine pnm ?_
              refine sret ?_
              refine pbl ?_
              refine pbl ?_
              refine pth ?_
              refine sout (fun h => by cases h) ?_
              refine pbl ?_
              refine pth ?_
              exact ret [] [.tmp 4] [_] [_] .ret hγ (.inl rfl) rfl ⟨rfl, trivial⟩ rfl trivial trivial trivial (rns_cons (rn_id if_i64) (rns_nil)) rfl
            · refine sskip ?_
              refine pbn ?_
              refine pbn ?_
              refine pnm ?_
              refine sreg ?_
              refine s1 (mv rfl rfl) ?_
              refine s1 (subI rfl rfl (kI (x := 1) rfl)) ?_
              refine s1 (asg rfl rfl) ?_
              refine snil ?_
              exact sgo (entI ⟨rfl, rfl, rfl, rfl, trivial⟩ eqm0)
        · refine sexit ?_
          refine ptx ?_
          exact sout (fun h => by cases h) (sj (hj24 _) (entI ⟨rfl, trivial⟩ eqm0))
      · intro t23
        refine slpk ?_
        refine sx ?_
        refine pnm ?_
        refine sseq ?_
        refine sreg ?_
        refine s1 (asg rfl (kI (x := 0) rfl)) ?_
        refine snil ?_
        refine pnm ?_
        refine sret ?_
        exact ret [] [.tmp 4] [_] [_] .ret hγ (.inl rfl) rfl ⟨rfl, trivial⟩ rfl trivial trivial trivial (rns_cons (rn_id if_i64) (rns_nil)) rfl
theorem c_retrospectref07_Trim {n : Nat} {x0 : (List UInt8)} : ∀ r, m_retrospectref07_Trim n x0 = some r → FnOk Tryd.prog 18 [str x0] [] (str r) [] := by
  unfold m_retrospectref07_Trim
  refine fn_of_sq (res := fun (r : (List UInt8)) => str r) (mo := fun (r : (List UInt8)) => []) Tryd.func18 rfl rfl (by kernel_rfl) rfl ?_
  intro w S0 γ hγ
  refine sseq ?_
  refine sreg ?_
  refine s1 (asg rfl (kS (s := []) rfl)) ?_
  refine snil ?_
  refine pnm ?_
  refine sseq ?_
  refine sblk ?_
  refine sloopE 0 (fun t => t) (fun (s23 : (List UInt8)) => [(0, str s23), (2, str ([] : List UInt8))]) (fun (s23 : (List UInt8)) => []) (fun (t21 : (List UInt8)) => [(0, str t21), (2, str ([] : List UInt8))]) (fun (t21 : (List UInt8)) => []) (entI ⟨rfl, rfl, trivial⟩ eqm0) ?_ ?_
  · intro hj22 s23
    refine sseq ?_
    refine sjq (fun (s28 : Bool) => [(0, str s23), (2, str ([] : List UInt8)), (10, bl s28)]) (fun (s28 : Bool) => []) ?_ ?_
    · intro j26 hj27
      refine sreg ?_
      refine s1 (mv rfl rfl) ?_
      refine s1 (lenS Tryd.underlying9 rfl rfl) ?_
      refine s1 (gtI rfl rfl (kI (x := 1) rfl)) ?_
      refine s1 (mv rfl rfl) ?_
      refine sifd 6 rfl ?_ ?_
      · refine sg 6 rfl rfl (mv rfl rfl) ?_
        refine bd fun y29 h30 => ?_
        refine sg 6 rfl rfl (ixS Tryd.underlying9 h30 rfl rfl (kI (x := 0) rfl)) ?_
        refine sg 6 rfl rfl (eqU .u8 rfl rfl (k8 (x := 48) rfl)) ?_
        refine s1 (pickT rfl rfl rfl) ?_
        refine snil ?_
        refine pnm ?_
        exact sj (hj27 _) (entI ⟨rfl, rfl, rfl, trivial⟩ eqm0)
      · refine spB 6 rfl rfl rfl ?_
        refine spB 6 rfl rfl rfl ?_
        refine spB 6 rfl rfl rfl ?_
        refine s1 (pickF rfl rfl kB) ?_
        refine snil ?_
        refine pnm ?_
        exact sj (hj27 _) (entI ⟨rfl, rfl, rfl, trivial⟩ eqm0)
    · intro s28
      refine scond rfl ?_ ?_
      · refine sskip ?_
        refine pnm ?_
        refine sblk ?_
        refine sreg ?_
        refine s1 (mv rfl rfl) ?_
        refine bd fun y31 h32 => ?_
        refine s1 (slS h32 Tryd.underlying9 rfl rfl (bnd (kI (x := 1) rfl)) bnd0) ?_
        refine s1 (asg rfl rfl) ?_
        refine snil ?_
        refine pbn ?_
        exact sgo (entI ⟨rfl, rfl, trivial⟩ eqm0)
      · refine sexit ?_
        refine ptx ?_
        exact sout (fun h => by cases h) (sj (hj22 _) (entI ⟨rfl, rfl, trivial⟩ eqm0))
  · intro t21
    refine sx ?_
    refine pnm ?_
    refine sseq ?_
    refine sreg ?_
    refine s1 (mv rfl rfl) ?_
    refine s1 (asg rfl rfl) ?_
    refine snil ?_
    refine pnm ?_
    refine sret ?_
    exact ret [] [.tmp 2] [_] [_] .ret hγ (.inl rfl) rfl ⟨rfl, trivial⟩ rfl trivial trivial trivial (rns_cons (rn_id if_str) (rns_nil)) rfl
theorem c_retrospectlaw07_DigitsBack {n : Nat} {x0 : (List Nat)} {x1 : (List UInt8)} : ∀ r, m_retrospectlaw07_DigitsBack n x0 x1 = some r → FnOk Tryd.prog 5 [sli 1 (List.map u32 x0), str x1] [] (bl r) [] := by
  unfold m_retrospectlaw07_DigitsBack
  refine fn_of_sq (res := fun (r : Bool) => bl r) (mo := fun (r : Bool) => []) Tryd.func5 rfl rfl (by kernel_rfl) rfl ?_
  intro w S0 γ hγ
  refine sseq ?_
  refine sreg ?_
  refine s1 (asg rfl kB) ?_
  refine snil ?_
  refine pnm ?_
  refine sseq ?_
  refine sjq (fun (s3 : Bool) => [(0, sli 1 (List.map u32 x0)), (1, str x1), (4, bl false), (17, bl s3)]) (fun (s3 : Bool) => []) ?_ ?_
  · intro j1 hj2
    refine sreg ?_
    refine s1 (mv rfl rfl) ?_
    refine s1 (lenL (f := u32) Tryd.underlying23 rfl rfl) ?_
    refine s1 (gtI rfl rfl (kI (x := 8) rfl)) ?_
    refine s1 (mv rfl rfl) ?_
    refine sifd 13 rfl ?_ ?_
    · refine spB 13 rfl rfl rfl ?_
      refine spB 13 rfl rfl rfl ?_
      refine spB 13 rfl rfl rfl ?_
      refine s1 (pickT rfl rfl kB) ?_
      refine snil ?_
      refine pnm ?_
      exact sj (hj2 _) (entI ⟨rfl, rfl, rfl, rfl, trivial⟩ eqm0)
    · refine sg 13 rfl rfl (mv rfl rfl) ?_
      refine sg 13 rfl rfl (lenS Tryd.underlying9 rfl rfl) ?_
      refine sg 13 rfl rfl (gtI rfl rfl (kI (x := 200) rfl)) ?_
      refine s1 (pickF rfl rfl rfl) ?_
      refine snil ?_
      refine pnm ?_
      exact sj (hj2 _) (entI ⟨rfl, rfl, rfl, rfl, trivial⟩ eqm0)
  · intro s3
    refine scond rfl ?_ ?_
    · refine sseq ?_
      refine sreg ?_
      refine bd fun r4 h5 => ?_
      refine s1 (call0 (c_retrospectlaw07_works _ h5) trivial (if_bl) rfl) ?_
      refine s1 (asg rfl rfl) ?_
      refine snil ?_
      refine pnm ?_
      refine sret ?_
      refine pth ?_
      exact ret [] [.tmp 4] [_] [_] .ret hγ (.inl rfl) rfl ⟨rfl, trivial⟩ rfl trivial trivial trivial (rns_cons (rn_id if_bl) (rns_nil)) rfl
    · refine sskip ?_
      refine pnm ?_
      refine sseq ?_
      refine sreg ?_
      refine s1 (mv rfl rfl) ?_
      refine bd fun r6 h7 => ?_
      refine s1 (call0 (c_digits_Text _ h7) ⟨⟨_, rfl, rn_id if_sli⟩, trivial⟩ (if_str) rfl) ?_
      refine s1 (asg rfl rfl) ?_
      refine snil ?_
      refine pnm ?_
      refine sseq ?_
      refine sreg ?_
      refine s1 (mv rfl rfl) ?_
      refine bd fun r8 h9 => ?_
      refine s1 (call0 (c_digits_Read _ h9) ⟨⟨_, rfl, rn_id if_str⟩, trivial⟩ (if_tup (ifs_cons if_sli (ifs_cons if_L_api_Fault (ifs_nil)))) rfl) ?_
      refine s1 (mv rfl rfl) ?_
      refine s1 (ext (by exact rfl) rfl rfl) ?_
      refine s1 (ext (by exact rfl) rfl rfl) ?_
      refine so (al (y := 100) (ly := L_api_Fault (⟨0, 0, 0, 0⟩ : M_api_Fault)) ti_25 zr_api_Fault rfl rfl) ?_
      refine s1 (asg rfl rfl) ?_
      refine so (stB2 (ly2 := L_api_Fault r8.2) [] (by exact rfl) rfl (by exact rfl) sh_25 (by exact rfl) (by exact rfl) (by exact rfl) rfl (.inr ⟨rfl, rfl, _, _, rfl⟩) rfl) ?_
      refine snil ?_
      refine pnm ?_
      refine sseq ?_
      refine sjq (fun (s14 : Bool) => [(1, str x1), (4, bl false), (49, bl s14)]) (fun (s14 : Bool) => []) ?_ ?_
      · intro j12 hj13
        refine sreg ?_
        refine s1 (mv rfl rfl) ?_
        refine s1 (lenS Tryd.underlying9 rfl rfl) ?_
        refine s1 (leI rfl rfl (kI (x := 60) rfl)) ?_
        refine s1 (mv rfl rfl) ?_
        refine sifd 29 rfl ?_ ?_
        · refine sg 29 rfl rfl (ldB [] rfl rfl sh_25 (by exact rfl) (by exact rfl) rfl rfl (.inr ⟨rfl, rfl, _, _, rfl⟩)) ?_
          refine sg 29 rfl rfl (bld (l := [i64 0, i64 0, i64 0, i64 0]) pl_25 ti_25 zr_api_Fault rfl rfl) ?_
          refine sg 29 rfl rfl (neA (p := (r8.2 : M_api_Fault)) (q := ((⟨0, 0, 0, 0⟩ : M_api_Fault) : M_api_Fault)) eq_25_2 rfl eg_25 rfl rfl rfl) ?_
          refine sg 29 rfl rfl (mv rfl rfl) ?_
          refine sifd 33 rfl ?_ ?_
          · refine spB 33 rfl rfl rfl ?_
            refine spB 33 rfl rfl rfl ?_
            refine spB 33 rfl rfl rfl ?_
            refine spB 33 rfl rfl rfl ?_
            refine sg 29 rfl rfl (pickT rfl rfl kB) ?_
            refine s1 (pickT rfl rfl rfl) ?_
            refine s1 (mv rfl rfl) ?_
            refine spB 40 rfl rfl rfl ?_
            refine spB 40 rfl rfl rfl ?_
            refine spB 40 rfl rfl rfl ?_
            refine spB 40 rfl rfl rfl ?_
            refine spU 44 rfl rfl rfl ?_
            refine spU 44 rfl rfl rfl ?_
            refine spU 44 rfl rfl rfl ?_
            refine spB 40 rfl rfl rfl ?_
            refine s1 (pickT rfl rfl kB) ?_
            refine snil ?_
            refine pnm ?_
            exact sj (hj13 _) (entR [] rfl (keepS hγ trivial) (by exact trivial) (by exact trivial) ⟨⟨_, rfl, rn_id if_str⟩, ⟨_, rfl, rn_id if_bl⟩, ⟨_, rfl, rn_id if_bl⟩, trivial⟩)
          · refine sg 33 rfl rfl (mv rfl rfl) ?_
            refine sg 33 rfl rfl (mv rfl rfl) ?_
            refine bd fun r15 h16 => ?_
            refine sg 33 rfl rfl (call0 (c_nat_Cmp _ h16) ⟨⟨_, rfl, rn_id if_sli⟩, ⟨_, rfl, rn_id if_sli⟩, trivial⟩ (if_i64) rfl) ?_
            refine sg 33 rfl rfl (neI rfl rfl (kI (x := 0) rfl)) ?_
            refine sg 29 rfl rfl (pickF rfl rfl rfl) ?_
            refine s1 (pickT rfl rfl rfl) ?_
            refine s1 (mv rfl rfl) ?_
            refine sifd 40 rfl ?_ ?_
            · refine spB 40 rfl rfl rfl ?_
              refine spB 40 rfl rfl rfl ?_
              refine spB 40 rfl rfl rfl ?_
              refine spB 40 rfl rfl rfl ?_
              refine spU 44 rfl rfl rfl ?_
              refine spU 44 rfl rfl rfl ?_
              refine spU 44 rfl rfl rfl ?_
              refine spB 40 rfl rfl rfl ?_
              refine s1 (pickT rfl rfl kB) ?_
              refine snil ?_
              refine pnm ?_
              exact sj (hj13 _) (entR [] rfl (keepS hγ trivial) (by exact trivial) (by exact trivial) ⟨⟨_, rfl, rn_id if_str⟩, ⟨_, rfl, rn_id if_bl⟩, ⟨_, rfl, rn_id if_bl⟩, trivial⟩)
            · refine sg 40 rfl rfl (mv rfl rfl) ?_
              refine sg 40 rfl rfl (lenS Tryd.underlying9 rfl rfl) ?_
              refine sg 40 rfl rfl (gtI rfl rfl (kI (x := 60) rfl)) ?_
              refine sg 40 rfl rfl (mv rfl rfl) ?_
              refine sifd 44 rfl ?_ ?_
              · refine sg 44 rfl rfl (ldB [] rfl rfl sh_25 (by exact rfl) (by exact rfl) rfl rfl (.inr ⟨rfl, rfl, _, _, rfl⟩)) ?_
                refine sg 44 rfl rfl (bld (l := [i64 (1 : Int), i64 0, i64 0, i64 (60 : Int)]) pl_25 ti_25 zr_api_Fault ⟨_, _, _, (kI (x := 1) rfl), rfl, rfl, rfl, (szk (k := 1) rfl rfl), ⟨_, _, _, (kI (x := 60) rfl), rfl, rfl, rfl, (szk (k := 1) rfl rfl), rfl⟩⟩ rfl) ?_
                refine sg 44 rfl rfl (neA (p := (r8.2 : M_api_Fault)) (q := ((⟨(1 : Int), 0, 0, (60 : Int)⟩ : M_api_Fault) : M_api_Fault)) eq_25_2 rfl eg_25 rfl rfl rfl) ?_
                refine sg 40 rfl rfl (pickT rfl rfl rfl) ?_
                refine s1 (pickF rfl rfl rfl) ?_
                refine snil ?_
                refine pnm ?_
                exact sj (hj13 _) (entR [] rfl (keepS hγ trivial) (by exact trivial) (by exact trivial) ⟨⟨_, rfl, rn_id if_str⟩, ⟨_, rfl, rn_id if_bl⟩, ⟨_, rfl, rn_id if_bl⟩, trivial⟩)
              · refine spB 44 rfl rfl rfl ?_
                refine spB 44 rfl rfl rfl ?_
                refine spB 44 rfl rfl rfl ?_
                refine sg 40 rfl rfl (pickF rfl rfl kB) ?_
                refine s1 (pickF rfl rfl rfl) ?_
                refine snil ?_
                refine pnm ?_
                exact sj (hj13 _) (entR [] rfl (keepS hγ trivial) (by exact trivial) (by exact trivial) ⟨⟨_, rfl, rn_id if_str⟩, ⟨_, rfl, rn_id if_bl⟩, ⟨_, rfl, rn_id if_bl⟩, trivial⟩)
        · refine spB 29 rfl rfl rfl ?_
          refine spB 29 rfl rfl rfl ?_
          refine spB 29 rfl rfl rfl ?_
          refine spB 29 rfl rfl rfl ?_
          refine spU 33 rfl rfl rfl ?_
          refine spU 33 rfl rfl rfl ?_
          refine spU 33 rfl rfl rfl ?_
          refine spU 33 rfl rfl rfl ?_
          refine spB 29 rfl rfl rfl ?_
          refine s1 (pickF rfl rfl kB) ?_
          refine s1 (mv rfl rfl) ?_
          refine sg 40 rfl rfl (mv rfl rfl) ?_
          refine sg 40 rfl rfl (lenS Tryd.underlying9 rfl rfl) ?_
          refine sg 40 rfl rfl (gtI rfl rfl (kI (x := 60) rfl)) ?_
          refine sg 40 rfl rfl (mv rfl rfl) ?_
          refine sifd 44 rfl ?_ ?_
          · refine sg 44 rfl rfl (ldB [] rfl rfl sh_25 (by exact rfl) (by exact rfl) rfl rfl (.inr ⟨rfl, rfl, _, _, rfl⟩)) ?_
            refine sg 44 rfl rfl (bld (l := [i64 (1 : Int), i64 0, i64 0, i64 (60 : Int)]) pl_25 ti_25 zr_api_Fault ⟨_, _, _, (kI (x := 1) rfl), rfl, rfl, rfl, (szk (k := 1) rfl rfl), ⟨_, _, _, (kI (x := 60) rfl), rfl, rfl, rfl, (szk (k := 1) rfl rfl), rfl⟩⟩ rfl) ?_
            refine sg 44 rfl rfl (neA (p := (r8.2 : M_api_Fault)) (q := ((⟨(1 : Int), 0, 0, (60 : Int)⟩ : M_api_Fault) : M_api_Fault)) eq_25_2 rfl eg_25 rfl rfl rfl) ?_
            refine sg 40 rfl rfl (pickT rfl rfl rfl) ?_
            refine s1 (pickF rfl rfl rfl) ?_
            refine snil ?_
            refine pnm ?_
            exact sj (hj13 _) (entR [] rfl (keepS hγ trivial) (by exact trivial) (by exact trivial) ⟨⟨_, rfl, rn_id if_str⟩, ⟨_, rfl, rn_id if_bl⟩, ⟨_, rfl, rn_id if_bl⟩, trivial⟩)
          · refine spB 44 rfl rfl rfl ?_
            refine spB 44 rfl rfl rfl ?_
            refine spB 44 rfl rfl rfl ?_
            refine sg 40 rfl rfl (pickF rfl rfl kB) ?_
            refine s1 (pickF rfl rfl rfl) ?_
            refine snil ?_
            refine pnm ?_
            exact sj (hj13 _) (entR [] rfl (keepS hγ trivial) (by exact trivial) (by exact trivial) ⟨⟨_, rfl, rn_id if_str⟩, ⟨_, rfl, rn_id if_bl⟩, ⟨_, rfl, rn_id if_bl⟩, trivial⟩)
      · intro s14
        refine scond rfl ?_ ?_
        · refine sseq ?_
          refine sreg ?_
          refine s1 (asg rfl kB) ?_
          refine snil ?_
          refine pnm ?_
          refine sret ?_
          refine pth ?_
          exact ret [] [.tmp 4] [_] [_] .ret hγ (.inl rfl) rfl ⟨rfl, trivial⟩ rfl trivial trivial trivial (rns_cons (rn_id if_bl) (rns_nil)) rfl
        · refine sskip ?_
          refine pnm ?_
          refine sseq ?_
          refine sreg ?_
          refine s1 (mv rfl rfl) ?_
          refine bd fun r17 h18 => ?_
          refine s1 (call0 (c_digits_Read _ h18) ⟨⟨_, rfl, rn_id if_str⟩, trivial⟩ (if_tup (ifs_cons if_sli (ifs_cons if_L_api_Fault (ifs_nil)))) rfl) ?_
          refine s1 (mv rfl rfl) ?_
          refine s1 (ext (by exact rfl) rfl rfl) ?_
          refine s1 (ext (by exact rfl) rfl rfl) ?_
          refine so (al (y := 101) (ly := L_api_Fault (⟨0, 0, 0, 0⟩ : M_api_Fault)) ti_25 zr_api_Fault rfl rfl) ?_
          refine s1 (asg rfl rfl) ?_
          refine so (stB2 (ly2 := L_api_Fault r17.2) [] (by exact rfl) rfl (by exact rfl) sh_25 (by exact rfl) (by exact rfl) (by exact rfl) rfl (.inr ⟨rfl, rfl, _, _, rfl⟩) rfl) ?_
          refine snil ?_
          refine pnm ?_
          refine sjq (fun (s29 : Bool) => [(4, bl s29)]) (fun (s29 : Bool) => []) ?_ ?_
          · intro j27 hj28
            refine sreg ?_
            refine s1 (faO rfl fd_25_0 rfl rfl) ?_
            refine s1 (ldB [0] rfl (by exact rfl) sh_3 (by exact rfl) (by exact rfl) rfl rfl (.inl rfl)) ?_
            refine s1 (neI rfl rfl (kI (x := 0) rfl)) ?_
            refine s1 (mv rfl rfl) ?_
            refine sifd 58 rfl ?_ ?_
            · refine spB 58 rfl rfl rfl ?_
              refine spB 58 rfl rfl rfl ?_
              refine spB 58 rfl rfl rfl ?_
              refine spB 58 rfl rfl rfl ?_
              refine spB 58 rfl rfl rfl ?_
              refine s1 (pickT rfl rfl kB) ?_
              refine s1 (mv rfl rfl) ?_
              refine bd fun r30 h31 => ?_
              refine sg 65 rfl rfl (call0 (c_retrospectlaw07_works _ h31) trivial (if_bl) rfl) ?_
              refine s1 (pickT rfl rfl rfl) ?_
              refine s1 (asg rfl rfl) ?_
              refine snil ?_
              refine pnm ?_
              exact sj (hj28 _) (entR [] rfl (keepS hγ trivial) (by exact trivial) (by exact trivial) ⟨⟨_, rfl, rn_id if_bl⟩, trivial⟩)
            · refine sg 58 rfl rfl (mv rfl rfl) ?_
              refine bd fun r32 h33 => ?_
              refine sg 58 rfl rfl (call0 (c_digits_Text _ h33) ⟨⟨_, rfl, rn_id if_sli⟩, trivial⟩ (if_str) rfl) ?_
              refine sg 58 rfl rfl (mv rfl rfl) ?_
              refine bd fun r34 h35 => ?_
              refine sg 58 rfl rfl (call0 (c_retrospectref07_Trim _ h35) ⟨⟨_, rfl, rn_id if_str⟩, trivial⟩ (if_str) rfl) ?_
              refine sg 58 rfl rfl (eqS rfl rfl rfl) ?_
              refine s1 (pickF rfl rfl rfl) ?_
              refine s1 (mv rfl rfl) ?_
              refine sifd 65 rfl ?_ ?_
              · refine bd fun r36 h37 => ?_
                refine sg 65 rfl rfl (call0 (c_retrospectlaw07_works _ h37) trivial (if_bl) rfl) ?_
                refine s1 (pickT rfl rfl rfl) ?_
                refine s1 (asg rfl rfl) ?_
                refine snil ?_
                refine pnm ?_
                exact sj (hj28 _) (entR [] rfl (keepS hγ trivial) (by exact trivial) (by exact trivial) ⟨⟨_, rfl, rn_id if_bl⟩, trivial⟩)
              · refine spB 65 rfl rfl rfl ?_
                refine s1 (pickF rfl rfl kB) ?_
                refine s1 (asg rfl rfl) ?_
                refine snil ?_
                refine pnm ?_
                exact sj (hj28 _) (entR [] rfl (keepS hγ trivial) (by exact trivial) (by exact trivial) ⟨⟨_, rfl, rn_id if_bl⟩, trivial⟩)
          · intro s29
            refine sret ?_
            exact ret [] [.tmp 4] [_] [_] .ret hγ (.inl rfl) rfl ⟨rfl, trivial⟩ rfl trivial trivial trivial (rns_cons (rn_id if_bl) (rns_nil)) rfl
theorem c_retrospectref17_Long {n : Nat} {x0 : (List M_retrospectref17_Node)} {x1 : Int} {x2 : Int} : ∀ r, m_retrospectref17_Long n x0 x1 x2 = some r → FnOk Tryd.prog 25 [sli 3 (List.map L_retrospectref17_Node x0), i64 x1, i64 x2] [] (bl r) [] := by
  unfold m_retrospectref17_Long
  refine fn_of_sq (res := fun (r : Bool) => bl r) (mo := fun (r : Bool) => []) Tryd.func25 rfl rfl (by kernel_rfl) rfl ?_
  intro w S0 γ hγ
  refine sseq ?_
  refine sreg ?_
  refine s1 (asg rfl kB) ?_
  refine snil ?_
  refine pnm ?_
  refine sseq ?_
  refine sseq ?_
  refine sreg ?_
  refine s1 (asg rfl (kI (x := 0) rfl)) ?_
  refine snil ?_
  refine pnm ?_
  refine sblk ?_
  refine sloopE 0 Lp.go (fun (s15 : Int) => [(0, sli 3 (List.map L_retrospectref17_Node x0)), (1, i64 x1), (2, i64 x2), (6, bl false), (7, i64 s15)]) (fun (s15 : Int) => []) (fun (t13 : Unit) => [(0, sli 3 (List.map L_retrospectref17_Node x0)), (1, i64 x1), (6, bl false)]) (fun (t13 : Unit) => []) (entI ⟨rfl, rfl, rfl, rfl, rfl, trivial⟩ eqm0) ?_ ?_
  · intro hj14 s15
    refine sseq ?_
    refine sjq (fun (s18 : Bool) => [(0, sli 3 (List.map L_retrospectref17_Node x0)), (1, i64 x1), (2, i64 x2), (6, bl false), (7, i64 s15), (16, bl s18)]) (fun (s18 : Bool) => []) ?_ ?_
    · intro j16 hj17
      refine sreg ?_
      refine s1 (mv rfl rfl) ?_
      refine s1 (mv rfl rfl) ?_
      refine s1 (lenL (f := L_retrospectref17_Node) Tryd.underlying54 rfl rfl) ?_
      refine s1 (ltI rfl rfl rfl) ?_
      refine s1 (mv rfl rfl) ?_
      refine sifd 12 rfl ?_ ?_
      · refine sg 12 rfl rfl (mv rfl rfl) ?_
        refine sg 12 rfl rfl (mv rfl rfl) ?_
        refine sg 12 rfl rfl (ltI rfl rfl rfl) ?_
        refine s1 (pickT rfl rfl rfl) ?_
        refine snil ?_
        refine pnm ?_
        exact sj (hj17 _) (entI ⟨rfl, rfl, rfl, rfl, rfl, rfl, trivial⟩ eqm0)
      · refine spB 12 rfl rfl rfl ?_
        refine spB 12 rfl rfl rfl ?_
        refine spB 12 rfl rfl rfl ?_
        refine s1 (pickF rfl rfl kB) ?_
        refine snil ?_
        refine pnm ?_
        exact sj (hj17 _) (entI ⟨rfl, rfl, rfl, rfl, rfl, rfl, trivial⟩ eqm0)
    · intro s18
      refine scond rfl ?_ ?_
      · refine sskip ?_
        refine pnm ?_
        refine sseq ?_
        refine sblk ?_
        refine sseq ?_
        refine sreg ?_
        refine s1 (mv rfl rfl) ?_
        refine s1 (mv rfl rfl) ?_
        refine bd fun y19 h20 => ?_
        refine s1 (ixR (f := L_retrospectref17_Node) Tryd.underlying54 ti_62 h20 rfl rfl rfl) ?_
        refine s1 (faR fd_62_2 (by exact rfl) rfl rfl) ?_
        refine s1 (ldR sh_23 (by exact rfl) (by exact rfl) rfl rfl) ?_
        refine s1 (lenL (f := u32) Tryd.underlying23 rfl rfl) ?_
        refine s1 (mv rfl rfl) ?_
        refine s1 (gtI rfl rfl rfl) ?_
        refine snil ?_
        refine pnm ?_
        refine scond rfl ?_ ?_
        · refine sseq ?_
          refine sreg ?_
          refine s1 (asg rfl kB) ?_
          refine snil ?_
          refine pnm ?_
          refine sret ?_
          refine pbl ?_
          refine pth ?_
          refine sout (fun h => by cases h) ?_
          refine pbl ?_
          refine pth ?_
          exact ret [] [.tmp 6] [_] [_] .ret hγ (.inl rfl) rfl ⟨rfl, trivial⟩ rfl trivial trivial trivial (rns_cons (rn_id if_bl) (rns_nil)) rfl
        · refine sskip ?_
          refine pbn ?_
          refine pnm ?_
          refine sreg ?_
          refine s1 (mv rfl rfl) ?_
          refine s1 (addI rfl rfl (kI (x := 1) rfl)) ?_
          refine s1 (asg rfl rfl) ?_
          refine snil ?_
          exact sgo (entI ⟨rfl, rfl, rfl, rfl, rfl, trivial⟩ eqm0)
      · refine sexit ?_
        refine ptx ?_
        exact sout (fun h => by cases h) (sj (hj14 _) (entI ⟨rfl, rfl, rfl, trivial⟩ eqm0))
  · intro t13
    refine slpk ?_
    refine sx ?_
    refine pnm ?_
    refine sseq ?_
    refine sreg ?_
    refine s1 (mv rfl rfl) ?_
    refine s1 (lenL (f := L_retrospectref17_Node) Tryd.underlying54 rfl rfl) ?_
    refine s1 (mv rfl rfl) ?_
    refine s1 (gtI rfl rfl rfl) ?_
    refine s1 (asg rfl rfl) ?_
    refine snil ?_
    refine pnm ?_
    refine sret ?_
    exact ret [] [.tmp 6] [_] [_] .ret hγ (.inl rfl) rfl ⟨rfl, trivial⟩ rfl trivial trivial trivial (rns_cons (rn_id if_bl) (rns_nil)) rfl
theorem c_retrospectref17_LongField {n : Nat} {x0 : M_retrospectref17_Field} {x1 : Int} {x2 : Int} {x3 : Int} : ∀ r, m_retrospectref17_LongField n x0 x1 x2 x3 = some r → FnOk Tryd.prog 19 [L_retrospectref17_Field x0, i64 x1, i64 x2, i64 x3] [] (bl r) [] := by
  unfold m_retrospectref17_LongField
  refine fn_of_sq (res := fun (r : Bool) => bl r) (mo := fun (r : Bool) => []) Tryd.func19 rfl rfl (by kernel_rfl) rfl ?_
  intro w S0 γ hγ
  refine sseq ?_
  refine sreg ?_
  refine so (box (y := 100) (by exact rfl) rfl rfl rfl) ?_
  refine s1 (asg rfl kB) ?_
  refine snil ?_
  refine pnm ?_
  refine sseq ?_
  refine sjq (fun (s3 : Bool) => [(2, i64 x2), (3, i64 x3), (4, .own 100), (8, bl false), (22, bl s3)]) (fun (s3 : Bool) => [(100, .bx 41 (L_retrospectref17_Field x0))]) ?_ ?_
  · intro j1 hj2
    refine sreg ?_
    refine s1 (faO rfl fd_41_0 rfl rfl) ?_
    refine s1 (ldB [0] rfl (by exact rfl) sh_38 (by exact rfl) (by exact rfl) rfl rfl (.inl rfl)) ?_
    refine s1 (lenL (f := L_retrospectref17_Let) Tryd.underlying38 rfl rfl) ?_
    refine s1 (mv rfl rfl) ?_
    refine s1 (gtI rfl rfl rfl) ?_
    refine s1 (mv rfl rfl) ?_
    refine sifd 16 rfl ?_ ?_
    · refine spB 16 rfl rfl rfl ?_
      refine spB 16 rfl rfl rfl ?_
      refine spB 16 rfl rfl rfl ?_
      refine spB 16 rfl rfl rfl ?_
      refine spB 16 rfl rfl rfl ?_
      refine s1 (pickT rfl rfl kB) ?_
      refine snil ?_
      refine pnm ?_
      exact sj (hj2 _) (entR [(100, 100)] rfl (keepS hγ trivial) ⟨⟨_, rfl⟩, trivial⟩ ⟨⟨_, _, rfl, rfl, rci (rc_bx (rn_id if_L_retrospectref17_Field))⟩, trivial⟩ ⟨⟨_, rfl, rn_id if_i64⟩, ⟨_, rfl, rn_id if_i64⟩, ⟨_, rfl, rn_own rfl⟩, ⟨_, rfl, rn_id if_bl⟩, ⟨_, rfl, rn_id if_bl⟩, trivial⟩)
    · refine sg 16 rfl rfl (faO rfl fd_41_1 rfl rfl) ?_
      refine sg 16 rfl rfl (ldB [1] rfl (by exact rfl) sh_39 (by exact rfl) (by exact rfl) rfl rfl (.inl rfl)) ?_
      refine sg 16 rfl rfl (lenL (f := L_S_retrospectref17_Node) Tryd.underlying39 rfl rfl) ?_
      refine sg 16 rfl rfl (mv rfl rfl) ?_
      refine sg 16 rfl rfl (gtI rfl rfl rfl) ?_
      refine s1 (pickF rfl rfl rfl) ?_
      refine snil ?_
      refine pnm ?_
      exact sj (hj2 _) (entR [(100, 100)] rfl (keepS hγ trivial) ⟨⟨_, rfl⟩, trivial⟩ ⟨⟨_, _, rfl, rfl, rci (rc_bx (rn_id if_L_retrospectref17_Field))⟩, trivial⟩ ⟨⟨_, rfl, rn_id if_i64⟩, ⟨_, rfl, rn_id if_i64⟩, ⟨_, rfl, rn_own rfl⟩, ⟨_, rfl, rn_id if_bl⟩, ⟨_, rfl, rn_id if_bl⟩, trivial⟩)
  · intro s3
    refine scond rfl ?_ ?_
    · refine sseq ?_
      refine sreg ?_
      refine s1 (asg rfl kB) ?_
      refine snil ?_
      refine pnm ?_
      refine sret ?_
      refine pth ?_
      exact ret [] [.tmp 8] [_] [_] .ret hγ (.inl rfl) rfl ⟨rfl, trivial⟩ rfl trivial trivial trivial (rns_cons (rn_id if_bl) (rns_nil)) rfl
    · refine sskip ?_
      refine pnm ?_
      refine sseq ?_
      refine sseq ?_
      refine sreg ?_
      refine s1 (asg rfl (kI (x := 0) rfl)) ?_
      refine snil ?_
      refine pnm ?_
      refine sblk ?_
      refine sloopE 0 Lp.go (fun (s38 : Int) => [(2, i64 x2), (3, i64 x3), (4, .own 100), (8, bl false), (9, i64 s38)]) (fun (s38 : Int) => [(100, .bx 41 (L_retrospectref17_Field x0))]) (fun (t36 : Unit) => [(2, i64 x2), (3, i64 x3), (4, .own 100), (8, bl false)]) (fun (t36 : Unit) => [(100, .bx 41 (L_retrospectref17_Field x0))]) (entR [(100, 100)] rfl (keepS hγ trivial) ⟨⟨_, rfl⟩, trivial⟩ ⟨⟨_, _, rfl, rfl, rci (rc_bx (rn_id if_L_retrospectref17_Field))⟩, trivial⟩ ⟨⟨_, rfl, rn_id if_i64⟩, ⟨_, rfl, rn_id if_i64⟩, ⟨_, rfl, rn_own rfl⟩, ⟨_, rfl, rn_id if_bl⟩, ⟨_, rfl, rn_id if_i64⟩, trivial⟩) ?_ ?_
      · intro hj37 s38
        refine sseq ?_
        refine sseq ?_
        refine sreg ?_
        refine s1 (mv rfl rfl) ?_
        refine s1 (faO rfl fd_41_0 rfl rfl) ?_
        refine s1 (ldB [0] rfl (by exact rfl) sh_38 (by exact rfl) (by exact rfl) rfl rfl (.inl rfl)) ?_
        refine s1 (lenL (f := L_retrospectref17_Let) Tryd.underlying38 rfl rfl) ?_
        refine s1 (ltI rfl rfl rfl) ?_
        refine snil ?_
        refine pnm ?_
        refine scond rfl ?_ ?_
        · refine sskip ?_
          refine pnm ?_
          refine sseq ?_
          refine sblk ?_
          refine sjq (fun (s47 : Bool) => [(2, i64 x2), (3, i64 x3), (4, .own 100), (8, bl false), (9, i64 s38), (48, bl s47)]) (fun (s47 : Bool) => [(100, .bx 41 (L_retrospectref17_Field x0))]) ?_ ?_
          · intro j45 hj46
            refine sreg ?_
            refine s1 (faO rfl fd_41_0 rfl rfl) ?_
            refine s1 (ldB [0] rfl (by exact rfl) sh_38 (by exact rfl) (by exact rfl) rfl rfl (.inl rfl)) ?_
            refine s1 (mv rfl rfl) ?_
            refine bd fun y48 h49 => ?_
            refine s1 (ixR (f := L_retrospectref17_Let) Tryd.underlying38 ti_92 h49 rfl rfl rfl) ?_
            refine s1 (faR fd_92_0 (by exact rfl) rfl rfl) ?_
            refine s1 (ldR sh_9 (by exact rfl) (by exact rfl) rfl rfl) ?_
            refine s1 (lenS Tryd.underlying9 rfl rfl) ?_
            refine s1 (gtI rfl rfl (kI (x := 100) rfl)) ?_
            refine s1 (mv rfl rfl) ?_
            refine sifd 38 rfl ?_ ?_
            · refine spB 38 rfl rfl rfl ?_
              refine spB 38 rfl rfl rfl ?_
              refine spB 38 rfl rfl rfl ?_
              refine spB 38 rfl rfl rfl ?_
              refine spB 38 rfl rfl rfl ?_
              refine spB 38 rfl rfl rfl ?_
              refine spB 38 rfl rfl rfl ?_
              refine spB 38 rfl rfl rfl ?_
              refine spB 38 rfl rfl rfl ?_
              refine s1 (pickT rfl rfl kB) ?_
              refine snil ?_
              refine pnm ?_
              exact sj (hj46 _) (entR [(100, 100)] rfl (keepS hγ trivial) ⟨⟨_, rfl⟩, trivial⟩ ⟨⟨_, _, rfl, rfl, rci (rc_bx (rn_id if_L_retrospectref17_Field))⟩, trivial⟩ ⟨⟨_, rfl, rn_id if_i64⟩, ⟨_, rfl, rn_id if_i64⟩, ⟨_, rfl, rn_own rfl⟩, ⟨_, rfl, rn_id if_bl⟩, ⟨_, rfl, rn_id if_i64⟩, ⟨_, rfl, rn_id if_bl⟩, trivial⟩)
            · refine sg 38 rfl rfl (faO rfl fd_41_0 rfl rfl) ?_
              refine sg 38 rfl rfl (ldB [0] rfl (by exact rfl) sh_38 (by exact rfl) (by exact rfl) rfl rfl (.inl rfl)) ?_
              refine sg 38 rfl rfl (mv rfl rfl) ?_
              refine bd fun y50 h51 => ?_
              refine sg 38 rfl rfl (ixR (f := L_retrospectref17_Let) Tryd.underlying38 ti_92 h51 rfl rfl rfl) ?_
              refine sg 38 rfl rfl (faR fd_92_1 (by exact rfl) rfl rfl) ?_
              refine sg 38 rfl rfl (ldR sh_54 (by exact rfl) (by exact rfl) rfl rfl) ?_
              refine sg 38 rfl rfl (mv rfl rfl) ?_
              refine sg 38 rfl rfl (mv rfl rfl) ?_
              refine bd fun r52 h53 => ?_
              refine sg 38 rfl rfl (call0 (c_retrospectref17_Long _ h53) ⟨⟨_, rfl, rn_id if_sli⟩, ⟨_, rfl, rn_id if_i64⟩, ⟨_, rfl, rn_id if_i64⟩, trivial⟩ (if_bl) rfl) ?_
              refine s1 (pickF rfl rfl rfl) ?_
              refine snil ?_
              refine pnm ?_
              exact sj (hj46 _) (entR [(100, 100)] rfl (keepS hγ trivial) ⟨⟨_, rfl⟩, trivial⟩ ⟨⟨_, _, rfl, rfl, rci (rc_bx (rn_id if_L_retrospectref17_Field))⟩, trivial⟩ ⟨⟨_, rfl, rn_id if_i64⟩, ⟨_, rfl, rn_id if_i64⟩, ⟨_, rfl, rn_own rfl⟩, ⟨_, rfl, rn_id if_bl⟩, ⟨_, rfl, rn_id if_i64⟩, ⟨_, rfl, rn_id if_bl⟩, trivial⟩)
          · intro s47
            refine scond rfl ?_ ?_
            · refine sseq ?_
              refine sreg ?_
              refine s1 (asg rfl kB) ?_
              refine snil ?_
              refine pnm ?_
              refine sret ?_
              refine pbl ?_
              refine pth ?_
              refine sout (fun h => by cases h) ?_
              refine pbl ?_
              refine pth ?_
              exact ret [] [.tmp 8] [_] [_] .ret hγ (.inl rfl) rfl ⟨rfl, trivial⟩ rfl trivial trivial trivial (rns_cons (rn_id if_bl) (rns_nil)) rfl
            · refine sskip ?_
              refine pbn ?_
              refine pnm ?_
              refine sreg ?_
              refine s1 (mv rfl rfl) ?_
              refine s1 (addI rfl rfl (kI (x := 1) rfl)) ?_
              refine s1 (asg rfl rfl) ?_
              refine snil ?_
              exact sgo (entR [(100, 100)] rfl (keepS hγ trivial) ⟨⟨_, rfl⟩, trivial⟩ ⟨⟨_, _, rfl, rfl, rci (rc_bx (rn_id if_L_retrospectref17_Field))⟩, trivial⟩ ⟨⟨_, rfl, rn_id if_i64⟩, ⟨_, rfl, rn_id if_i64⟩, ⟨_, rfl, rn_own rfl⟩, ⟨_, rfl, rn_id if_bl⟩, ⟨_, rfl, rn_id if_i64⟩, trivial⟩)
        · refine sexit ?_
          refine ptx ?_
          exact sout (fun h => by cases h) (sj (hj37 _) (entR [(100, 100)] rfl (keepS hγ trivial) ⟨⟨_, rfl⟩, trivial⟩ ⟨⟨_, _, rfl, rfl, rci (rc_bx (rn_id if_L_retrospectref17_Field))⟩, trivial⟩ ⟨⟨_, rfl, rn_id if_i64⟩, ⟨_, rfl, rn_id if_i64⟩, ⟨_, rfl, rn_own rfl⟩, ⟨_, rfl, rn_id if_bl⟩, trivial⟩))
      · intro t36
        refine slpk ?_
        refine sx ?_
        refine pnm ?_
        refine sseq ?_
        refine sseq ?_
        refine sreg ?_
        refine s1 (asg rfl (kI (x := 0) rfl)) ?_
        refine snil ?_
        refine pnm ?_
        refine sblk ?_
        refine sloopE 2 Lp.go (fun (s66 : Int) => [(2, i64 x2), (3, i64 x3), (4, .own 100), (8, bl false), (10, i64 s66)]) (fun (s66 : Int) => [(100, .bx 41 (L_retrospectref17_Field x0))]) (fun (t64 : Unit) => [(8, bl false)]) (fun (t64 : Unit) => []) (entR [(100, 100)] rfl (keepS hγ trivial) ⟨⟨_, rfl⟩, trivial⟩ ⟨⟨_, _, rfl, rfl, rci (rc_bx (rn_id if_L_retrospectref17_Field))⟩, trivial⟩ ⟨⟨_, rfl, rn_id if_i64⟩, ⟨_, rfl, rn_id if_i64⟩, ⟨_, rfl, rn_own rfl⟩, ⟨_, rfl, rn_id if_bl⟩, ⟨_, rfl, rn_id if_i64⟩, trivial⟩) ?_ ?_
        · intro hj65 s66
          refine sseq ?_
          refine sseq ?_
          refine sreg ?_
          refine s1 (mv rfl rfl) ?_
          refine s1 (faO rfl fd_41_1 rfl rfl) ?_
          refine s1 (ldB [1] rfl (by exact rfl) sh_39 (by exact rfl) (by exact rfl) rfl rfl (.inl rfl)) ?_
          refine s1 (lenL (f := L_S_retrospectref17_Node) Tryd.underlying39 rfl rfl) ?_
          refine s1 (ltI rfl rfl rfl) ?_
          refine snil ?_
          refine pnm ?_
          refine scond rfl ?_ ?_
          · refine sskip ?_
            refine pnm ?_
            refine sseq ?_
            refine sblk ?_
            refine sseq ?_
            refine sreg ?_
            refine s1 (faO rfl fd_41_1 rfl rfl) ?_
            refine s1 (ldB [1] rfl (by exact rfl) sh_39 (by exact rfl) (by exact rfl) rfl rfl (.inl rfl)) ?_
            refine s1 (mv rfl rfl) ?_
            refine bd fun y67 h68 => ?_
            refine s1 (ixR (f := L_S_retrospectref17_Node) Tryd.underlying39 ti_54 h68 rfl rfl rfl) ?_
            refine s1 (ldR sh_54 (by exact rfl) (by exact rfl) rfl rfl) ?_
            refine s1 (mv rfl rfl) ?_
            refine s1 (mv rfl rfl) ?_
            refine bd fun r69 h70 => ?_
            refine s1 (call0 (c_retrospectref17_Long _ h70) ⟨⟨_, rfl, rn_id if_sli⟩, ⟨_, rfl, rn_id if_i64⟩, ⟨_, rfl, rn_id if_i64⟩, trivial⟩ (if_bl) rfl) ?_
            refine snil ?_
            refine pnm ?_
            refine scond rfl ?_ ?_
            · refine sseq ?_
              refine sreg ?_
              refine s1 (asg rfl kB) ?_
              refine snil ?_
              refine pnm ?_
              refine sret ?_
              refine pbl ?_
              refine pth ?_
              refine sout (fun h => by cases h) ?_
              refine pbl ?_
              refine pth ?_
              exact ret [] [.tmp 8] [_] [_] .ret hγ (.inl rfl) rfl ⟨rfl, trivial⟩ rfl trivial trivial trivial (rns_cons (rn_id if_bl) (rns_nil)) rfl
            · refine sskip ?_
              refine pbn ?_
              refine pnm ?_
              refine sreg ?_
              refine s1 (mv rfl rfl) ?_
              refine s1 (addI rfl rfl (kI (x := 1) rfl)) ?_
              refine s1 (asg rfl rfl) ?_
              refine snil ?_
              exact sgo (entR [(100, 100)] rfl (keepS hγ trivial) ⟨⟨_, rfl⟩, trivial⟩ ⟨⟨_, _, rfl, rfl, rci (rc_bx (rn_id if_L_retrospectref17_Field))⟩, trivial⟩ ⟨⟨_, rfl, rn_id if_i64⟩, ⟨_, rfl, rn_id if_i64⟩, ⟨_, rfl, rn_own rfl⟩, ⟨_, rfl, rn_id if_bl⟩, ⟨_, rfl, rn_id if_i64⟩, trivial⟩)
          · refine sexit ?_
            refine ptx ?_
            exact sout (fun h => by cases h) (sj (hj65 _) (entR [] rfl (keepS hγ trivial) (by exact trivial) (by exact trivial) ⟨⟨_, rfl, rn_id if_bl⟩, trivial⟩))
        · intro t64
          refine slpk ?_
          refine sx ?_
          refine pnm ?_
          refine sseq ?_
          refine sreg ?_
          refine s1 (asg rfl kB) ?_
          refine snil ?_
          refine pnm ?_
          refine sret ?_
          exact ret [] [.tmp 8] [_] [_] .ret hγ (.inl rfl) rfl ⟨rfl, trivial⟩ rfl trivial trivial trivial (rns_cons (rn_id if_bl) (rns_nil)) rfl
theorem c_tree_copied {x0 : (List M_tree_Node)} : ∀ r, m_tree_copied x0 = some r → FnOk Tryd.prog 64 [sli 3 (List.map L_tree_Node x0)] [] (sli 3 (List.map L_tree_Node r)) [] := by
  unfold m_tree_copied
  refine fn_of_sq (res := fun (r : (List M_tree_Node)) => sli 3 (List.map L_tree_Node r)) (mo := fun (r : (List M_tree_Node)) => []) Tryd.func64 rfl rfl (by kernel_rfl) rfl ?_
  intro w S0 γ hγ
  refine sseq ?_
  refine sreg ?_
  refine s1 (asg rfl (kLm (k := 3) L_tree_Node)) ?_
  refine snil ?_
  refine pnm ?_
  refine sseq ?_
  refine sreg ?_
  refine so (asgN (y := 100) (E := 60) (k := 3) rfl rfl) ?_
  refine snil ?_
  refine pnm ?_
  refine sseq ?_
  refine sseq ?_
  refine sreg ?_
  refine s1 (mv rfl rfl) ?_
  refine s1 (lenL (f := L_tree_Node) Tryd.underlying56 rfl rfl) ?_
  refine s1 (mv rfl (kI (x := 0) rfl)) ?_
  refine snil ?_
  refine pnm ?_
  refine sblk ?_
  refine srangeN (fun (s18 : (List M_tree_Node)) => [(2, sli 3 (List.map L_tree_Node ([] : List M_tree_Node))), (3, .own 100), (6, sli 3 (List.map L_tree_Node x0))]) (fun (s18 : (List M_tree_Node)) => [(100, .sl 60 3 (List.map L_tree_Node s18))]) rfl (fun _ => rfl) (entR [(100, 100)] rfl (keepS hγ trivial) ⟨⟨_, rfl⟩, trivial⟩ ⟨⟨_, _, rfl, rfl, rci (rc_sl (ifs_map (f := L_tree_Node) (fun _ => if_L_tree_Node) ([] : List M_tree_Node)))⟩, trivial⟩ ⟨⟨_, rfl, rn_id if_i64⟩, ⟨_, rfl, rn_id if_i64⟩, ⟨_, rfl, rn_id if_sli⟩, ⟨_, rfl, rn_own rfl⟩, ⟨_, rfl, rn_id if_sli⟩, trivial⟩) ?_ ?_
  · intro i19 x20 s18 hx21
    refine sblk ?_
    refine sseq ?_
    refine sreg ?_
    refine s1 (ixR (f := L_tree_Node) Tryd.underlying56 ti_60 (getI_nat hx21) rfl rfl rfl) ?_
    refine s1 (ldR sh_60 (by exact rfl) (by exact rfl) rfl rfl) ?_
    refine so (al (y := 101) (ly := L_tree_Node (⟨0, 0, []⟩ : M_tree_Node)) ti_60 zr_tree_Node rfl rfl) ?_
    refine so (stB2 (ly2 := L_tree_Node x20) [] (by exact rfl) rfl (by exact rfl) sh_60 (by exact rfl) (by exact rfl) (by exact rfl) rfl (.inr ⟨rfl, rfl, _, _, rfl⟩) rfl) ?_
    refine snil ?_
    refine pnm ?_
    refine bd fun y22 h23 => ?_
    refine bd fun y24 h25 => ?_
    refine sdraw [⟨[3], [], [(12, .own 100)], []⟩, ⟨[5], [101], [(13, .ptr 101 0)], []⟩, ⟨[13], [101], [(14, i64 x20.Op)], []⟩, ⟨[5], [101], [(15, .ptr 101 1)], []⟩, ⟨[15], [101], [(16, i64 x20.I)], []⟩, ⟨[5], [101], [(17, .ptr 101 2)], []⟩, ⟨[17], [101], [(18, sli 1 (List.map u32 x20.N))], []⟩, ⟨[18], [102], [(19, sli 1 (List.map u32 y22))], [(102, .gone)]⟩, ⟨[14, 16, 19], [], [(20, L_tree_Node (⟨x20.Op, x20.I, y22⟩ : M_tree_Node))], []⟩, ⟨[20], [103], [(21, .own 103)], [(103, .sl 60 3 (List.map L_tree_Node ([(⟨x20.Op, x20.I, y22⟩ : M_tree_Node)] : List M_tree_Node)))]⟩, ⟨[12, 21], [100, 103, 104], [(22, .own 104)], [(104, .sl 60 3 (List.map L_tree_Node y24)), (100, .gone)]⟩, ⟨[22], [], [(3, .own 104)], []⟩] fol (by kernel_rfl) ⟨fun st mm ⟨a3, _⟩ _ => og (mv rfl (a3.trans rfl)), fun st mm ⟨a5, _⟩ ⟨g101, _⟩ => og (faO (g101.trans rfl) fd_60_0 rfl (a5.trans rfl)), fun st mm ⟨a13, _⟩ ⟨g101, _⟩ => og (ldB [0] (g101.trans rfl) (by exact rfl) sh_3 (by exact rfl) (by exact rfl) rfl (a13.trans rfl) (.inl rfl)), fun st mm ⟨a5, _⟩ ⟨g101, _⟩ => og (faO (g101.trans rfl) fd_60_1 rfl (a5.trans rfl)), fun st mm ⟨a15, _⟩ ⟨g101, _⟩ => og (ldB [1] (g101.trans rfl) (by exact rfl) sh_3 (by exact rfl) (by exact rfl) rfl (a15.trans rfl) (.inl rfl)), fun st mm ⟨a5, _⟩ ⟨g101, _⟩ => og (faO (g101.trans rfl) fd_60_2 rfl (a5.trans rfl)), fun st mm ⟨a17, _⟩ ⟨g101, _⟩ => og (ldB [2] (g101.trans rfl) (by exact rfl) sh_23 (by exact rfl) (by exact rfl) rfl (a17.trans rfl) (.inl rfl)), fun st mm ⟨a18, _⟩ ⟨g102, _⟩ => og (toV (appN (y := 102) (f := u32) h23 Tryd.underlying23 ti_72 rfl rfl (a18.trans rfl) (.inl rfl) (g102.trans rfl) rfl) (ifs_map (f := u32) (fun _ => if_u32) y22)), fun st mm ⟨a14, a16, a19, _⟩ _ => og (bld (l := [i64 x20.Op, i64 x20.I, sli 1 (List.map u32 y22)]) pl_60 ti_60 zr_tree_Node ⟨_, _, _, (a14.trans rfl), rfl, rfl, rfl, (szk (k := 1) rfl rfl), ⟨_, _, _, (a16.trans rfl), rfl, rfl, rfl, (szk (k := 1) rfl rfl), ⟨_, _, _, (a19.trans rfl), rfl, rfl, rfl, (szk (k := 1) rfl rfl), rfl⟩⟩⟩ rfl), fun st mm ⟨a20, _⟩ ⟨g103, _⟩ => og (bsl (y := 103) (ls := List.map L_tree_Node ([(⟨x20.Op, x20.I, y22⟩ : M_tree_Node)] : List M_tree_Node)) Tryd.underlying56 ti_60 rfl rfl rfl rfl rfl ⟨rfl, (a20.trans rfl), (by exact rfl), (by exact rfl), trivial⟩ (g103.trans rfl) rfl), fun st mm ⟨a12, a21, _⟩ ⟨g100, g103, g104, _⟩ => og (app (y := 104) (f := L_tree_Node) h25 (g100.trans rfl) Tryd.underlying56 ti_60 rfl rfl (a12.trans rfl) (a21.trans rfl) (.inr ⟨_, _, rfl, (g103.trans rfl)⟩) (g104.trans rfl) rfl), fun st mm ⟨a22, _⟩ _ => og (asg rfl (a22.trans rfl)), trivial⟩ ?_
    refine pbn ?_
    exact sgo (entR [(100, 104)] rfl (keepS hγ trivial) ⟨⟨_, rfl⟩, trivial⟩ ⟨⟨_, _, rfl, rfl, rci (rc_sl (ifs_map (f := L_tree_Node) (fun _ => if_L_tree_Node) y24))⟩, trivial⟩ ⟨⟨_, rfl, rn_id if_i64⟩, ⟨_, rfl, rn_id if_i64⟩, ⟨_, rfl, rn_id if_sli⟩, ⟨_, rfl, rn_own rfl⟩, ⟨_, rfl, rn_id if_sli⟩, trivial⟩)
  · intro s26
    refine sx ?_
    refine pnm ?_
    refine sseq ?_
    refine sreg ?_
    refine s1 (mv rfl rfl) ?_
    refine s1 (asg rfl rfl) ?_
    refine snil ?_
    refine pnm ?_
    refine sret ?_
    refine frz (id := 100) [(2, sli 3 (List.map L_tree_Node s26)), (3, sli 3 (List.map L_tree_Node s26)), (24, sli 3 (List.map L_tree_Node s26))] [] rfl (ifs_map (f := L_tree_Node) (fun _ => if_L_tree_Node) s26) ⟨⟨_, rfl, fz_own⟩, ⟨_, rfl, fz_own⟩, ⟨_, rfl, fz_own⟩, trivial⟩ trivial ?_
    exact ret [] [.tmp 2] [_] [_] .ret hγ (.inl rfl) rfl ⟨rfl, trivial⟩ rfl trivial trivial trivial (rns_cons (rn_id if_sli) (rns_nil)) rfl
theorem c_tree_Codes {x0 : M_tree_Field} : ∀ r, m_tree_Codes x0 = some r → FnOk Tryd.prog 33 [L_tree_Field x0] [] (sli 1 (List.map L_S_tree_Node r)) [] := by
  unfold m_tree_Codes
  refine fn_of_sq (res := fun (r : (List (List M_tree_Node))) => sli 1 (List.map L_S_tree_Node r)) (mo := fun (r : (List (List M_tree_Node))) => []) Tryd.func33 rfl rfl (by kernel_rfl) rfl ?_
  intro w S0 γ hγ
  refine sseq ?_
  refine sreg ?_
  refine so (box (y := 100) (by exact rfl) rfl rfl rfl) ?_
  refine s1 (asg rfl (kLm (k := 1) L_S_tree_Node)) ?_
  refine snil ?_
  refine pnm ?_
  refine sseq ?_
  refine sreg ?_
  refine so (asgN (y := 101) (E := 56) (k := 1) rfl rfl) ?_
  refine snil ?_
  refine pnm ?_
  refine sseq ?_
  refine sseq ?_
  refine sreg ?_
  refine s1 (faO rfl fd_50_0 rfl rfl) ?_
  refine s1 (ldB [0] rfl (by exact rfl) sh_47 (by exact rfl) (by exact rfl) rfl rfl (.inl rfl)) ?_
  refine s1 (lenL (f := L_tree_Let) Tryd.underlying47 rfl rfl) ?_
  refine s1 (mv rfl (kI (x := 0) rfl)) ?_
  refine snil ?_
  refine pnm ?_
  refine sblk ?_
  refine srangeN (fun (s18 : (List (List M_tree_Node))) => [(1, .own 100), (2, sli 1 (List.map L_S_tree_Node ([] : List (List M_tree_Node)))), (3, .own 101), (9, sli 2 (List.map L_tree_Let x0.Lets))]) (fun (s18 : (List (List M_tree_Node))) => [(100, .bx 50 (L_tree_Field x0)), (101, .sl 56 1 (List.map L_S_tree_Node s18))]) rfl (fun _ => rfl) (entR [(100, 100), (101, 101)] rfl (keepS hγ trivial) ⟨⟨_, rfl⟩, ⟨_, rfl⟩, trivial⟩ ⟨⟨_, _, rfl, rfl, rci (rc_bx (rn_id if_L_tree_Field))⟩, ⟨_, _, rfl, rfl, rci (rc_sl (ifs_map (f := L_S_tree_Node) (fun _ => if_sli) ([] : List (List M_tree_Node))))⟩, trivial⟩ ⟨⟨_, rfl, rn_id if_i64⟩, ⟨_, rfl, rn_id if_i64⟩, ⟨_, rfl, rn_own rfl⟩, ⟨_, rfl, rn_id if_sli⟩, ⟨_, rfl, rn_own rfl⟩, ⟨_, rfl, rn_id if_sli⟩, trivial⟩) ?_ ?_
  · intro i19 x20 s18 hx21
    refine sblk ?_
    refine sseq ?_
    refine sreg ?_
    refine s1 (ixR (f := L_tree_Let) Tryd.underlying47 ti_98 (getI_nat hx21) rfl rfl rfl) ?_
    refine s1 (ldR sh_98 (by exact rfl) (by exact rfl) rfl rfl) ?_
    refine so (al (y := 102) (ly := L_tree_Let (⟨[], []⟩ : M_tree_Let)) ti_98 zr_tree_Let rfl rfl) ?_
    refine so (stB2 (ly2 := L_tree_Let x20) [] (by exact rfl) rfl (by exact rfl) sh_98 (by exact rfl) (by exact rfl) (by exact rfl) rfl (.inr ⟨rfl, rfl, _, _, rfl⟩) rfl) ?_
    refine snil ?_
    refine pnm ?_
    refine sreg ?_
    refine s1 (mv rfl rfl) ?_
    refine s1 (faO rfl fd_98_1 rfl rfl) ?_
    refine s1 (ldB [1] rfl (by exact rfl) sh_56 (by exact rfl) (by exact rfl) rfl rfl (.inl rfl)) ?_
    refine bd fun r22 h23 => ?_
    refine s1 (call0 (c_tree_copied _ h23) ⟨⟨_, rfl, rn_id if_sli⟩, trivial⟩ (if_sli) rfl) ?_
    refine so (bsl (y := 103) (ls := List.map L_S_tree_Node ([r22] : List (List M_tree_Node))) Tryd.underlying48 ti_56 rfl rfl rfl rfl rfl ⟨rfl, rfl, (by exact rfl), (by exact rfl), trivial⟩ rfl rfl) ?_
    refine bd fun y24 h25 => ?_
    refine so (app (y := 104) (f := L_S_tree_Node) h25 rfl Tryd.underlying48 ti_56 rfl rfl rfl rfl (.inr ⟨_, _, rfl, rfl⟩) rfl rfl) ?_
    refine s1 (asg rfl rfl) ?_
    refine snil ?_
    refine pbn ?_
    exact sgo (entR [(100, 100), (101, 104)] rfl (keepS hγ trivial) ⟨⟨_, rfl⟩, ⟨_, rfl⟩, trivial⟩ ⟨⟨_, _, rfl, rfl, rci (rc_bx (rn_id if_L_tree_Field))⟩, ⟨_, _, rfl, rfl, rci (rc_sl (ifs_map (f := L_S_tree_Node) (fun _ => if_sli) y24))⟩, trivial⟩ ⟨⟨_, rfl, rn_id if_i64⟩, ⟨_, rfl, rn_id if_i64⟩, ⟨_, rfl, rn_own rfl⟩, ⟨_, rfl, rn_id if_sli⟩, ⟨_, rfl, rn_own rfl⟩, ⟨_, rfl, rn_id if_sli⟩, trivial⟩)
  · intro s26
    refine sx ?_
    refine pnm ?_
    refine sseq ?_
    refine sseq ?_
    refine sreg ?_
    refine s1 (faO rfl fd_50_1 rfl rfl) ?_
    refine s1 (ldB [1] rfl (by exact rfl) sh_48 (by exact rfl) (by exact rfl) rfl rfl (.inl rfl)) ?_
    refine s1 (lenL (f := L_S_tree_Node) Tryd.underlying48 rfl rfl) ?_
    refine s1 (mv rfl (kI (x := 0) rfl)) ?_
    refine snil ?_
    refine pnm ?_
    refine sblk ?_
    refine srangeN (fun (s44 : (List (List M_tree_Node))) => [(2, sli 1 (List.map L_S_tree_Node ([] : List (List M_tree_Node)))), (3, .own 101), (23, sli 1 (List.map L_S_tree_Node x0.Outs))]) (fun (s44 : (List (List M_tree_Node))) => [(101, .sl 56 1 (List.map L_S_tree_Node s44))]) rfl (fun _ => rfl) (entR [(101, 101)] rfl (keepS hγ trivial) ⟨⟨_, rfl⟩, trivial⟩ ⟨⟨_, _, rfl, rfl, rci (rc_sl (ifs_map (f := L_S_tree_Node) (fun _ => if_sli) s26))⟩, trivial⟩ ⟨⟨_, rfl, rn_id if_i64⟩, ⟨_, rfl, rn_id if_i64⟩, ⟨_, rfl, rn_id if_sli⟩, ⟨_, rfl, rn_own rfl⟩, ⟨_, rfl, rn_id if_sli⟩, trivial⟩) ?_ ?_
    · intro i45 x46 s44 hx47
      refine sblk ?_
      refine sseq ?_
      refine sreg ?_
      refine s1 (ixR (f := L_S_tree_Node) Tryd.underlying48 ti_56 (getI_nat hx47) rfl rfl rfl) ?_
      refine s1 (ldR sh_56 (by exact rfl) (by exact rfl) rfl rfl) ?_
      refine s1 (asg rfl rfl) ?_
      refine snil ?_
      refine pnm ?_
      refine sreg ?_
      refine s1 (mv rfl rfl) ?_
      refine s1 (mv rfl rfl) ?_
      refine bd fun r48 h49 => ?_
      refine s1 (call0 (c_tree_copied _ h49) ⟨⟨_, rfl, rn_id if_sli⟩, trivial⟩ (if_sli) rfl) ?_
      refine so (bsl (y := 102) (ls := List.map L_S_tree_Node ([r48] : List (List M_tree_Node))) Tryd.underlying48 ti_56 rfl rfl rfl rfl rfl ⟨rfl, rfl, (by exact rfl), (by exact rfl), trivial⟩ rfl rfl) ?_
      refine bd fun y50 h51 => ?_
      refine so (app (y := 103) (f := L_S_tree_Node) h51 rfl Tryd.underlying48 ti_56 rfl rfl rfl rfl (.inr ⟨_, _, rfl, rfl⟩) rfl rfl) ?_
      refine s1 (asg rfl rfl) ?_
      refine snil ?_
      refine pbn ?_
      exact sgo (entR [(101, 103)] rfl (keepS hγ trivial) ⟨⟨_, rfl⟩, trivial⟩ ⟨⟨_, _, rfl, rfl, rci (rc_sl (ifs_map (f := L_S_tree_Node) (fun _ => if_sli) y50))⟩, trivial⟩ ⟨⟨_, rfl, rn_id if_i64⟩, ⟨_, rfl, rn_id if_i64⟩, ⟨_, rfl, rn_id if_sli⟩, ⟨_, rfl, rn_own rfl⟩, ⟨_, rfl, rn_id if_sli⟩, trivial⟩)
    · intro s52
      refine sx ?_
      refine pnm ?_
      refine sseq ?_
      refine sreg ?_
      refine s1 (mv rfl rfl) ?_
      refine s1 (asg rfl rfl) ?_
      refine snil ?_
      refine pnm ?_
      refine sret ?_
      refine frz (id := 101) [(2, sli 1 (List.map L_S_tree_Node s52)), (3, sli 1 (List.map L_S_tree_Node s52)), (35, sli 1 (List.map L_S_tree_Node s52))] [] rfl (ifs_map (f := L_S_tree_Node) (fun _ => if_sli) s52) ⟨⟨_, rfl, fz_own⟩, ⟨_, rfl, fz_own⟩, ⟨_, rfl, fz_own⟩, trivial⟩ trivial ?_
      exact ret [] [.tmp 2] [_] [_] .ret hγ (.inl rfl) rfl ⟨rfl, trivial⟩ rfl trivial trivial trivial (rns_cons (rn_id if_sli) (rns_nil)) rfl
theorem c_tree_Size {x0 : M_tree_Field} : ∀ r, m_tree_Size x0 = some r → FnOk Tryd.prog 36 [L_tree_Field x0] [] (i64 r) [] := by
  unfold m_tree_Size
  refine fn_of_sq (res := fun (r : Int) => i64 r) (mo := fun (r : Int) => []) Tryd.func36 rfl rfl (by kernel_rfl) rfl ?_
  intro w S0 γ hγ
  refine sseq ?_
  refine sreg ?_
  refine so (box (y := 100) (by exact rfl) rfl rfl rfl) ?_
  refine s1 (asg rfl (kI (x := 0) rfl)) ?_
  refine snil ?_
  refine pnm ?_
  refine sseq ?_
  refine sreg ?_
  refine s1 (asg rfl (kI (x := 0) rfl)) ?_
  refine snil ?_
  refine pnm ?_
  refine sseq ?_
  refine sseq ?_
  refine sreg ?_
  refine s1 (ldB [] rfl rfl sh_50 (by exact rfl) (by exact rfl) rfl rfl (.inr ⟨rfl, rfl, _, _, rfl⟩)) ?_
  refine bd fun r1 h2 => ?_
  refine s1 (call0 (c_tree_Codes _ h2) ⟨⟨_, rfl, rn_id if_L_tree_Field⟩, trivial⟩ (if_sli) rfl) ?_
  refine s1 (lenL (f := L_S_tree_Node) Tryd.underlying48 rfl rfl) ?_
  refine s1 (mv rfl (kI (x := 0) rfl)) ?_
  refine snil ?_
  refine pnm ?_
  refine sblk ?_
  refine srangeN (fun (s12 : Int) => [(2, i64 (0 : Int)), (3, i64 s12), (7, sli 1 (List.map L_S_tree_Node r1))]) (fun (s12 : Int) => []) rfl (fun _ => rfl) (entR [] rfl (keepS hγ trivial) (by exact trivial) (by exact trivial) ⟨⟨_, rfl, rn_id if_i64⟩, ⟨_, rfl, rn_id if_i64⟩, ⟨_, rfl, rn_id if_i64⟩, ⟨_, rfl, rn_id if_i64⟩, ⟨_, rfl, rn_id if_sli⟩, trivial⟩) ?_ ?_
  · intro i13 x14 s12 hx15
    refine sblk ?_
    refine sseq ?_
    refine sreg ?_
    refine s1 (ixR (f := L_S_tree_Node) Tryd.underlying48 ti_56 (getI_nat hx15) rfl rfl rfl) ?_
    refine s1 (ldR sh_56 (by exact rfl) (by exact rfl) rfl rfl) ?_
    refine s1 (asg rfl rfl) ?_
    refine snil ?_
    refine pnm ?_
    refine sreg ?_
    refine s1 (mv rfl rfl) ?_
    refine s1 (mv rfl rfl) ?_
    refine s1 (lenL (f := L_tree_Node) Tryd.underlying56 rfl rfl) ?_
    refine s1 (addI rfl rfl rfl) ?_
    refine s1 (asg rfl rfl) ?_
    refine snil ?_
    refine pbn ?_
    exact sgo (entI ⟨rfl, rfl, rfl, rfl, rfl, trivial⟩ eqm0)
  · intro s16
    refine sx ?_
    refine pnm ?_
    refine sseq ?_
    refine sreg ?_
    refine s1 (mv rfl rfl) ?_
    refine s1 (asg rfl rfl) ?_
    refine snil ?_
    refine pnm ?_
    refine sret ?_
    exact ret [] [.tmp 2] [_] [_] .ret hγ (.inl rfl) rfl ⟨rfl, trivial⟩ rfl trivial trivial trivial (rns_cons (rn_id if_i64) (rns_nil)) rfl
theorem c_check_whole {x0 : M_tree_Field} {x1 : Int} {x2 : Int} : ∀ r, m_check_whole x0 x1 x2 = some r → FnOk Tryd.prog 54 [L_tree_Field x0, i64 x1, i64 x2] [] (bl r) [] := by
  unfold m_check_whole
  refine fn_of_sq (res := fun (r : Bool) => bl r) (mo := fun (r : Bool) => []) Tryd.func54 rfl rfl (by kernel_rfl) rfl ?_
  intro w S0 γ hγ
  refine sseq ?_
  refine sreg ?_
  refine so (box (y := 100) (by exact rfl) rfl rfl rfl) ?_
  refine s1 (asg rfl kB) ?_
  refine snil ?_
  refine pnm ?_
  refine sjq (fun (s5 : Bool) => [(6, bl s5)]) (fun (s5 : Bool) => []) ?_ ?_
  · intro j3 hj4
    refine sreg ?_
    refine s1 (mv rfl rfl) ?_
    refine s1 (geI rfl rfl (kI (x := 1) rfl)) ?_
    refine s1 (mv rfl rfl) ?_
    refine sifd 9 rfl ?_ ?_
    · refine sg 9 rfl rfl (mv rfl rfl) ?_
      refine sg 9 rfl rfl (leI rfl rfl (kI (x := 6) rfl)) ?_
      refine s1 (pickT rfl rfl rfl) ?_
      refine s1 (mv rfl rfl) ?_
      refine sifd 13 rfl ?_ ?_
      · refine sg 13 rfl rfl (mv rfl rfl) ?_
        refine sg 13 rfl rfl (geI rfl rfl (kI (x := 0) rfl)) ?_
        refine s1 (pickT rfl rfl rfl) ?_
        refine s1 (mv rfl rfl) ?_
        refine sifd 17 rfl ?_ ?_
        · refine sg 17 rfl rfl (mv rfl rfl) ?_
          refine sg 17 rfl rfl (leI rfl rfl (kI (x := 6) rfl)) ?_
          refine s1 (pickT rfl rfl rfl) ?_
          refine s1 (mv rfl rfl) ?_
          refine sifd 21 rfl ?_ ?_
          · refine sg 21 rfl rfl (faO rfl fd_50_1 rfl rfl) ?_
            refine sg 21 rfl rfl (ldB [1] rfl (by exact rfl) sh_48 (by exact rfl) (by exact rfl) rfl rfl (.inl rfl)) ?_
            refine sg 21 rfl rfl (lenL (f := L_S_tree_Node) Tryd.underlying48 rfl rfl) ?_
            refine sg 21 rfl rfl (mv rfl rfl) ?_
            refine sg 21 rfl rfl (eqI rfl rfl rfl) ?_
            refine s1 (pickT rfl rfl rfl) ?_
            refine s1 (mv rfl rfl) ?_
            refine sifd 28 rfl ?_ ?_
            · refine sg 28 rfl rfl (faO rfl fd_50_0 rfl rfl) ?_
              refine sg 28 rfl rfl (ldB [0] rfl (by exact rfl) sh_47 (by exact rfl) (by exact rfl) rfl rfl (.inl rfl)) ?_
              refine sg 28 rfl rfl (lenL (f := L_tree_Let) Tryd.underlying47 rfl rfl) ?_
              refine sg 28 rfl rfl (leI rfl rfl (kI (x := 10) rfl)) ?_
              refine s1 (pickT rfl rfl rfl) ?_
              refine s1 (mv rfl rfl) ?_
              refine sifd 34 rfl ?_ ?_
              · refine sg 34 rfl rfl (ldB [] rfl rfl sh_50 (by exact rfl) (by exact rfl) rfl rfl (.inr ⟨rfl, rfl, _, _, rfl⟩)) ?_
                refine bd fun r6 h7 => ?_
                refine sg 34 rfl rfl (call0 (c_tree_Size _ h7) ⟨⟨_, rfl, rn_id if_L_tree_Field⟩, trivial⟩ (if_i64) rfl) ?_
                refine sg 34 rfl rfl (leI rfl rfl (kI (x := 300) rfl)) ?_
                refine s1 (pickT rfl rfl rfl) ?_
                refine s1 (asg rfl rfl) ?_
                refine snil ?_
                refine pnm ?_
                exact sj (hj4 _) (entR [] rfl (keepS hγ trivial) (by exact trivial) (by exact trivial) ⟨⟨_, rfl, rn_id if_bl⟩, trivial⟩)
              · refine spB 34 rfl rfl rfl ?_
                refine spB 34 rfl rfl rfl ?_
                refine spB 34 rfl rfl rfl ?_
                refine s1 (pickF rfl rfl kB) ?_
                refine s1 (asg rfl rfl) ?_
                refine snil ?_
                refine pnm ?_
                exact sj (hj4 _) (entR [] rfl (keepS hγ trivial) (by exact trivial) (by exact trivial) ⟨⟨_, rfl, rn_id if_bl⟩, trivial⟩)
            · refine spB 28 rfl rfl rfl ?_
              refine spB 28 rfl rfl rfl ?_
              refine spB 28 rfl rfl rfl ?_
              refine spB 28 rfl rfl rfl ?_
              refine s1 (pickF rfl rfl kB) ?_
              refine s1 (mv rfl rfl) ?_
              refine spB 34 rfl rfl rfl ?_
              refine spB 34 rfl rfl rfl ?_
              refine spB 34 rfl rfl rfl ?_
              refine s1 (pickF rfl rfl kB) ?_
              refine s1 (asg rfl rfl) ?_
              refine snil ?_
              refine pnm ?_
              exact sj (hj4 _) (entR [] rfl (keepS hγ trivial) (by exact trivial) (by exact trivial) ⟨⟨_, rfl, rn_id if_bl⟩, trivial⟩)
          · refine spB 21 rfl rfl rfl ?_
            refine spB 21 rfl rfl rfl ?_
            refine spB 21 rfl rfl rfl ?_
            refine spB 21 rfl rfl rfl ?_
            refine spB 21 rfl rfl rfl ?_
            refine s1 (pickF rfl rfl kB) ?_
            refine s1 (mv rfl rfl) ?_
            refine spB 28 rfl rfl rfl ?_
            refine spB 28 rfl rfl rfl ?_
            refine spB 28 rfl rfl rfl ?_
            refine spB 28 rfl rfl rfl ?_
            refine s1 (pickF rfl rfl kB) ?_
            refine s1 (mv rfl rfl) ?_
            refine spB 34 rfl rfl rfl ?_
            refine spB 34 rfl rfl rfl ?_
            refine spB 34 rfl rfl rfl ?_
            refine s1 (pickF rfl rfl kB) ?_
            refine s1 (asg rfl rfl) ?_
            refine snil ?_
            refine pnm ?_
            exact sj (hj4 _) (entR [] rfl (keepS hγ trivial) (by exact trivial) (by exact trivial) ⟨⟨_, rfl, rn_id if_bl⟩, trivial⟩)
        · refine spB 17 rfl rfl rfl ?_
          refine spB 17 rfl rfl rfl ?_
          refine s1 (pickF rfl rfl kB) ?_
          refine s1 (mv rfl rfl) ?_
          refine spB 21 rfl rfl rfl ?_
          refine spB 21 rfl rfl rfl ?_
          refine spB 21 rfl rfl rfl ?_
          refine spB 21 rfl rfl rfl ?_
          refine spB 21 rfl rfl rfl ?_
          refine s1 (pickF rfl rfl kB) ?_
          refine s1 (mv rfl rfl) ?_
          refine spB 28 rfl rfl rfl ?_
          refine spB 28 rfl rfl rfl ?_
          refine spB 28 rfl rfl rfl ?_
          refine spB 28 rfl rfl rfl ?_
          refine s1 (pickF rfl rfl kB) ?_
          refine s1 (mv rfl rfl) ?_
          refine spB 34 rfl rfl rfl ?_
          refine spB 34 rfl rfl rfl ?_
          refine spB 34 rfl rfl rfl ?_
          refine s1 (pickF rfl rfl kB) ?_
          refine s1 (asg rfl rfl) ?_
          refine snil ?_
          refine pnm ?_
          exact sj (hj4 _) (entR [] rfl (keepS hγ trivial) (by exact trivial) (by exact trivial) ⟨⟨_, rfl, rn_id if_bl⟩, trivial⟩)
      · refine spB 13 rfl rfl rfl ?_
        refine spB 13 rfl rfl rfl ?_
        refine s1 (pickF rfl rfl kB) ?_
        refine s1 (mv rfl rfl) ?_
        refine spB 17 rfl rfl rfl ?_
        refine spB 17 rfl rfl rfl ?_
        refine s1 (pickF rfl rfl kB) ?_
        refine s1 (mv rfl rfl) ?_
        refine spB 21 rfl rfl rfl ?_
        refine spB 21 rfl rfl rfl ?_
        refine spB 21 rfl rfl rfl ?_
        refine spB 21 rfl rfl rfl ?_
        refine spB 21 rfl rfl rfl ?_
        refine s1 (pickF rfl rfl kB) ?_
        refine s1 (mv rfl rfl) ?_
        refine spB 28 rfl rfl rfl ?_
        refine spB 28 rfl rfl rfl ?_
        refine spB 28 rfl rfl rfl ?_
        refine spB 28 rfl rfl rfl ?_
        refine s1 (pickF rfl rfl kB) ?_
        refine s1 (mv rfl rfl) ?_
        refine spB 34 rfl rfl rfl ?_
        refine spB 34 rfl rfl rfl ?_
        refine spB 34 rfl rfl rfl ?_
        refine s1 (pickF rfl rfl kB) ?_
        refine s1 (asg rfl rfl) ?_
        refine snil ?_
        refine pnm ?_
        exact sj (hj4 _) (entR [] rfl (keepS hγ trivial) (by exact trivial) (by exact trivial) ⟨⟨_, rfl, rn_id if_bl⟩, trivial⟩)
    · refine spB 9 rfl rfl rfl ?_
      refine spB 9 rfl rfl rfl ?_
      refine s1 (pickF rfl rfl kB) ?_
      refine s1 (mv rfl rfl) ?_
      refine spB 13 rfl rfl rfl ?_
      refine spB 13 rfl rfl rfl ?_
      refine s1 (pickF rfl rfl kB) ?_
      refine s1 (mv rfl rfl) ?_
      refine spB 17 rfl rfl rfl ?_
      refine spB 17 rfl rfl rfl ?_
      refine s1 (pickF rfl rfl kB) ?_
      refine s1 (mv rfl rfl) ?_
      refine spB 21 rfl rfl rfl ?_
      refine spB 21 rfl rfl rfl ?_
      refine spB 21 rfl rfl rfl ?_
      refine spB 21 rfl rfl rfl ?_
      refine spB 21 rfl rfl rfl ?_
      refine s1 (pickF rfl rfl kB) ?_
      refine s1 (mv rfl rfl) ?_
      refine spB 28 rfl rfl rfl ?_
      refine spB 28 rfl rfl rfl ?_
      refine spB 28 rfl rfl rfl ?_
      refine spB 28 rfl rfl rfl ?_
      refine s1 (pickF rfl rfl kB) ?_
      refine s1 (mv rfl rfl) ?_
      refine spB 34 rfl rfl rfl ?_
      refine spB 34 rfl rfl rfl ?_
      refine spB 34 rfl rfl rfl ?_
      refine s1 (pickF rfl rfl kB) ?_
      refine s1 (asg rfl rfl) ?_
      refine snil ?_
      refine pnm ?_
      exact sj (hj4 _) (entR [] rfl (keepS hγ trivial) (by exact trivial) (by exact trivial) ⟨⟨_, rfl, rn_id if_bl⟩, trivial⟩)
  · intro s5
    refine sret ?_
    exact ret [] [.tmp 6] [_] [_] .ret hγ (.inl rfl) rfl ⟨rfl, trivial⟩ rfl trivial trivial trivial (rns_cons (rn_id if_bl) (rns_nil)) rfl
theorem c_lex_digit {x0 : Nat} : ∀ r, m_lex_digit x0 = some r → FnOk Tryd.prog 86 [u8 x0] [] (bl r) [] := by
  unfold m_lex_digit
  refine fn_of_sq (res := fun (r : Bool) => bl r) (mo := fun (r : Bool) => []) Tryd.func86 rfl rfl (by kernel_rfl) rfl ?_
  intro w S0 γ hγ
  refine sseq ?_
  refine sreg ?_
  refine s1 (asg rfl kB) ?_
  refine snil ?_
  refine pnm ?_
  refine sjq (fun (s3 : Bool) => [(2, bl s3)]) (fun (s3 : Bool) => []) ?_ ?_
  · intro j1 hj2
    refine sreg ?_
    refine s1 (mv rfl rfl) ?_
    refine s1 (geU .u8 rfl rfl (k8 (x := 48) rfl)) ?_
    refine s1 (mv rfl rfl) ?_
    refine sifd 5 rfl ?_ ?_
    · refine sg 5 rfl rfl (mv rfl rfl) ?_
      refine sg 5 rfl rfl (leU .u8 rfl rfl (k8 (x := 57) rfl)) ?_
      refine s1 (pickT rfl rfl rfl) ?_
      refine s1 (asg rfl rfl) ?_
      refine snil ?_
      refine pnm ?_
      exact sj (hj2 _) (entI ⟨rfl, trivial⟩ eqm0)
    · refine spB 5 rfl rfl rfl ?_
      refine spB 5 rfl rfl rfl ?_
      refine s1 (pickF rfl rfl kB) ?_
      refine s1 (asg rfl rfl) ?_
      refine snil ?_
      refine pnm ?_
      exact sj (hj2 _) (entI ⟨rfl, trivial⟩ eqm0)
  · intro s3
    refine sret ?_
    exact ret [] [.tmp 2] [_] [_] .ret hγ (.inl rfl) rfl ⟨rfl, trivial⟩ rfl trivial trivial trivial (rns_cons (rn_id if_bl) (rns_nil)) rfl
theorem c_lex_letter {x0 : Nat} : ∀ r, m_lex_letter x0 = some r → FnOk Tryd.prog 87 [u8 x0] [] (bl r) [] := by
  unfold m_lex_letter
  refine fn_of_sq (res := fun (r : Bool) => bl r) (mo := fun (r : Bool) => []) Tryd.func87 rfl rfl (by kernel_rfl) rfl ?_
  intro w S0 γ hγ
  refine sseq ?_
  refine sreg ?_
  refine s1 (asg rfl kB) ?_
  refine snil ?_
  refine pnm ?_
  refine sjq (fun (s3 : Bool) => [(2, bl s3)]) (fun (s3 : Bool) => []) ?_ ?_
  · intro j1 hj2
    refine sreg ?_
    refine s1 (mv rfl rfl) ?_
    refine s1 (geU .u8 rfl rfl (k8 (x := 97) rfl)) ?_
    refine s1 (mv rfl rfl) ?_
    refine sifd 5 rfl ?_ ?_
    · refine sg 5 rfl rfl (mv rfl rfl) ?_
      refine sg 5 rfl rfl (leU .u8 rfl rfl (k8 (x := 122) rfl)) ?_
      refine s1 (pickT rfl rfl rfl) ?_
      refine s1 (mv rfl rfl) ?_
      refine sifd 9 rfl ?_ ?_
      · refine spB 9 rfl rfl rfl ?_
        refine spB 9 rfl rfl rfl ?_
        refine spB 9 rfl rfl rfl ?_
        refine spU 12 rfl rfl rfl ?_
        refine spU 12 rfl rfl rfl ?_
        refine spB 9 rfl rfl rfl ?_
        refine s1 (pickT rfl rfl kB) ?_
        refine s1 (mv rfl rfl) ?_
        refine spB 17 rfl rfl rfl ?_
        refine spB 17 rfl rfl rfl ?_
        refine s1 (pickT rfl rfl kB) ?_
        refine s1 (asg rfl rfl) ?_
        refine snil ?_
        refine pnm ?_
        exact sj (hj2 _) (entI ⟨rfl, trivial⟩ eqm0)
      · refine sg 9 rfl rfl (mv rfl rfl) ?_
        refine sg 9 rfl rfl (geU .u8 rfl rfl (k8 (x := 65) rfl)) ?_
        refine sg 9 rfl rfl (mv rfl rfl) ?_
        refine sifd 12 rfl ?_ ?_
        · refine sg 12 rfl rfl (mv rfl rfl) ?_
          refine sg 12 rfl rfl (leU .u8 rfl rfl (k8 (x := 90) rfl)) ?_
          refine sg 9 rfl rfl (pickT rfl rfl rfl) ?_
          refine s1 (pickF rfl rfl rfl) ?_
          refine s1 (mv rfl rfl) ?_
          refine sifd 17 rfl ?_ ?_
          · refine spB 17 rfl rfl rfl ?_
            refine spB 17 rfl rfl rfl ?_
            refine s1 (pickT rfl rfl kB) ?_
            refine s1 (asg rfl rfl) ?_
            refine snil ?_
            refine pnm ?_
            exact sj (hj2 _) (entI ⟨rfl, trivial⟩ eqm0)
          · refine sg 17 rfl rfl (mv rfl rfl) ?_
            refine sg 17 rfl rfl (eqU .u8 rfl rfl (k8 (x := 95) rfl)) ?_
            refine s1 (pickF rfl rfl rfl) ?_
            refine s1 (asg rfl rfl) ?_
            refine snil ?_
            refine pnm ?_
            exact sj (hj2 _) (entI ⟨rfl, trivial⟩ eqm0)
        · refine spB 12 rfl rfl rfl ?_
          refine spB 12 rfl rfl rfl ?_
          refine sg 9 rfl rfl (pickF rfl rfl kB) ?_
          refine s1 (pickF rfl rfl rfl) ?_
          refine s1 (mv rfl rfl) ?_
          refine sg 17 rfl rfl (mv rfl rfl) ?_
          refine sg 17 rfl rfl (eqU .u8 rfl rfl (k8 (x := 95) rfl)) ?_
          refine s1 (pickF rfl rfl rfl) ?_
          refine s1 (asg rfl rfl) ?_
          refine snil ?_
          refine pnm ?_
          exact sj (hj2 _) (entI ⟨rfl, trivial⟩ eqm0)
    · refine spB 5 rfl rfl rfl ?_
      refine spB 5 rfl rfl rfl ?_
      refine s1 (pickF rfl rfl kB) ?_
      refine s1 (mv rfl rfl) ?_
      refine sg 9 rfl rfl (mv rfl rfl) ?_
      refine sg 9 rfl rfl (geU .u8 rfl rfl (k8 (x := 65) rfl)) ?_
      refine sg 9 rfl rfl (mv rfl rfl) ?_
      refine sifd 12 rfl ?_ ?_
      · refine sg 12 rfl rfl (mv rfl rfl) ?_
        refine sg 12 rfl rfl (leU .u8 rfl rfl (k8 (x := 90) rfl)) ?_
        refine sg 9 rfl rfl (pickT rfl rfl rfl) ?_
        refine s1 (pickF rfl rfl rfl) ?_
        refine s1 (mv rfl rfl) ?_
        refine sifd 17 rfl ?_ ?_
        · refine spB 17 rfl rfl rfl ?_
          refine spB 17 rfl rfl rfl ?_
          refine s1 (pickT rfl rfl kB) ?_
          refine s1 (asg rfl rfl) ?_
          refine snil ?_
          refine pnm ?_
          exact sj (hj2 _) (entI ⟨rfl, trivial⟩ eqm0)
        · refine sg 17 rfl rfl (mv rfl rfl) ?_
          refine sg 17 rfl rfl (eqU .u8 rfl rfl (k8 (x := 95) rfl)) ?_
          refine s1 (pickF rfl rfl rfl) ?_
          refine s1 (asg rfl rfl) ?_
          refine snil ?_
          refine pnm ?_
          exact sj (hj2 _) (entI ⟨rfl, trivial⟩ eqm0)
      · refine spB 12 rfl rfl rfl ?_
        refine spB 12 rfl rfl rfl ?_
        refine sg 9 rfl rfl (pickF rfl rfl kB) ?_
        refine s1 (pickF rfl rfl rfl) ?_
        refine s1 (mv rfl rfl) ?_
        refine sg 17 rfl rfl (mv rfl rfl) ?_
        refine sg 17 rfl rfl (eqU .u8 rfl rfl (k8 (x := 95) rfl)) ?_
        refine s1 (pickF rfl rfl rfl) ?_
        refine s1 (asg rfl rfl) ?_
        refine snil ?_
        refine pnm ?_
        exact sj (hj2 _) (entI ⟨rfl, trivial⟩ eqm0)
  · intro s3
    refine sret ?_
    exact ret [] [.tmp 2] [_] [_] .ret hγ (.inl rfl) rfl ⟨rfl, trivial⟩ rfl trivial trivial trivial (rns_cons (rn_id if_bl) (rns_nil)) rfl
theorem c_lex_sign {n : Nat} {x0 : Nat} : ∀ r, m_lex_sign n x0 = some r → FnOk Tryd.prog 88 [u8 x0] [] (bl r) [] := by
  unfold m_lex_sign
  refine fn_of_sq (res := fun (r : Bool) => bl r) (mo := fun (r : Bool) => []) Tryd.func88 rfl rfl (by kernel_rfl) rfl ?_
  intro w S0 γ hγ
  refine sseq ?_
  refine sreg ?_
  refine s1 (asg rfl kB) ?_
  refine snil ?_
  refine pnm ?_
  refine sseq ?_
  refine sseq ?_
  refine sreg ?_
  refine so (rngS (y := 100) Tryd.underlying9 (kS (s := [43, 45, 42, 47, 94, 40, 41, 91, 93, 44, 59, 61]) rfl) rfl rfl) ?_
  refine snil ?_
  refine pnm ?_
  refine sblk ?_
  refine sloopE 0 Lp.go (fun (s9 : Nat) => [(0, u8 x0), (2, bl false), (5, .own 100)]) (fun (s9 : Nat) => [(100, .ob (sIt ([43, 45, 42, 47, 94, 40, 41, 91, 93, 44, 59, 61] : List UInt8) s9))]) (fun (t7 : Unit) => [(2, bl false)]) (fun (t7 : Unit) => []) (entR [(100, 100)] rfl (keepS hγ trivial) ⟨⟨_, rfl⟩, trivial⟩ ⟨⟨_, _, rfl, rfl, rci (rc_ob)⟩, trivial⟩ ⟨⟨_, rfl, rn_id if_u8⟩, ⟨_, rfl, rn_id if_bl⟩, ⟨_, rfl, rn_own rfl⟩, trivial⟩) ?_ ?_
  · intro hj8 s9
    refine sseq ?_
    refine sreg ?_
    refine sif (fun hb10 => ?_) (fun hb10 => ?_)
    · refine so (nxtT hb10 rfl rfl rfl rfl) ?_
      refine s1 (ext (by exact rfl) rfl rfl) ?_
      refine snil ?_
      refine pnm ?_
      refine sseq ?_
      refine scT rfl ?_
      refine sskip ?_
      refine pnm ?_
      refine sblk ?_
      refine sseq ?_
      refine sreg ?_
      refine s1 (ext (by exact rfl) rfl rfl) ?_
      refine sbn (F := i32) 8 rfl fun z11 => ?_
      refine s1 (asg rfl rfl) ?_
      refine snil ?_
      refine pnm ?_
      refine sseq ?_
      refine sreg ?_
      refine s1 (mv rfl rfl) ?_
      refine s1 (cvIU uk8 Tryd.underlying21 Tryd.underlying5 rfl rfl) ?_
      refine s1 (mv rfl rfl) ?_
      refine s1 (eqU .u8 rfl rfl rfl) ?_
      refine snil ?_
      refine pnm ?_
      refine scond rfl ?_ ?_
      · refine sseq ?_
        refine sreg ?_
        refine s1 (asg rfl kB) ?_
        refine snil ?_
        refine pnm ?_
        refine sret ?_
        refine pbl ?_
        refine sout (fun h => by cases h) ?_
        refine pbl ?_
        refine pth ?_
        exact ret [] [.tmp 2] [_] [_] .ret hγ (.inl rfl) rfl ⟨rfl, trivial⟩ rfl trivial trivial trivial (rns_cons (rn_id if_bl) (rns_nil)) rfl
      · refine sskip ?_
        refine pbn ?_
        exact sgo (entR [(100, 100)] rfl (keepS hγ trivial) ⟨⟨_, rfl⟩, trivial⟩ ⟨⟨_, _, rfl, rfl, rci (rc_ob)⟩, trivial⟩ ⟨⟨_, rfl, rn_id if_u8⟩, ⟨_, rfl, rn_id if_bl⟩, ⟨_, rfl, rn_own rfl⟩, trivial⟩)
    · refine s1 (nxtF hb10 rfl rfl rfl) ?_
      refine s1 (ext (by exact rfl) rfl rfl) ?_
      refine snil ?_
      refine pnm ?_
      refine sseq ?_
      refine scF rfl ?_
      refine sexit ?_
      refine ptx ?_
      exact sout (fun h => by cases h) (sj (hj8 _) (entR [] rfl (keepS hγ trivial) (by exact trivial) (by exact trivial) ⟨⟨_, rfl, rn_id if_bl⟩, trivial⟩))
  · intro t7
    refine slpk ?_
    refine sx ?_
    refine pnm ?_
    refine sseq ?_
    refine sreg ?_
    refine s1 (asg rfl kB) ?_
    refine snil ?_
    refine pnm ?_
    refine sret ?_
    exact ret [] [.tmp 2] [_] [_] .ret hγ (.inl rfl) rfl ⟨rfl, trivial⟩ rfl trivial trivial trivial (rns_cons (rn_id if_bl) (rns_nil)) rfl
theorem c_lex_kind {n : Nat} {x0 : Nat} : ∀ r, m_lex_kind n x0 = some r → FnOk Tryd.prog 76 [u8 x0] [] (i64 r) [] := by
  unfold m_lex_kind
  refine fn_of_sq (res := fun (r : Int) => i64 r) (mo := fun (r : Int) => []) Tryd.func76 rfl rfl (by kernel_rfl) rfl ?_
  intro w S0 γ hγ
  refine sseq ?_
  refine sreg ?_
  refine s1 (asg rfl (kI (x := 0) rfl)) ?_
  refine snil ?_
  refine pnm ?_
  refine sseq ?_
  refine sblk ?_
  refine sseq ?_
  refine sreg ?_
  refine s1 (mv rfl rfl) ?_
  refine bd fun r1 h2 => ?_
  refine s1 (call0 (c_lex_digit _ h2) ⟨⟨_, rfl, rn_id if_u8⟩, trivial⟩ (if_bl) rfl) ?_
  refine s1 (asg rfl rfl) ?_
  refine snil ?_
  refine pnm ?_
  refine scond rfl ?_ ?_
  · refine sseq ?_
    refine sreg ?_
    refine s1 (asg rfl (kI (x := 1) rfl)) ?_
    refine snil ?_
    refine pnm ?_
    refine sret ?_
    refine pbl ?_
    refine pth ?_
    exact ret [] [.tmp 2] [_] [_] .ret hγ (.inl rfl) rfl ⟨rfl, trivial⟩ rfl trivial trivial trivial (rns_cons (rn_id if_i64) (rns_nil)) rfl
  · refine sseq ?_
    refine sreg ?_
    refine s1 (mv rfl rfl) ?_
    refine bd fun r3 h4 => ?_
    refine s1 (call0 (c_lex_letter _ h4) ⟨⟨_, rfl, rn_id if_u8⟩, trivial⟩ (if_bl) rfl) ?_
    refine s1 (asg rfl rfl) ?_
    refine snil ?_
    refine pnm ?_
    refine scond rfl ?_ ?_
    · refine sseq ?_
      refine sreg ?_
      refine s1 (asg rfl (kI (x := 2) rfl)) ?_
      refine snil ?_
      refine pnm ?_
      refine sret ?_
      refine pbl ?_
      refine pth ?_
      exact ret [] [.tmp 2] [_] [_] .ret hγ (.inl rfl) rfl ⟨rfl, trivial⟩ rfl trivial trivial trivial (rns_cons (rn_id if_i64) (rns_nil)) rfl
    · refine sseq ?_
      refine sreg ?_
      refine s1 (mv rfl rfl) ?_
      refine bd fun r5 h6 => ?_
      refine s1 (call0 (c_lex_sign _ h6) ⟨⟨_, rfl, rn_id if_u8⟩, trivial⟩ (if_bl) rfl) ?_
      refine s1 (asg rfl rfl) ?_
      refine snil ?_
      refine pnm ?_
      refine scond rfl ?_ ?_
      · refine sseq ?_
        refine sreg ?_
        refine s1 (asg rfl (kI (x := 3) rfl)) ?_
        refine snil ?_
        refine pnm ?_
        refine sret ?_
        refine pbl ?_
        refine pth ?_
        exact ret [] [.tmp 2] [_] [_] .ret hγ (.inl rfl) rfl ⟨rfl, trivial⟩ rfl trivial trivial trivial (rns_cons (rn_id if_i64) (rns_nil)) rfl
      · refine sskip ?_
        refine pbn ?_
        refine pnm ?_
        refine sseq ?_
        refine sreg ?_
        refine s1 (asg rfl (kI (x := 0) rfl)) ?_
        refine snil ?_
        refine pnm ?_
        refine sret ?_
        exact ret [] [.tmp 2] [_] [_] .ret hγ (.inl rfl) rfl ⟨rfl, trivial⟩ rfl trivial trivial trivial (rns_cons (rn_id if_i64) (rns_nil)) rfl
theorem c_lex_goes {x0 : Int} {x1 : Nat} : ∀ r, m_lex_goes x0 x1 = some r → FnOk Tryd.prog 89 [i64 x0, u8 x1] [] (bl r) [] := by
  unfold m_lex_goes
  refine fn_of_sq (res := fun (r : Bool) => bl r) (mo := fun (r : Bool) => []) Tryd.func89 rfl rfl (by kernel_rfl) rfl ?_
  intro w S0 γ hγ
  refine sseq ?_
  refine sreg ?_
  refine s1 (asg rfl kB) ?_
  refine snil ?_
  refine pnm ?_
  refine sjq (fun (s13 : Bool) => [(4, bl s13)]) (fun (s13 : Bool) => []) ?_ ?_
  · intro j11 hj12
    refine sreg ?_
    refine s1 (mv rfl rfl) ?_
    refine s1 (eqI rfl rfl (kI (x := 1) rfl)) ?_
    refine s1 (mv rfl rfl) ?_
    refine sifd 7 rfl ?_ ?_
    · refine sg 7 rfl rfl (mv rfl rfl) ?_
      refine bd fun r14 h15 => ?_
      refine sg 7 rfl rfl (call0 (c_lex_digit _ h15) ⟨⟨_, rfl, rn_id if_u8⟩, trivial⟩ (if_bl) rfl) ?_
      refine s1 (pickT rfl rfl rfl) ?_
      refine s1 (mv rfl rfl) ?_
      refine sifd 11 rfl ?_ ?_
      · refine spB 11 rfl rfl rfl ?_
        refine spB 11 rfl rfl rfl ?_
        refine spB 11 rfl rfl rfl ?_
        refine spU 14 rfl rfl rfl ?_
        refine spU 14 rfl rfl rfl ?_
        refine spU 14 rfl rfl rfl ?_
        refine spU 17 rfl rfl rfl ?_
        refine spU 17 rfl rfl rfl ?_
        refine spU 14 rfl rfl rfl ?_
        refine spB 11 rfl rfl rfl ?_
        refine s1 (pickT rfl rfl kB) ?_
        refine s1 (asg rfl rfl) ?_
        refine snil ?_
        refine pnm ?_
        exact sj (hj12 _) (entI ⟨rfl, trivial⟩ eqm0)
      · refine sg 11 rfl rfl (mv rfl rfl) ?_
        refine sg 11 rfl rfl (eqI rfl rfl (kI (x := 2) rfl)) ?_
        refine sg 11 rfl rfl (mv rfl rfl) ?_
        refine sifd 14 rfl ?_ ?_
        · refine sg 14 rfl rfl (mv rfl rfl) ?_
          refine bd fun r16 h17 => ?_
          refine sg 14 rfl rfl (call0 (c_lex_letter _ h17) ⟨⟨_, rfl, rn_id if_u8⟩, trivial⟩ (if_bl) rfl) ?_
          refine sg 14 rfl rfl (mv rfl rfl) ?_
          refine sifd 17 rfl ?_ ?_
          · refine spB 17 rfl rfl rfl ?_
            refine spB 17 rfl rfl rfl ?_
            refine sg 14 rfl rfl (pickT rfl rfl kB) ?_
            refine sg 11 rfl rfl (pickT rfl rfl rfl) ?_
            refine s1 (pickF rfl rfl rfl) ?_
            refine s1 (asg rfl rfl) ?_
            refine snil ?_
            refine pnm ?_
            exact sj (hj12 _) (entI ⟨rfl, trivial⟩ eqm0)
          · refine sg 17 rfl rfl (mv rfl rfl) ?_
            refine bd fun r18 h19 => ?_
            refine sg 17 rfl rfl (call0 (c_lex_digit _ h19) ⟨⟨_, rfl, rn_id if_u8⟩, trivial⟩ (if_bl) rfl) ?_
            refine sg 14 rfl rfl (pickF rfl rfl rfl) ?_
            refine sg 11 rfl rfl (pickT rfl rfl rfl) ?_
            refine s1 (pickF rfl rfl rfl) ?_
            refine s1 (asg rfl rfl) ?_
            refine snil ?_
            refine pnm ?_
            exact sj (hj12 _) (entI ⟨rfl, trivial⟩ eqm0)
        · refine spB 14 rfl rfl rfl ?_
          refine spB 14 rfl rfl rfl ?_
          refine spB 14 rfl rfl rfl ?_
          refine spU 17 rfl rfl rfl ?_
          refine spU 17 rfl rfl rfl ?_
          refine spB 14 rfl rfl rfl ?_
          refine sg 11 rfl rfl (pickF rfl rfl kB) ?_
          refine s1 (pickF rfl rfl rfl) ?_
          refine s1 (asg rfl rfl) ?_
          refine snil ?_
          refine pnm ?_
          exact sj (hj12 _) (entI ⟨rfl, trivial⟩ eqm0)
    · refine spB 7 rfl rfl rfl ?_
      refine spB 7 rfl rfl rfl ?_
      refine s1 (pickF rfl rfl kB) ?_
      refine s1 (mv rfl rfl) ?_
      refine sg 11 rfl rfl (mv rfl rfl) ?_
      refine sg 11 rfl rfl (eqI rfl rfl (kI (x := 2) rfl)) ?_
      refine sg 11 rfl rfl (mv rfl rfl) ?_
      refine sifd 14 rfl ?_ ?_
      · refine sg 14 rfl rfl (mv rfl rfl) ?_
        refine bd fun r20 h21 => ?_
        refine sg 14 rfl rfl (call0 (c_lex_letter _ h21) ⟨⟨_, rfl, rn_id if_u8⟩, trivial⟩ (if_bl) rfl) ?_
        refine sg 14 rfl rfl (mv rfl rfl) ?_
        refine sifd 17 rfl ?_ ?_
        · refine spB 17 rfl rfl rfl ?_
          refine spB 17 rfl rfl rfl ?_
          refine sg 14 rfl rfl (pickT rfl rfl kB) ?_
          refine sg 11 rfl rfl (pickT rfl rfl rfl) ?_
          refine s1 (pickF rfl rfl rfl) ?_
          refine s1 (asg rfl rfl) ?_
          refine snil ?_
          refine pnm ?_
          exact sj (hj12 _) (entI ⟨rfl, trivial⟩ eqm0)
        · refine sg 17 rfl rfl (mv rfl rfl) ?_
          refine bd fun r22 h23 => ?_
          refine sg 17 rfl rfl (call0 (c_lex_digit _ h23) ⟨⟨_, rfl, rn_id if_u8⟩, trivial⟩ (if_bl) rfl) ?_
          refine sg 14 rfl rfl (pickF rfl rfl rfl) ?_
          refine sg 11 rfl rfl (pickT rfl rfl rfl) ?_
          refine s1 (pickF rfl rfl rfl) ?_
          refine s1 (asg rfl rfl) ?_
          refine snil ?_
          refine pnm ?_
          exact sj (hj12 _) (entI ⟨rfl, trivial⟩ eqm0)
      · refine spB 14 rfl rfl rfl ?_
        refine spB 14 rfl rfl rfl ?_
        refine spB 14 rfl rfl rfl ?_
        refine spU 17 rfl rfl rfl ?_
        refine spU 17 rfl rfl rfl ?_
        refine spB 14 rfl rfl rfl ?_
        refine sg 11 rfl rfl (pickF rfl rfl kB) ?_
        refine s1 (pickF rfl rfl rfl) ?_
        refine s1 (asg rfl rfl) ?_
        refine snil ?_
        refine pnm ?_
        exact sj (hj12 _) (entI ⟨rfl, trivial⟩ eqm0)
  · intro s13
    refine sret ?_
    exact ret [] [.tmp 4] [_] [_] .ret hγ (.inl rfl) rfl ⟨rfl, trivial⟩ rfl trivial trivial trivial (rns_cons (rn_id if_bl) (rns_nil)) rfl
theorem c_lex_first {n : Nat} {x0 : (List UInt8)} {x1 : Int} : ∀ r, m_lex_first n x0 x1 = some r → FnOk Tryd.prog 77 [str x0, i64 x1] [] (i64 r) [] := by
  unfold m_lex_first
  refine fn_of_sq (res := fun (r : Int) => i64 r) (mo := fun (r : Int) => []) Tryd.func77 rfl rfl (by kernel_rfl) rfl ?_
  intro w S0 γ hγ
  refine sseq ?_
  refine sreg ?_
  refine s1 (asg rfl (kI (x := 0) rfl)) ?_
  refine snil ?_
  refine pnm ?_
  refine sseq ?_
  refine sreg ?_
  refine s1 (asg rfl (kI (x := 1) rfl)) ?_
  refine snil ?_
  refine pnm ?_
  refine sseq ?_
  refine sblk ?_
  refine sloopE 0 (fun t => t) (fun (s27 : Int) => [(0, str x0), (1, i64 x1), (4, i64 (0 : Int)), (5, i64 s27)]) (fun (s27 : Int) => []) (fun (t25 : Int) => [(4, i64 (0 : Int)), (5, i64 t25)]) (fun (t25 : Int) => []) (entI ⟨rfl, rfl, rfl, rfl, trivial⟩ eqm0) ?_ ?_
  · intro hj26 s27
    refine sseq ?_
    refine sjq (fun (s34 : Bool) => [(0, str x0), (1, i64 x1), (4, i64 (0 : Int)), (5, i64 s27), (16, bl s34)]) (fun (s34 : Bool) => []) ?_ ?_
    · intro j32 hj33
      refine sreg ?_
      refine s1 (mv rfl rfl) ?_
      refine s1 (mv rfl rfl) ?_
      refine s1 (lenS Tryd.underlying9 rfl rfl) ?_
      refine s1 (ltI rfl rfl rfl) ?_
      refine s1 (mv rfl rfl) ?_
      refine sifd 10 rfl ?_ ?_
      · refine sg 10 rfl rfl (mv rfl rfl) ?_
        refine sg 10 rfl rfl (mv rfl rfl) ?_
        refine sg 10 rfl rfl (mv rfl rfl) ?_
        refine bd fun y35 h36 => ?_
        refine sg 10 rfl rfl (ixS Tryd.underlying9 h36 rfl rfl rfl) ?_
        refine bd fun r37 h38 => ?_
        refine sg 10 rfl rfl (call0 (c_lex_goes _ h38) ⟨⟨_, rfl, rn_id if_i64⟩, ⟨_, rfl, rn_id if_u8⟩, trivial⟩ (if_bl) rfl) ?_
        refine s1 (pickT rfl rfl rfl) ?_
        refine snil ?_
        refine pnm ?_
        exact sj (hj33 _) (entI ⟨rfl, rfl, rfl, rfl, rfl, trivial⟩ eqm0)
      · refine spB 10 rfl rfl rfl ?_
        refine spB 10 rfl rfl rfl ?_
        refine spB 10 rfl rfl rfl ?_
        refine spB 10 rfl rfl rfl ?_
        refine spB 10 rfl rfl rfl ?_
        refine s1 (pickF rfl rfl kB) ?_
        refine snil ?_
        refine pnm ?_
        exact sj (hj33 _) (entI ⟨rfl, rfl, rfl, rfl, rfl, trivial⟩ eqm0)
    · intro s34
      refine scond rfl ?_ ?_
      · refine sskip ?_
        refine pnm ?_
        refine sblk ?_
        refine sreg ?_
        refine s1 (mv rfl rfl) ?_
        refine s1 (addI rfl rfl (kI (x := 1) rfl)) ?_
        refine s1 (asg rfl rfl) ?_
        refine snil ?_
        refine pbn ?_
        exact sgo (entI ⟨rfl, rfl, rfl, rfl, trivial⟩ eqm0)
      · refine sexit ?_
        refine ptx ?_
        exact sout (fun h => by cases h) (sj (hj26 _) (entI ⟨rfl, rfl, trivial⟩ eqm0))
  · intro t25
    refine sx ?_
    refine pnm ?_
    refine sseq ?_
    refine sreg ?_
    refine s1 (mv rfl rfl) ?_
    refine s1 (asg rfl rfl) ?_
    refine snil ?_
    refine pnm ?_
    refine sret ?_
    exact ret [] [.tmp 4] [_] [_] .ret hγ (.inl rfl) rfl ⟨rfl, trivial⟩ rfl trivial trivial trivial (rns_cons (rn_id if_i64) (rns_nil)) rfl
theorem c_lex_most {x0 : Int} : ∀ r, m_lex_most x0 = some r → FnOk Tryd.prog 78 [i64 x0] [] (i64 r) [] := by
  unfold m_lex_most
  refine fn_of_sq (res := fun (r : Int) => i64 r) (mo := fun (r : Int) => []) Tryd.func78 rfl rfl (by kernel_rfl) rfl ?_
  intro w S0 γ hγ
  refine sseq ?_
  refine sreg ?_
  refine s1 (asg rfl (kI (x := 0) rfl)) ?_
  refine snil ?_
  refine pnm ?_
  refine sseq ?_
  refine sseq ?_
  refine sreg ?_
  refine s1 (mv rfl rfl) ?_
  refine snil ?_
  refine pnm ?_
  refine sblk ?_
  refine sseq ?_
  refine sreg ?_
  refine s1 (eqI rfl rfl (kI (x := 1) rfl)) ?_
  refine s1 (asg rfl rfl) ?_
  refine snil ?_
  refine pnm ?_
  refine scond rfl ?_ ?_
  · refine sseq ?_
    refine sreg ?_
    refine s1 (asg rfl (kI (x := 60) rfl)) ?_
    refine snil ?_
    refine pnm ?_
    refine sret ?_
    refine pbl ?_
    refine pth ?_
    exact ret [] [.tmp 2] [_] [_] .ret hγ (.inl rfl) rfl ⟨rfl, trivial⟩ rfl trivial trivial trivial (rns_cons (rn_id if_i64) (rns_nil)) rfl
  · refine sseq ?_
    refine sreg ?_
    refine s1 (eqI rfl rfl (kI (x := 2) rfl)) ?_
    refine s1 (asg rfl rfl) ?_
    refine snil ?_
    refine pnm ?_
    refine scond rfl ?_ ?_
    · refine sseq ?_
      refine sreg ?_
      refine s1 (asg rfl (kI (x := 12) rfl)) ?_
      refine snil ?_
      refine pnm ?_
      refine sret ?_
      refine pbl ?_
      refine pth ?_
      exact ret [] [.tmp 2] [_] [_] .ret hγ (.inl rfl) rfl ⟨rfl, trivial⟩ rfl trivial trivial trivial (rns_cons (rn_id if_i64) (rns_nil)) rfl
    · refine sskip ?_
      refine pbn ?_
      refine pnm ?_
      refine sseq ?_
      refine sreg ?_
      refine s1 (asg rfl (kI (x := 1) rfl)) ?_
      refine snil ?_
      refine pnm ?_
      refine sret ?_
      exact ret [] [.tmp 2] [_] [_] .ret hγ (.inl rfl) rfl ⟨rfl, trivial⟩ rfl trivial trivial trivial (rns_cons (rn_id if_i64) (rns_nil)) rfl
theorem c_lex_Right {n : Nat} {x0 : M_lex_Word} : ∀ r, m_lex_Right n x0 = some r → FnOk Tryd.prog 62 [L_lex_Word x0] [] (bl r) [] := by
  unfold m_lex_Right
  refine fn_of_sq (res := fun (r : Bool) => bl r) (mo := fun (r : Bool) => []) Tryd.func62 rfl rfl (by kernel_rfl) rfl ?_
  intro w S0 γ hγ
  refine sseq ?_
  refine sreg ?_
  refine so (box (y := 100) (by exact rfl) rfl rfl rfl) ?_
  refine s1 (asg rfl kB) ?_
  refine snil ?_
  refine pnm ?_
  refine sseq ?_
  refine sjq (fun (s9 : Bool) => [(1, .own 100), (2, bl false), (19, bl s9)]) (fun (s9 : Bool) => [(100, .bx 105 (L_lex_Word x0))]) ?_ ?_
  · intro j7 hj8
    refine sif (fun hb10 => ?_) (fun hb10 => ?_)
    · refine sdraw [⟨[1], [100], [(3, .ptr 100 1)], []⟩, ⟨[3], [100], [(4, str x0.Text)], []⟩, ⟨[4], [], [(5, bl (decide (x0.Text = ([] : List UInt8))))], []⟩, ⟨[5], [], [(6, bl true)], []⟩, ⟨[6], [], [(7, .tup [])], []⟩, ⟨[6], [], [(8, .tup [])], []⟩, ⟨[6], [], [(9, .tup [])], []⟩, ⟨[6], [], [(10, bl true)], []⟩, ⟨[10], [], [(11, bl true)], []⟩, ⟨[11], [], [(12, .tup [])], []⟩, ⟨[11], [], [(13, .tup [])], []⟩, ⟨[11], [], [(14, .tup [])], []⟩, ⟨[11], [], [(15, .tup [])], []⟩, ⟨[11], [], [(16, .tup [])], []⟩, ⟨[11], [], [(17, .tup [])], []⟩, ⟨[11], [], [(18, .tup [])], []⟩, ⟨[11], [], [(19, bl true)], []⟩] fol (by kernel_rfl) ⟨fun st mm ⟨a1, _⟩ ⟨g100, _⟩ => og (faO (g100.trans rfl) fd_105_1 rfl (a1.trans rfl)), fun st mm ⟨a3, _⟩ ⟨g100, _⟩ => og (ldB [1] (g100.trans rfl) (by exact rfl) sh_9 (by exact rfl) (by exact rfl) rfl (a3.trans rfl) (.inl rfl)), fun st mm ⟨a4, _⟩ _ => og (eqS rfl (a4.trans rfl) (kS (s := []) rfl)), fun st mm ⟨a5, _⟩ _ => og (okb hb10 (mv rfl (a5.trans rfl))), fun st mm ⟨a6, _⟩ _ => ogB 6 rfl (a6.trans rfl) rfl, fun st mm ⟨a6, _⟩ _ => ogB 6 rfl (a6.trans rfl) rfl, fun st mm ⟨a6, _⟩ _ => ogB 6 rfl (a6.trans rfl) rfl, fun st mm ⟨a6, _⟩ _ => og (pickT rfl (a6.trans rfl) kB), fun st mm ⟨a10, _⟩ _ => og (mv rfl (a10.trans rfl)), fun st mm ⟨a11, _⟩ _ => ogB 11 rfl (a11.trans rfl) rfl, fun st mm ⟨a11, _⟩ _ => ogB 11 rfl (a11.trans rfl) rfl, fun st mm ⟨a11, _⟩ _ => ogB 11 rfl (a11.trans rfl) rfl, fun st mm ⟨a11, _⟩ _ => ogB 11 rfl (a11.trans rfl) rfl, fun st mm ⟨a11, _⟩ _ => ogB 11 rfl (a11.trans rfl) rfl, fun st mm ⟨a11, _⟩ _ => ogB 11 rfl (a11.trans rfl) rfl, fun st mm ⟨a11, _⟩ _ => ogB 11 rfl (a11.trans rfl) rfl, fun st mm ⟨a11, _⟩ _ => og (pickT rfl (a11.trans rfl) kB), trivial⟩ ?_
      refine pnm ?_
      exact sj (hj8 _) (entR [(100, 100)] rfl (keepS hγ trivial) ⟨⟨_, rfl⟩, trivial⟩ ⟨⟨_, _, rfl, rfl, rci (rc_bx (rn_id if_L_lex_Word))⟩, trivial⟩ ⟨⟨_, rfl, rn_own rfl⟩, ⟨_, rfl, rn_id if_bl⟩, ⟨_, rfl, rn_id if_bl⟩, trivial⟩)
    · refine sif (fun hb11 => ?_) (fun hb11 => ?_)
      · refine sdraw [⟨[1], [100], [(3, .ptr 100 1)], []⟩, ⟨[3], [100], [(4, str x0.Text)], []⟩, ⟨[4], [], [(5, bl (decide (x0.Text = ([] : List UInt8))))], []⟩, ⟨[5], [], [(6, bl false)], []⟩, ⟨[6, 1], [100], [(7, .ptr 100 0)], []⟩, ⟨[6, 7], [100], [(8, i64 x0.Kind)], []⟩, ⟨[6, 8], [], [(9, bl (decide (x0.Kind = (0 : Int))))], []⟩, ⟨[6, 9], [], [(10, bl (decide (x0.Kind = (0 : Int))))], []⟩, ⟨[10], [], [(11, bl true)], []⟩, ⟨[11], [], [(12, .tup [])], []⟩, ⟨[11], [], [(13, .tup [])], []⟩, ⟨[11], [], [(14, .tup [])], []⟩, ⟨[11], [], [(15, .tup [])], []⟩, ⟨[11], [], [(16, .tup [])], []⟩, ⟨[11], [], [(17, .tup [])], []⟩, ⟨[11], [], [(18, .tup [])], []⟩, ⟨[11], [], [(19, bl true)], []⟩] fol (by kernel_rfl) ⟨fun st mm ⟨a1, _⟩ ⟨g100, _⟩ => og (faO (g100.trans rfl) fd_105_1 rfl (a1.trans rfl)), fun st mm ⟨a3, _⟩ ⟨g100, _⟩ => og (ldB [1] (g100.trans rfl) (by exact rfl) sh_9 (by exact rfl) (by exact rfl) rfl (a3.trans rfl) (.inl rfl)), fun st mm ⟨a4, _⟩ _ => og (eqS rfl (a4.trans rfl) (kS (s := []) rfl)), fun st mm ⟨a5, _⟩ _ => og (okb hb10 (mv rfl (a5.trans rfl))), fun st mm ⟨a6, a1, _⟩ ⟨g100, _⟩ => ogG 6 rfl (a6.trans rfl) (faO (g100.trans rfl) fd_105_0 rfl (a1.trans rfl)), fun st mm ⟨a6, a7, _⟩ ⟨g100, _⟩ => ogG 6 rfl (a6.trans rfl) (ldB [0] (g100.trans rfl) (by exact rfl) sh_3 (by exact rfl) (by exact rfl) rfl (a7.trans rfl) (.inl rfl)), fun st mm ⟨a6, a8, _⟩ _ => ogG 6 rfl (a6.trans rfl) (eqI rfl (a8.trans rfl) (kI (x := 0) rfl)), fun st mm ⟨a6, a9, _⟩ _ => og (pickF rfl (a6.trans rfl) (a9.trans rfl)), fun st mm ⟨a10, _⟩ _ => og (okb hb11 (mv rfl (a10.trans rfl))), fun st mm ⟨a11, _⟩ _ => ogB 11 rfl (a11.trans rfl) rfl, fun st mm ⟨a11, _⟩ _ => ogB 11 rfl (a11.trans rfl) rfl, fun st mm ⟨a11, _⟩ _ => ogB 11 rfl (a11.trans rfl) rfl, fun st mm ⟨a11, _⟩ _ => ogB 11 rfl (a11.trans rfl) rfl, fun st mm ⟨a11, _⟩ _ => ogB 11 rfl (a11.trans rfl) rfl, fun st mm ⟨a11, _⟩ _ => ogB 11 rfl (a11.trans rfl) rfl, fun st mm ⟨a11, _⟩ _ => ogB 11 rfl (a11.trans rfl) rfl, fun st mm ⟨a11, _⟩ _ => og (pickT rfl (a11.trans rfl) kB), trivial⟩ ?_
        refine pnm ?_
        exact sj (hj8 _) (entR [(100, 100)] rfl (keepS hγ trivial) ⟨⟨_, rfl⟩, trivial⟩ ⟨⟨_, _, rfl, rfl, rci (rc_bx (rn_id if_L_lex_Word))⟩, trivial⟩ ⟨⟨_, rfl, rn_own rfl⟩, ⟨_, rfl, rn_id if_bl⟩, ⟨_, rfl, rn_id if_bl⟩, trivial⟩)
      · refine bd fun y12 h13 => ?_
        refine bd fun r14 h15 => ?_
        refine sdraw [⟨[1], [100], [(3, .ptr 100 1)], []⟩, ⟨[3], [100], [(4, str x0.Text)], []⟩, ⟨[4], [], [(5, bl (decide (x0.Text = ([] : List UInt8))))], []⟩, ⟨[5], [], [(6, bl false)], []⟩, ⟨[6, 1], [100], [(7, .ptr 100 0)], []⟩, ⟨[6, 7], [100], [(8, i64 x0.Kind)], []⟩, ⟨[6, 8], [], [(9, bl (decide (x0.Kind = (0 : Int))))], []⟩, ⟨[6, 9], [], [(10, bl (decide (x0.Kind = (0 : Int))))], []⟩, ⟨[10], [], [(11, bl false)], []⟩, ⟨[11, 1], [100], [(12, .ptr 100 1)], []⟩, ⟨[11, 12], [100], [(13, str x0.Text)], []⟩, ⟨[11, 13], [], [(14, u8 y12)], []⟩, ⟨[11, 14], [], [(15, i64 r14)], []⟩, ⟨[11, 1], [100], [(16, .ptr 100 0)], []⟩, ⟨[11, 16], [100], [(17, i64 x0.Kind)], []⟩, ⟨[11, 15, 17], [], [(18, bl (!decide (r14 = x0.Kind)))], []⟩, ⟨[11, 18], [], [(19, bl (!decide (r14 = x0.Kind)))], []⟩] fol (by kernel_rfl) ⟨fun st mm ⟨a1, _⟩ ⟨g100, _⟩ => og (faO (g100.trans rfl) fd_105_1 rfl (a1.trans rfl)), fun st mm ⟨a3, _⟩ ⟨g100, _⟩ => og (ldB [1] (g100.trans rfl) (by exact rfl) sh_9 (by exact rfl) (by exact rfl) rfl (a3.trans rfl) (.inl rfl)), fun st mm ⟨a4, _⟩ _ => og (eqS rfl (a4.trans rfl) (kS (s := []) rfl)), fun st mm ⟨a5, _⟩ _ => og (okb hb10 (mv rfl (a5.trans rfl))), fun st mm ⟨a6, a1, _⟩ ⟨g100, _⟩ => ogG 6 rfl (a6.trans rfl) (faO (g100.trans rfl) fd_105_0 rfl (a1.trans rfl)), fun st mm ⟨a6, a7, _⟩ ⟨g100, _⟩ => ogG 6 rfl (a6.trans rfl) (ldB [0] (g100.trans rfl) (by exact rfl) sh_3 (by exact rfl) (by exact rfl) rfl (a7.trans rfl) (.inl rfl)), fun st mm ⟨a6, a8, _⟩ _ => ogG 6 rfl (a6.trans rfl) (eqI rfl (a8.trans rfl) (kI (x := 0) rfl)), fun st mm ⟨a6, a9, _⟩ _ => og (pickF rfl (a6.trans rfl) (a9.trans rfl)), fun st mm ⟨a10, _⟩ _ => og (okb hb11 (mv rfl (a10.trans rfl))), fun st mm ⟨a11, a1, _⟩ ⟨g100, _⟩ => ogG 11 rfl (a11.trans rfl) (faO (g100.trans rfl) fd_105_1 rfl (a1.trans rfl)), fun st mm ⟨a11, a12, _⟩ ⟨g100, _⟩ => ogG 11 rfl (a11.trans rfl) (ldB [1] (g100.trans rfl) (by exact rfl) sh_9 (by exact rfl) (by exact rfl) rfl (a12.trans rfl) (.inl rfl)), fun st mm ⟨a11, a13, _⟩ _ => ogG 11 rfl (a11.trans rfl) (ixS Tryd.underlying9 h13 rfl (a13.trans rfl) (kI (x := 0) rfl)), fun st mm ⟨a11, a14, _⟩ _ => ogG 11 rfl (a11.trans rfl) (call0 (c_lex_kind _ h15) ⟨⟨_, (a14.trans rfl), rn_id if_u8⟩, trivial⟩ (if_i64) rfl), fun st mm ⟨a11, a1, _⟩ ⟨g100, _⟩ => ogG 11 rfl (a11.trans rfl) (faO (g100.trans rfl) fd_105_0 rfl (a1.trans rfl)), fun st mm ⟨a11, a16, _⟩ ⟨g100, _⟩ => ogG 11 rfl (a11.trans rfl) (ldB [0] (g100.trans rfl) (by exact rfl) sh_3 (by exact rfl) (by exact rfl) rfl (a16.trans rfl) (.inl rfl)), fun st mm ⟨a11, a15, a17, _⟩ _ => ogG 11 rfl (a11.trans rfl) (neI rfl (a15.trans rfl) (a17.trans rfl)), fun st mm ⟨a11, a18, _⟩ _ => og (pickF rfl (a11.trans rfl) (a18.trans rfl)), trivial⟩ ?_
        refine pnm ?_
        exact sj (hj8 _) (entR [(100, 100)] rfl (keepS hγ trivial) ⟨⟨_, rfl⟩, trivial⟩ ⟨⟨_, _, rfl, rfl, rci (rc_bx (rn_id if_L_lex_Word))⟩, trivial⟩ ⟨⟨_, rfl, rn_own rfl⟩, ⟨_, rfl, rn_id if_bl⟩, ⟨_, rfl, rn_id if_bl⟩, trivial⟩)
  · intro s9
    refine scond rfl ?_ ?_
    · refine sseq ?_
      refine sreg ?_
      refine s1 (asg rfl kB) ?_
      refine snil ?_
      refine pnm ?_
      refine sret ?_
      refine pth ?_
      exact ret [] [.tmp 2] [_] [_] .ret hγ (.inl rfl) rfl ⟨rfl, trivial⟩ rfl trivial trivial trivial (rns_cons (rn_id if_bl) (rns_nil)) rfl
    · refine sskip ?_
      refine pnm ?_
      refine sjq (fun (s23 : Bool) => [(2, bl s23)]) (fun (s23 : Bool) => []) ?_ ?_
      · intro j21 hj22
        refine bd fun r24 h25 => ?_
        refine sif (fun hb26 => ?_) (fun hb26 => ?_)
        · refine bd fun r27 h28 => ?_
          refine sdraw [⟨[1], [100], [(20, .ptr 100 1)], []⟩, ⟨[20], [100], [(21, str x0.Text)], []⟩, ⟨[1], [100], [(22, .ptr 100 0)], []⟩, ⟨[22], [100], [(23, i64 x0.Kind)], []⟩, ⟨[21, 23], [], [(24, i64 r24)], []⟩, ⟨[1], [100], [(25, .ptr 100 1)], []⟩, ⟨[25], [100], [(26, str x0.Text)], []⟩, ⟨[26], [], [(27, i64 (x0.Text.length : Int))], []⟩, ⟨[24, 27], [], [(28, bl (decide (r24 = (x0.Text.length : Int))))], []⟩, ⟨[28], [], [(29, bl true)], []⟩, ⟨[29, 1], [100], [(30, .ptr 100 1)], []⟩, ⟨[29, 30], [100], [(31, str x0.Text)], []⟩, ⟨[29, 31], [], [(32, i64 (x0.Text.length : Int))], []⟩, ⟨[29, 1], [100], [(33, .ptr 100 0)], []⟩, ⟨[29, 33], [100], [(34, i64 x0.Kind)], []⟩, ⟨[29, 34], [], [(35, i64 r27)], []⟩, ⟨[29, 32, 35], [], [(36, bl (decide ((x0.Text.length : Int) ≤ r27)))], []⟩, ⟨[29, 36], [], [(37, bl (decide ((x0.Text.length : Int) ≤ r27)))], []⟩, ⟨[37], [], [(2, bl (decide ((x0.Text.length : Int) ≤ r27)))], []⟩] fol (by kernel_rfl) ⟨fun st mm ⟨a1, _⟩ ⟨g100, _⟩ => og (faO (g100.trans rfl) fd_105_1 rfl (a1.trans rfl)), fun st mm ⟨a20, _⟩ ⟨g100, _⟩ => og (ldB [1] (g100.trans rfl) (by exact rfl) sh_9 (by exact rfl) (by exact rfl) rfl (a20.trans rfl) (.inl rfl)), fun st mm ⟨a1, _⟩ ⟨g100, _⟩ => og (faO (g100.trans rfl) fd_105_0 rfl (a1.trans rfl)), fun st mm ⟨a22, _⟩ ⟨g100, _⟩ => og (ldB [0] (g100.trans rfl) (by exact rfl) sh_3 (by exact rfl) (by exact rfl) rfl (a22.trans rfl) (.inl rfl)), fun st mm ⟨a21, a23, _⟩ _ => og (call0 (c_lex_first _ h25) ⟨⟨_, (a21.trans rfl), rn_id if_str⟩, ⟨_, (a23.trans rfl), rn_id if_i64⟩, trivial⟩ (if_i64) rfl), fun st mm ⟨a1, _⟩ ⟨g100, _⟩ => og (faO (g100.trans rfl) fd_105_1 rfl (a1.trans rfl)), fun st mm ⟨a25, _⟩ ⟨g100, _⟩ => og (ldB [1] (g100.trans rfl) (by exact rfl) sh_9 (by exact rfl) (by exact rfl) rfl (a25.trans rfl) (.inl rfl)), fun st mm ⟨a26, _⟩ _ => og (lenS Tryd.underlying9 rfl (a26.trans rfl)), fun st mm ⟨a24, a27, _⟩ _ => og (eqI rfl (a24.trans rfl) (a27.trans rfl)), fun st mm ⟨a28, _⟩ _ => og (okb hb26 (mv rfl (a28.trans rfl))), fun st mm ⟨a29, a1, _⟩ ⟨g100, _⟩ => ogG 29 rfl (a29.trans rfl) (faO (g100.trans rfl) fd_105_1 rfl (a1.trans rfl)), fun st mm ⟨a29, a30, _⟩ ⟨g100, _⟩ => ogG 29 rfl (a29.trans rfl) (ldB [1] (g100.trans rfl) (by exact rfl) sh_9 (by exact rfl) (by exact rfl) rfl (a30.trans rfl) (.inl rfl)), fun st mm ⟨a29, a31, _⟩ _ => ogG 29 rfl (a29.trans rfl) (lenS Tryd.underlying9 rfl (a31.trans rfl)), fun st mm ⟨a29, a1, _⟩ ⟨g100, _⟩ => ogG 29 rfl (a29.trans rfl) (faO (g100.trans rfl) fd_105_0 rfl (a1.trans rfl)), fun st mm ⟨a29, a33, _⟩ ⟨g100, _⟩ => ogG 29 rfl (a29.trans rfl) (ldB [0] (g100.trans rfl) (by exact rfl) sh_3 (by exact rfl) (by exact rfl) rfl (a33.trans rfl) (.inl rfl)), fun st mm ⟨a29, a34, _⟩ _ => ogG 29 rfl (a29.trans rfl) (call0 (c_lex_most _ h28) ⟨⟨_, (a34.trans rfl), rn_id if_i64⟩, trivial⟩ (if_i64) rfl), fun st mm ⟨a29, a32, a35, _⟩ _ => ogG 29 rfl (a29.trans rfl) (leI rfl (a32.trans rfl) (a35.trans rfl)), fun st mm ⟨a29, a36, _⟩ _ => og (pickT rfl (a29.trans rfl) (a36.trans rfl)), fun st mm ⟨a37, _⟩ _ => og (asg rfl (a37.trans rfl)), trivial⟩ ?_
          refine pnm ?_
          exact sj (hj22 _) (entR [] rfl (keepS hγ trivial) (by exact trivial) (by exact trivial) ⟨⟨_, rfl, rn_id if_bl⟩, trivial⟩)
        · refine sdraw [⟨[1], [100], [(20, .ptr 100 1)], []⟩, ⟨[20], [100], [(21, str x0.Text)], []⟩, ⟨[1], [100], [(22, .ptr 100 0)], []⟩, ⟨[22], [100], [(23, i64 x0.Kind)], []⟩, ⟨[21, 23], [], [(24, i64 r24)], []⟩, ⟨[1], [100], [(25, .ptr 100 1)], []⟩, ⟨[25], [100], [(26, str x0.Text)], []⟩, ⟨[26], [], [(27, i64 (x0.Text.length : Int))], []⟩, ⟨[24, 27], [], [(28, bl (decide (r24 = (x0.Text.length : Int))))], []⟩, ⟨[28], [], [(29, bl false)], []⟩, ⟨[29], [], [(30, .tup [])], []⟩, ⟨[29], [], [(31, .tup [])], []⟩, ⟨[29], [], [(32, .tup [])], []⟩, ⟨[29], [], [(33, .tup [])], []⟩, ⟨[29], [], [(34, .tup [])], []⟩, ⟨[29], [], [(35, .tup [])], []⟩, ⟨[29], [], [(36, .tup [])], []⟩, ⟨[29], [], [(37, bl false)], []⟩, ⟨[37], [], [(2, bl false)], []⟩] fol (by kernel_rfl) ⟨fun st mm ⟨a1, _⟩ ⟨g100, _⟩ => og (faO (g100.trans rfl) fd_105_1 rfl (a1.trans rfl)), fun st mm ⟨a20, _⟩ ⟨g100, _⟩ => og (ldB [1] (g100.trans rfl) (by exact rfl) sh_9 (by exact rfl) (by exact rfl) rfl (a20.trans rfl) (.inl rfl)), fun st mm ⟨a1, _⟩ ⟨g100, _⟩ => og (faO (g100.trans rfl) fd_105_0 rfl (a1.trans rfl)), fun st mm ⟨a22, _⟩ ⟨g100, _⟩ => og (ldB [0] (g100.trans rfl) (by exact rfl) sh_3 (by exact rfl) (by exact rfl) rfl (a22.trans rfl) (.inl rfl)), fun st mm ⟨a21, a23, _⟩ _ => og (call0 (c_lex_first _ h25) ⟨⟨_, (a21.trans rfl), rn_id if_str⟩, ⟨_, (a23.trans rfl), rn_id if_i64⟩, trivial⟩ (if_i64) rfl), fun st mm ⟨a1, _⟩ ⟨g100, _⟩ => og (faO (g100.trans rfl) fd_105_1 rfl (a1.trans rfl)), fun st mm ⟨a25, _⟩ ⟨g100, _⟩ => og (ldB [1] (g100.trans rfl) (by exact rfl) sh_9 (by exact rfl) (by exact rfl) rfl (a25.trans rfl) (.inl rfl)), fun st mm ⟨a26, _⟩ _ => og (lenS Tryd.underlying9 rfl (a26.trans rfl)), fun st mm ⟨a24, a27, _⟩ _ => og (eqI rfl (a24.trans rfl) (a27.trans rfl)), fun st mm ⟨a28, _⟩ _ => og (okb hb26 (mv rfl (a28.trans rfl))), fun st mm ⟨a29, _⟩ _ => ogB 29 rfl (a29.trans rfl) rfl, fun st mm ⟨a29, _⟩ _ => ogB 29 rfl (a29.trans rfl) rfl, fun st mm ⟨a29, _⟩ _ => ogB 29 rfl (a29.trans rfl) rfl, fun st mm ⟨a29, _⟩ _ => ogB 29 rfl (a29.trans rfl) rfl, fun st mm ⟨a29, _⟩ _ => ogB 29 rfl (a29.trans rfl) rfl, fun st mm ⟨a29, _⟩ _ => ogB 29 rfl (a29.trans rfl) rfl, fun st mm ⟨a29, _⟩ _ => ogB 29 rfl (a29.trans rfl) rfl, fun st mm ⟨a29, _⟩ _ => og (pickF rfl (a29.trans rfl) kB), fun st mm ⟨a37, _⟩ _ => og (asg rfl (a37.trans rfl)), trivial⟩ ?_
          refine pnm ?_
          exact sj (hj22 _) (entR [] rfl (keepS hγ trivial) (by exact trivial) (by exact trivial) ⟨⟨_, rfl, rn_id if_bl⟩, trivial⟩)
      · intro s23
        refine sret ?_
        exact ret [] [.tmp 2] [_] [_] .ret hγ (.inl rfl) rfl ⟨rfl, trivial⟩ rfl trivial trivial trivial (rns_cons (rn_id if_bl) (rns_nil)) rfl
theorem c_check_Name {n : Nat} {x0 : (List UInt8)} : ∀ r, m_check_Name n x0 = some r → FnOk Tryd.prog 31 [str x0] [] (bl r) [] := by
  unfold m_check_Name
  refine fn_of_sq (res := fun (r : Bool) => bl r) (mo := fun (r : Bool) => []) Tryd.func31 rfl rfl (by kernel_rfl) rfl ?_
  intro w S0 γ hγ
  refine sseq ?_
  refine sreg ?_
  refine s1 (asg rfl kB) ?_
  refine snil ?_
  refine pnm ?_
  refine sseq ?_
  refine sseq ?_
  refine sreg ?_
  refine s1 (mv rfl rfl) ?_
  refine snil ?_
  refine pnm ?_
  refine sblk ?_
  refine sjq (fun (s3 : Bool) => [(0, str x0), (2, bl false), (4, bl s3)]) (fun (s3 : Bool) => []) ?_ ?_
  · intro j1 hj2
    refine sseq ?_
    refine sreg ?_
    refine s1 (eqS rfl rfl (kS (s := [116]) rfl)) ?_
    refine s1 (asg rfl rfl) ?_
    refine snil ?_
    refine pnm ?_
    refine scond rfl ?_ ?_
    · refine sskip ?_
      refine pnm ?_
      exact sj (hj2 _) (entI ⟨rfl, rfl, rfl, trivial⟩ eqm0)
    · refine sseq ?_
      refine sreg ?_
      refine s1 (eqS rfl rfl (kS (s := [121]) rfl)) ?_
      refine s1 (asg rfl rfl) ?_
      refine snil ?_
      refine pnm ?_
      refine scond rfl ?_ ?_
      · refine sskip ?_
        refine pnm ?_
        exact sj (hj2 _) (entI ⟨rfl, rfl, rfl, trivial⟩ eqm0)
      · refine sseq ?_
        refine sreg ?_
        refine s1 (eqS rfl rfl (kS (s := [112]) rfl)) ?_
        refine s1 (asg rfl rfl) ?_
        refine snil ?_
        refine pnm ?_
        refine scond rfl ?_ ?_
        · refine sskip ?_
          refine pnm ?_
          exact sj (hj2 _) (entI ⟨rfl, rfl, rfl, trivial⟩ eqm0)
        · refine sreg ?_
          refine s1 (eqS rfl rfl (kS (s := [108, 101, 116]) rfl)) ?_
          refine s1 (asg rfl rfl) ?_
          refine snil ?_
          refine pnm ?_
          exact sj (hj2 _) (entI ⟨rfl, rfl, rfl, trivial⟩ eqm0)
  · intro s3
    refine scond rfl ?_ ?_
    · refine sseq ?_
      refine sreg ?_
      refine s1 (asg rfl kB) ?_
      refine snil ?_
      refine pnm ?_
      refine sret ?_
      refine pbl ?_
      refine pth ?_
      exact ret [] [.tmp 2] [_] [_] .ret hγ (.inl rfl) rfl ⟨rfl, trivial⟩ rfl trivial trivial trivial (rns_cons (rn_id if_bl) (rns_nil)) rfl
    · refine sskip ?_
      refine pbn ?_
      refine pnm ?_
      refine sseq ?_
      refine sreg ?_
      refine s1 (mv rfl rfl) ?_
      refine s1 (bld (l := [i64 (2 : Int), str x0, i64 0]) pl_105 ti_105 zr_lex_Word ⟨_, _, _, (kI (x := 2) rfl), rfl, rfl, rfl, (szk (k := 1) rfl rfl), ⟨_, _, _, rfl, rfl, rfl, rfl, (szk (k := 1) rfl rfl), rfl⟩⟩ rfl) ?_
      refine bd fun r4 h5 => ?_
      refine s1 (call0 (c_lex_Right _ h5) ⟨⟨_, rfl, rn_id if_L_lex_Word⟩, trivial⟩ (if_bl) rfl) ?_
      refine s1 (asg rfl rfl) ?_
      refine snil ?_
      refine pnm ?_
      refine sret ?_
      exact ret [] [.tmp 2] [_] [_] .ret hγ (.inl rfl) rfl ⟨rfl, trivial⟩ rfl trivial trivial trivial (rns_cons (rn_id if_bl) (rns_nil)) rfl
end Go.Proofs.YtgafinimmcfekaaDoor
