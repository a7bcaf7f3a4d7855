import Derived.Test.YtiobbiamnjapgaaGreatDoorMod
import Derived.Test.YtiobbiamnjapgaaGreatDoorBld
import Derived.Test.YtiobbiamnjapgaaGreatDoorLib
import Derived.Test.YtiobbiamnjapgaaGreatDoorChecked
set_option maxRecDepth 100000
set_option maxHeartbeats 4000000
namespace Go.Proofs.YtiobbiamnjapgaaGreatDoor
open Go Go.RowKit
theorem ownK : ownKnob Tryz.prog.godebug = none := by kernel_rfl
theorem laidOutK : laidOutB Tryz.prog = true := by kernel_rfl
abbrev L_A4_i64 (x : M_A4_i64) : Ly := .agg [i64 x.a0, i64 x.a1, i64 x.a2, i64 x.a3]
theorem if_L_A4_i64 {a0_ a1_ a2_ a3_} : IF (.agg [i64 a0_, i64 a1_, i64 a2_, i64 a3_]) := if_agg (ifs_cons if_i64 (ifs_cons if_i64 (ifs_cons if_i64 (ifs_cons if_i64 (ifs_nil)))))
abbrev L_wire_Piece (x : M_wire_Piece) : Ly := .agg [str x.Name, str x.Text]
theorem if_L_wire_Piece {a0_ a1_} : IF (.agg [str a0_, str a1_]) := if_agg (ifs_cons if_str (ifs_cons if_str (ifs_nil)))
abbrev L_S_wire_Piece (xs : List M_wire_Piece) : Ly := sli 2 (xs.map L_wire_Piece)
abbrev L_lex_Word (x : M_lex_Word) : Ly := .agg [i64 x.Kind, str x.Text, i64 x.At]
theorem if_L_lex_Word {a0_ a1_ a2_} : IF (.agg [i64 a0_, str a1_, i64 a2_]) := if_agg (ifs_cons if_i64 (ifs_cons if_str (ifs_cons if_i64 (ifs_nil))))
abbrev L_api_Fault (x : M_api_Fault) : Ly := .agg [i64 x.Kind, i64 x.Step, i64 x.Stage, i64 x.At]
theorem if_L_api_Fault {a0_ a1_ a2_ a3_} : IF (.agg [i64 a0_, i64 a1_, i64 a2_, i64 a3_]) := if_agg (ifs_cons if_i64 (ifs_cons if_i64 (ifs_cons if_i64 (ifs_cons if_i64 (ifs_nil)))))
abbrev L_wire_reader (x : M_wire_reader) : Ly := .agg [str x.s, i64 x.at_]
theorem if_L_wire_reader {a0_ a1_} : IF (.agg [str a0_, i64 a1_]) := if_agg (ifs_cons if_str (ifs_cons if_i64 (ifs_nil)))
abbrev L_S_u32 (xs : List Nat) : Ly := sli 1 (xs.map u32)
abbrev L_A9_u8 (x : M_A9_u8) : Ly := .agg [u8 x.a0, u8 x.a1, u8 x.a2, u8 x.a3, u8 x.a4, u8 x.a5, u8 x.a6, u8 x.a7, u8 x.a8]
theorem if_L_A9_u8 {a0_ a1_ a2_ a3_ a4_ a5_ a6_ a7_ a8_} : IF (.agg [u8 a0_, u8 a1_, u8 a2_, u8 a3_, u8 a4_, u8 a5_, u8 a6_, u8 a7_, u8 a8_]) := if_agg (ifs_cons if_u8 (ifs_cons if_u8 (ifs_cons if_u8 (ifs_cons if_u8 (ifs_cons if_u8 (ifs_cons if_u8 (ifs_cons if_u8 (ifs_cons if_u8 (ifs_cons if_u8 (ifs_nil))))))))))
abbrev L_S_string (xs : List (List UInt8)) : Ly := sli 1 (xs.map str)
abbrev L_A3_i64 (x : M_A3_i64) : Ly := .agg [i64 x.a0, i64 x.a1, i64 x.a2]
theorem if_L_A3_i64 {a0_ a1_ a2_} : IF (.agg [i64 a0_, i64 a1_, i64 a2_]) := if_agg (ifs_cons if_i64 (ifs_cons if_i64 (ifs_cons if_i64 (ifs_nil))))
abbrev L_retrospectref08_Whole (x : M_retrospectref08_Whole) : Ly := .agg [bl x.Neg, L_S_u32 x.Abs]
theorem if_L_retrospectref08_Whole {a0_ a1_} : IF (.agg [bl a0_, sli 1 a1_]) := if_agg (ifs_cons if_bl (ifs_cons if_sli (ifs_nil)))
abbrev L_retrospectref09_Frac (x : M_retrospectref09_Frac) : Ly := .agg [bl x.Neg, L_S_u32 x.N, L_S_u32 x.D]
theorem if_L_retrospectref09_Frac {a0_ a1_ a2_} : IF (.agg [bl a0_, sli 1 a1_, sli 1 a2_]) := if_agg (ifs_cons if_bl (ifs_cons if_sli (ifs_cons if_sli (ifs_nil))))
theorem ti_45 : TyI Tryz.prog 45 2 32 (.agg #[.string ⟨#[]⟩, .string ⟨#[]⟩]) := tyI (by kernel_rfl)
theorem pl_45 : Plc Tryz.prog 45 [(0, 1), (1, 1)] := ⟨_, Tryz.underlying45, by kernel_rfl⟩
theorem zr_wire_Piece : Zr (L_wire_Piece (⟨[], []⟩ : M_wire_Piece)) [.string ⟨#[]⟩, .string ⟨#[]⟩] := zr_agg (zrs_cons (c1 := [.string ⟨#[]⟩]) zr_str (zrs_cons (c1 := [.string ⟨#[]⟩]) zr_str (zrs_nil)))
theorem sh_45 : Shp Tryz.prog 45 true 2 := shp Tryz.underlying45 rfl ti_45
theorem ti_9 : TyI Tryz.prog 9 1 16 (.string ⟨#[]⟩) := tyI (by kernel_rfl)
theorem fd_45_0 : FldAt Tryz.prog 45 0 0 := by
  obtain ⟨i, h1, _, h3, _⟩ := ti_9
  exact ⟨_, _, Tryz.underlying45, rfl, rfl, i, h1, by rw [h3]; decide⟩
theorem sh_9 : Shp Tryz.prog 9 false 1 := shp Tryz.underlying9 rfl ti_9
theorem ti_96 : TyI Tryz.prog 96 3 32 (.agg #[.int .i64 0, .string ⟨#[]⟩, .int .i64 0]) := tyI (by kernel_rfl)
theorem pl_96 : Plc Tryz.prog 96 [(0, 1), (1, 1), (2, 1)] := ⟨_, Tryz.underlying96, by kernel_rfl⟩
theorem zr_lex_Word : Zr (L_lex_Word (⟨0, [], 0⟩ : M_lex_Word)) [.int .i64 0, .string ⟨#[]⟩, .int .i64 0] := zr_agg (zrs_cons (c1 := [.int .i64 0]) zr_i64 (zrs_cons (c1 := [.string ⟨#[]⟩]) zr_str (zrs_cons (c1 := [.int .i64 0]) zr_i64 (zrs_nil))))
theorem fd_96_1 : FldAt Tryz.prog 96 1 1 := by
  obtain ⟨i, h1, _, h3, _⟩ := ti_9
  exact ⟨_, _, Tryz.underlying96, rfl, rfl, i, h1, by rw [h3]; decide⟩
theorem fol : Tryz.prog.follows .mixedOrders = true := by kernel_rfl
theorem ti_3 : TyI Tryz.prog 3 1 8 (.int .i64 0) := tyI (by kernel_rfl)
theorem fd_96_0 : FldAt Tryz.prog 96 0 0 := by
  obtain ⟨i, h1, _, h3, _⟩ := ti_3
  exact ⟨_, _, Tryz.underlying96, rfl, rfl, i, h1, by rw [h3]; decide⟩
theorem sh_3 : Shp Tryz.prog 3 false 1 := shp Tryz.underlying3 rfl ti_3
theorem fd_45_1 : FldAt Tryz.prog 45 1 1 := by
  obtain ⟨i, h1, _, h3, _⟩ := ti_9
  exact ⟨_, _, Tryz.underlying45, rfl, rfl, i, h1, by rw [h3]; decide⟩
theorem ti_52 : TyI Tryz.prog 52 2 32 (.agg #[.pointer none, .slice none 0 0]) := tyI (by kernel_rfl)
theorem ti_37 : TyI Tryz.prog 37 4 32 (.agg #[.int .i64 0, .int .i64 0, .int .i64 0, .int .i64 0]) := tyI (by kernel_rfl)
theorem zr_api_Fault : Zr (L_api_Fault (⟨0, 0, 0, 0⟩ : M_api_Fault)) [.int .i64 0, .int .i64 0, .int .i64 0, .int .i64 0] := zr_agg (zrs_cons (c1 := [.int .i64 0]) zr_i64 (zrs_cons (c1 := [.int .i64 0]) zr_i64 (zrs_cons (c1 := [.int .i64 0]) zr_i64 (zrs_cons (c1 := [.int .i64 0]) zr_i64 (zrs_nil)))))
theorem ti_75 : TyI Tryz.prog 75 2 24 (.agg #[.string ⟨#[]⟩, .int .i64 0]) := tyI (by kernel_rfl)
theorem pl_75 : Plc Tryz.prog 75 [(0, 1), (1, 1)] := ⟨_, Tryz.underlying75, by kernel_rfl⟩
theorem zr_wire_reader : Zr (L_wire_reader (⟨[], 0⟩ : M_wire_reader)) [.string ⟨#[]⟩, .int .i64 0] := zr_agg (zrs_cons (c1 := [.string ⟨#[]⟩]) zr_str (zrs_cons (c1 := [.int .i64 0]) zr_i64 (zrs_nil)))
theorem fd_75_1 : FldAt Tryz.prog 75 1 1 := by
  obtain ⟨i, h1, _, h3, _⟩ := ti_3
  exact ⟨_, _, Tryz.underlying75, rfl, rfl, i, h1, by rw [h3]; decide⟩
theorem fd_75_0 : FldAt Tryz.prog 75 0 0 := by
  obtain ⟨i, h1, _, h3, _⟩ := ti_9
  exact ⟨_, _, Tryz.underlying75, rfl, rfl, i, h1, by rw [h3]; decide⟩
theorem pl_37 : Plc Tryz.prog 37 [(0, 1), (1, 1), (2, 1), (3, 1)] := ⟨_, Tryz.underlying37, by kernel_rfl⟩
theorem sh_37 : Shp Tryz.prog 37 true 4 := shp Tryz.underlying37 rfl ti_37
theorem ti_107 : TyI Tryz.prog 107 1 4 (.int .u32 0) := tyI (by kernel_rfl)
theorem sh_107 : Shp Tryz.prog 107 false 1 := shp Tryz.underlying107 rfl ti_107
theorem eq_37_2 : EqF Tryz.prog 2 37 (fun x : M_api_Fault => .agg [i64 x.Kind, i64 x.Step, i64 x.Stage, i64 x.At]) eqb_api_Fault :=
  eqf_struct Tryz.underlying37 (by kernel_rfl) (eqfs_cons rfl rfl sh_3 (fun _ => rfl) (fun _ => rfl) (eqf_comp (fun x : M_api_Fault => x.Kind) (eqf_i64 (n := 0) Tryz.underlying3)) (eqfs_cons rfl rfl sh_3 (fun _ => rfl) (fun _ => rfl) (eqf_comp (fun x : M_api_Fault => x.Step) (eqf_i64 (n := 0) Tryz.underlying3)) (eqfs_cons rfl rfl sh_3 (fun _ => rfl) (fun _ => rfl) (eqf_comp (fun x : M_api_Fault => x.Stage) (eqf_i64 (n := 0) Tryz.underlying3)) (eqfs_cons rfl rfl sh_3 (fun _ => rfl) (fun _ => rfl) (eqf_comp (fun x : M_api_Fault => x.At) (eqf_i64 (n := 0) Tryz.underlying3)) (eqfs_nil)))))
theorem eg_37 : Tryz.prog.eqGuardType Tryz.prog.depth 37 = false := by kernel_rfl
theorem ti_165 : TyI Tryz.prog 165 9 9 (.agg #[.int .u8 0, .int .u8 0, .int .u8 0, .int .u8 0, .int .u8 0, .int .u8 0, .int .u8 0, .int .u8 0, .int .u8 0]) := tyI (by kernel_rfl)
theorem zr_A9_u8 : Zr (L_A9_u8 (⟨0, 0, 0, 0, 0, 0, 0, 0, 0⟩ : M_A9_u8)) [.int .u8 0, .int .u8 0, .int .u8 0, .int .u8 0, .int .u8 0, .int .u8 0, .int .u8 0, .int .u8 0, .int .u8 0] := zr_agg (zrs_cons (c1 := [.int .u8 0]) zr_u8 (zrs_cons (c1 := [.int .u8 0]) zr_u8 (zrs_cons (c1 := [.int .u8 0]) zr_u8 (zrs_cons (c1 := [.int .u8 0]) zr_u8 (zrs_cons (c1 := [.int .u8 0]) zr_u8 (zrs_cons (c1 := [.int .u8 0]) zr_u8 (zrs_cons (c1 := [.int .u8 0]) zr_u8 (zrs_cons (c1 := [.int .u8 0]) zr_u8 (zrs_cons (c1 := [.int .u8 0]) zr_u8 (zrs_nil))))))))))
theorem ti_5 : TyI Tryz.prog 5 1 1 (.int .u8 0) := tyI (by kernel_rfl)
theorem sh_5 : Shp Tryz.prog 5 false 1 := shp Tryz.underlying5 rfl ti_5
theorem ofl_ok_A9_u8 : ∀ l : List Nat, l.length = 9 → (.agg (l.map u8) : Ly) = L_A9_u8 (ofl_A9_u8 l)
  | [a0, a1, a2, a3, a4, a5, a6, a7, a8], _ => rfl
  | [], h => by simp at h
  | [_], h => by simp at h
  | [_, _], h => by simp at h
  | [_, _, _], h => by simp at h
  | [_, _, _, _], h => by simp at h
  | [_, _, _, _, _], h => by simp at h
  | [_, _, _, _, _, _], h => by simp at h
  | [_, _, _, _, _, _, _], h => by simp at h
  | [_, _, _, _, _, _, _, _], h => by simp at h
  | _ :: _ :: _ :: _ :: _ :: _ :: _ :: _ :: _ :: _ :: _, h => by simp at h
theorem fd_37_0 : FldAt Tryz.prog 37 0 0 := by
  obtain ⟨i, h1, _, h3, _⟩ := ti_3
  exact ⟨_, _, Tryz.underlying37, rfl, rfl, i, h1, by rw [h3]; decide⟩
theorem fd_37_1 : FldAt Tryz.prog 37 1 1 := by
  obtain ⟨i, h1, _, h3, _⟩ := ti_3
  exact ⟨_, _, Tryz.underlying37, rfl, rfl, i, h1, by rw [h3]; decide⟩
theorem fd_37_2 : FldAt Tryz.prog 37 2 2 := by
  obtain ⟨i, h1, _, h3, _⟩ := ti_3
  exact ⟨_, _, Tryz.underlying37, rfl, rfl, i, h1, by rw [h3]; decide⟩
theorem fd_37_3 : FldAt Tryz.prog 37 3 3 := by
  obtain ⟨i, h1, _, h3, _⟩ := ti_3
  exact ⟨_, _, Tryz.underlying37, rfl, rfl, i, h1, by rw [h3]; decide⟩
theorem ti_62 : TyI Tryz.prog 62 3 24 (.agg #[.int .i64 0, .int .i64 0, .int .i64 0]) := tyI (by kernel_rfl)
theorem zr_A3_i64 : Zr (L_A3_i64 (⟨0, 0, 0⟩ : M_A3_i64)) [.int .i64 0, .int .i64 0, .int .i64 0] := zr_agg (zrs_cons (c1 := [.int .i64 0]) zr_i64 (zrs_cons (c1 := [.int .i64 0]) zr_i64 (zrs_cons (c1 := [.int .i64 0]) zr_i64 (zrs_nil))))
theorem ofl_ok_A3_i64 : ∀ l : List Int, l.length = 3 → (.agg (l.map i64) : Ly) = L_A3_i64 (ofl_A3_i64 l)
  | [a0, a1, a2], _ => rfl
  | [], h => by simp at h
  | [_], h => by simp at h
  | [_, _], h => by simp at h
  | _ :: _ :: _ :: _ :: _, h => by simp at h
theorem ti_35 : TyI Tryz.prog 35 4 32 (.agg #[.int .i64 0, .int .i64 0, .int .i64 0, .int .i64 0]) := tyI (by kernel_rfl)
theorem zr_A4_i64 : Zr (L_A4_i64 (⟨0, 0, 0, 0⟩ : M_A4_i64)) [.int .i64 0, .int .i64 0, .int .i64 0, .int .i64 0] := zr_agg (zrs_cons (c1 := [.int .i64 0]) zr_i64 (zrs_cons (c1 := [.int .i64 0]) zr_i64 (zrs_cons (c1 := [.int .i64 0]) zr_i64 (zrs_cons (c1 := [.int .i64 0]) zr_i64 (zrs_nil)))))
theorem sh_35 : Shp Tryz.prog 35 true 4 := shp Tryz.underlying35 rfl ti_35
theorem ti_69 : TyI Tryz.prog 69 2 32 (.agg #[.bool false, .slice none 0 0]) := tyI (by kernel_rfl)
theorem zr_retrospectref08_Whole : Zr (L_retrospectref08_Whole (⟨false, []⟩ : M_retrospectref08_Whole)) [.bool false, .slice none 0 0] := zr_agg (zrs_cons (c1 := [.bool false]) zr_bl (zrs_cons (c1 := [.slice none 0 0]) zr_sli (zrs_nil)))
theorem pl_69 : Plc Tryz.prog 69 [(0, 1), (1, 1)] := ⟨_, Tryz.underlying69, by kernel_rfl⟩
theorem sh_69 : Shp Tryz.prog 69 true 2 := shp Tryz.underlying69 rfl ti_69
theorem ti_67 : TyI Tryz.prog 67 1 24 (.slice none 0 0) := tyI (by kernel_rfl)
theorem fd_69_1 : FldAt Tryz.prog 69 1 1 := by
  obtain ⟨i, h1, _, h3, _⟩ := ti_67
  exact ⟨_, _, Tryz.underlying69, rfl, rfl, i, h1, by rw [h3]; decide⟩
theorem sh_67 : Shp Tryz.prog 67 false 1 := shp Tryz.underlying67 rfl ti_67
theorem ti_4 : TyI Tryz.prog 4 1 1 (.bool false) := tyI (by kernel_rfl)
theorem fd_69_0 : FldAt Tryz.prog 69 0 0 := by
  obtain ⟨i, h1, _, h3, _⟩ := ti_4
  exact ⟨_, _, Tryz.underlying69, rfl, rfl, i, h1, by rw [h3]; decide⟩
theorem sh_4 : Shp Tryz.prog 4 false 1 := shp Tryz.underlying4 rfl ti_4
theorem ofl_ok_A4_i64 : ∀ l : List Int, l.length = 4 → (.agg (l.map i64) : Ly) = L_A4_i64 (ofl_A4_i64 l)
  | [a0, a1, a2, a3], _ => rfl
  | [], h => by simp at h
  | [_], h => by simp at h
  | [_, _], h => by simp at h
  | [_, _, _], h => by simp at h
  | _ :: _ :: _ :: _ :: _ :: _, h => by simp at h
theorem ti_84 : TyI Tryz.prog 84 3 56 (.agg #[.bool false, .slice none 0 0, .slice none 0 0]) := tyI (by kernel_rfl)
theorem zr_retrospectref09_Frac : Zr (L_retrospectref09_Frac (⟨false, [], []⟩ : M_retrospectref09_Frac)) [.bool false, .slice none 0 0, .slice none 0 0] := zr_agg (zrs_cons (c1 := [.bool false]) zr_bl (zrs_cons (c1 := [.slice none 0 0]) zr_sli (zrs_cons (c1 := [.slice none 0 0]) zr_sli (zrs_nil))))
theorem pl_84 : Plc Tryz.prog 84 [(0, 1), (1, 1), (2, 1)] := ⟨_, Tryz.underlying84, by kernel_rfl⟩
theorem fd_84_2 : FldAt Tryz.prog 84 2 2 := by
  obtain ⟨i, h1, _, h3, _⟩ := ti_67
  exact ⟨_, _, Tryz.underlying84, rfl, rfl, i, h1, by rw [h3]; decide⟩
theorem fd_84_1 : FldAt Tryz.prog 84 1 1 := by
  obtain ⟨i, h1, _, h3, _⟩ := ti_67
  exact ⟨_, _, Tryz.underlying84, rfl, rfl, i, h1, by rw [h3]; decide⟩
theorem sh_84 : Shp Tryz.prog 84 true 3 := shp Tryz.underlying84 rfl ti_84
theorem fd_84_0 : FldAt Tryz.prog 84 0 0 := by
  obtain ⟨i, h1, _, h3, _⟩ := ti_4
  exact ⟨_, _, Tryz.underlying84, rfl, rfl, i, h1, by rw [h3]; decide⟩
theorem c_lex_digit {x0 : Nat} : ∀ r, m_lex_digit x0 = some r → FnOk Tryz.prog 95 [u8 x0] [] (bl r) [] := by
  unfold m_lex_digit
  refine fn_of_sq (res := fun (r : Bool) => bl r) (mo := fun (r : Bool) => []) Tryz.func95 rfl rfl (by kernel_rfl) rfl ?_
  intro w S0 γ hγ
  refine sseq ?_
  refine sreg ?_
  refine s1 (asg rfl kB) ?_
  refine snil ?_
  refine pnm ?_
  refine sjq (fun (s3 : Bool) => [(2, bl s3)]) (fun (s3 : Bool) => []) ?_ ?_
  · intro j1 hj2
    refine sreg ?_
    refine s1 (mv rfl rfl) ?_
    refine s1 (geU .u8 rfl rfl (k8 (x := 48) rfl)) ?_
    refine s1 (mv rfl rfl) ?_
    refine sifd 5 rfl ?_ ?_
    · refine sg 5 rfl rfl (mv rfl rfl) ?_
      refine sg 5 rfl rfl (leU .u8 rfl rfl (k8 (x := 57) rfl)) ?_
      refine s1 (pickT rfl rfl rfl) ?_
      refine s1 (asg rfl rfl) ?_
      refine snil ?_
      refine pnm ?_
      exact sj (hj2 _) (entI ⟨rfl, trivial⟩ eqm0)
    · refine spB 5 rfl rfl rfl ?_
      refine spB 5 rfl rfl rfl ?_
      refine s1 (pickF rfl rfl kB) ?_
      refine s1 (asg rfl rfl) ?_
      refine snil ?_
      refine pnm ?_
      exact sj (hj2 _) (entI ⟨rfl, trivial⟩ eqm0)
  · intro s3
    refine sret ?_
    exact ret [] [.tmp 2] [_] [_] .ret hγ (.inl rfl) rfl ⟨rfl, trivial⟩ rfl trivial trivial trivial (rns_cons (rn_id if_bl) (rns_nil)) rfl
theorem c_lex_letter {x0 : Nat} : ∀ r, m_lex_letter x0 = some r → FnOk Tryz.prog 96 [u8 x0] [] (bl r) [] := by
  unfold m_lex_letter
  refine fn_of_sq (res := fun (r : Bool) => bl r) (mo := fun (r : Bool) => []) Tryz.func96 rfl rfl (by kernel_rfl) rfl ?_
  intro w S0 γ hγ
  refine sseq ?_
  refine sreg ?_
  refine s1 (asg rfl kB) ?_
  refine snil ?_
  refine pnm ?_
  refine sjq (fun (s3 : Bool) => [(2, bl s3)]) (fun (s3 : Bool) => []) ?_ ?_
  · intro j1 hj2
    refine sreg ?_
    refine s1 (mv rfl rfl) ?_
    refine s1 (geU .u8 rfl rfl (k8 (x := 97) rfl)) ?_
    refine s1 (mv rfl rfl) ?_
    refine sifd 5 rfl ?_ ?_
    · refine sg 5 rfl rfl (mv rfl rfl) ?_
      refine sg 5 rfl rfl (leU .u8 rfl rfl (k8 (x := 122) rfl)) ?_
      refine s1 (pickT rfl rfl rfl) ?_
      refine s1 (mv rfl rfl) ?_
      refine sifd 9 rfl ?_ ?_
      · refine spB 9 rfl rfl rfl ?_
        refine spB 9 rfl rfl rfl ?_
        refine spB 9 rfl rfl rfl ?_
        refine spU 12 rfl rfl rfl ?_
        refine spU 12 rfl rfl rfl ?_
        refine spB 9 rfl rfl rfl ?_
        refine s1 (pickT rfl rfl kB) ?_
        refine s1 (mv rfl rfl) ?_
        refine spB 17 rfl rfl rfl ?_
        refine spB 17 rfl rfl rfl ?_
        refine s1 (pickT rfl rfl kB) ?_
        refine s1 (asg rfl rfl) ?_
        refine snil ?_
        refine pnm ?_
        exact sj (hj2 _) (entI ⟨rfl, trivial⟩ eqm0)
      · refine sg 9 rfl rfl (mv rfl rfl) ?_
        refine sg 9 rfl rfl (geU .u8 rfl rfl (k8 (x := 65) rfl)) ?_
        refine sg 9 rfl rfl (mv rfl rfl) ?_
        refine sifd 12 rfl ?_ ?_
        · refine sg 12 rfl rfl (mv rfl rfl) ?_
          refine sg 12 rfl rfl (leU .u8 rfl rfl (k8 (x := 90) rfl)) ?_
          refine sg 9 rfl rfl (pickT rfl rfl rfl) ?_
          refine s1 (pickF rfl rfl rfl) ?_
          refine s1 (mv rfl rfl) ?_
          refine sifd 17 rfl ?_ ?_
          · refine spB 17 rfl rfl rfl ?_
            refine spB 17 rfl rfl rfl ?_
            refine s1 (pickT rfl rfl kB) ?_
            refine s1 (asg rfl rfl) ?_
            refine snil ?_
            refine pnm ?_
            exact sj (hj2 _) (entI ⟨rfl, trivial⟩ eqm0)
          · refine sg 17 rfl rfl (mv rfl rfl) ?_
            refine sg 17 rfl rfl (eqU .u8 rfl rfl (k8 (x := 95) rfl)) ?_
            refine s1 (pickF rfl rfl rfl) ?_
            refine s1 (asg rfl rfl) ?_
            refine snil ?_
            refine pnm ?_
            exact sj (hj2 _) (entI ⟨rfl, trivial⟩ eqm0)
        · refine spB 12 rfl rfl rfl ?_
          refine spB 12 rfl rfl rfl ?_
          refine sg 9 rfl rfl (pickF rfl rfl kB) ?_
          refine s1 (pickF rfl rfl rfl) ?_
          refine s1 (mv rfl rfl) ?_
          refine sg 17 rfl rfl (mv rfl rfl) ?_
          refine sg 17 rfl rfl (eqU .u8 rfl rfl (k8 (x := 95) rfl)) ?_
          refine s1 (pickF rfl rfl rfl) ?_
          refine s1 (asg rfl rfl) ?_
          refine snil ?_
          refine pnm ?_
          exact sj (hj2 _) (entI ⟨rfl, trivial⟩ eqm0)
    · refine spB 5 rfl rfl rfl ?_
      refine spB 5 rfl rfl rfl ?_
      refine s1 (pickF rfl rfl kB) ?_
      refine s1 (mv rfl rfl) ?_
      refine sg 9 rfl rfl (mv rfl rfl) ?_
      refine sg 9 rfl rfl (geU .u8 rfl rfl (k8 (x := 65) rfl)) ?_
      refine sg 9 rfl rfl (mv rfl rfl) ?_
      refine sifd 12 rfl ?_ ?_
      · refine sg 12 rfl rfl (mv rfl rfl) ?_
        refine sg 12 rfl rfl (leU .u8 rfl rfl (k8 (x := 90) rfl)) ?_
        refine sg 9 rfl rfl (pickT rfl rfl rfl) ?_
        refine s1 (pickF rfl rfl rfl) ?_
        refine s1 (mv rfl rfl) ?_
        refine sifd 17 rfl ?_ ?_
        · refine spB 17 rfl rfl rfl ?_
          refine spB 17 rfl rfl rfl ?_
          refine s1 (pickT rfl rfl kB) ?_
          refine s1 (asg rfl rfl) ?_
          refine snil ?_
          refine pnm ?_
          exact sj (hj2 _) (entI ⟨rfl, trivial⟩ eqm0)
        · refine sg 17 rfl rfl (mv rfl rfl) ?_
          refine sg 17 rfl rfl (eqU .u8 rfl rfl (k8 (x := 95) rfl)) ?_
          refine s1 (pickF rfl rfl rfl) ?_
          refine s1 (asg rfl rfl) ?_
          refine snil ?_
          refine pnm ?_
          exact sj (hj2 _) (entI ⟨rfl, trivial⟩ eqm0)
      · refine spB 12 rfl rfl rfl ?_
        refine spB 12 rfl rfl rfl ?_
        refine sg 9 rfl rfl (pickF rfl rfl kB) ?_
        refine s1 (pickF rfl rfl rfl) ?_
        refine s1 (mv rfl rfl) ?_
        refine sg 17 rfl rfl (mv rfl rfl) ?_
        refine sg 17 rfl rfl (eqU .u8 rfl rfl (k8 (x := 95) rfl)) ?_
        refine s1 (pickF rfl rfl rfl) ?_
        refine s1 (asg rfl rfl) ?_
        refine snil ?_
        refine pnm ?_
        exact sj (hj2 _) (entI ⟨rfl, trivial⟩ eqm0)
  · intro s3
    refine sret ?_
    exact ret [] [.tmp 2] [_] [_] .ret hγ (.inl rfl) rfl ⟨rfl, trivial⟩ rfl trivial trivial trivial (rns_cons (rn_id if_bl) (rns_nil)) rfl
theorem c_lex_sign {n : Nat} {x0 : Nat} : ∀ r, m_lex_sign n x0 = some r → FnOk Tryz.prog 97 [u8 x0] [] (bl r) [] := by
  unfold m_lex_sign
  refine fn_of_sq (res := fun (r : Bool) => bl r) (mo := fun (r : Bool) => []) Tryz.func97 rfl rfl (by kernel_rfl) rfl ?_
  intro w S0 γ hγ
  refine sseq ?_
  refine sreg ?_
  refine s1 (asg rfl kB) ?_
  refine snil ?_
  refine pnm ?_
  refine sseq ?_
  refine sseq ?_
  refine sreg ?_
  refine so (rngS (y := 100) Tryz.underlying9 (kS (s := [43, 45, 42, 47, 94, 40, 41, 91, 93, 44, 59, 61]) rfl) rfl rfl) ?_
  refine snil ?_
  refine pnm ?_
  refine sblk ?_
  refine sloopE 0 Lp.go (fun (s9 : Nat) => [(0, u8 x0), (2, bl false), (5, .own 100)]) (fun (s9 : Nat) => [(100, .ob (sIt ([43, 45, 42, 47, 94, 40, 41, 91, 93, 44, 59, 61] : List UInt8) s9))]) (fun (t7 : Unit) => [(2, bl false)]) (fun (t7 : Unit) => []) (entR [(100, 100)] rfl (keepS hγ trivial) ⟨⟨_, rfl⟩, trivial⟩ ⟨⟨_, _, rfl, rfl, rci (rc_ob)⟩, trivial⟩ ⟨⟨_, rfl, rn_id if_u8⟩, ⟨_, rfl, rn_id if_bl⟩, ⟨_, rfl, rn_own rfl⟩, trivial⟩) ?_ ?_
  · intro hj8 s9
    refine sseq ?_
    refine sreg ?_
    refine sif (fun hb10 => ?_) (fun hb10 => ?_)
    · refine so (nxtT hb10 rfl rfl rfl rfl) ?_
      refine s1 (ext (by exact rfl) rfl rfl) ?_
      refine snil ?_
      refine pnm ?_
      refine sseq ?_
      refine scT rfl ?_
      refine sskip ?_
      refine pnm ?_
      refine sblk ?_
      refine sseq ?_
      refine sreg ?_
      refine s1 (ext (by exact rfl) rfl rfl) ?_
      refine sbn (F := i32) 8 rfl fun z11 => ?_
      refine s1 (asg rfl rfl) ?_
      refine snil ?_
      refine pnm ?_
      refine sseq ?_
      refine sreg ?_
      refine s1 (mv rfl rfl) ?_
      refine s1 (cvIU uk8 Tryz.underlying21 Tryz.underlying5 rfl rfl) ?_
      refine s1 (mv rfl rfl) ?_
      refine s1 (eqU .u8 rfl rfl rfl) ?_
      refine snil ?_
      refine pnm ?_
      refine scond rfl ?_ ?_
      · refine sseq ?_
        refine sreg ?_
        refine s1 (asg rfl kB) ?_
        refine snil ?_
        refine pnm ?_
        refine sret ?_
        refine pbl ?_
        refine sout (fun h => by cases h) ?_
        refine pbl ?_
        refine pth ?_
        exact ret [] [.tmp 2] [_] [_] .ret hγ (.inl rfl) rfl ⟨rfl, trivial⟩ rfl trivial trivial trivial (rns_cons (rn_id if_bl) (rns_nil)) rfl
      · refine sskip ?_
        refine pbn ?_
        exact sgo (entR [(100, 100)] rfl (keepS hγ trivial) ⟨⟨_, rfl⟩, trivial⟩ ⟨⟨_, _, rfl, rfl, rci (rc_ob)⟩, trivial⟩ ⟨⟨_, rfl, rn_id if_u8⟩, ⟨_, rfl, rn_id if_bl⟩, ⟨_, rfl, rn_own rfl⟩, trivial⟩)
    · refine s1 (nxtF hb10 rfl rfl rfl) ?_
      refine s1 (ext (by exact rfl) rfl rfl) ?_
      refine snil ?_
      refine pnm ?_
      refine sseq ?_
      refine scF rfl ?_
      refine sexit ?_
      refine ptx ?_
      exact sout (fun h => by cases h) (sj (hj8 _) (entR [] rfl (keepS hγ trivial) (by exact trivial) (by exact trivial) ⟨⟨_, rfl, rn_id if_bl⟩, trivial⟩))
  · intro t7
    refine slpk ?_
    refine sx ?_
    refine pnm ?_
    refine sseq ?_
    refine sreg ?_
    refine s1 (asg rfl kB) ?_
    refine snil ?_
    refine pnm ?_
    refine sret ?_
    exact ret [] [.tmp 2] [_] [_] .ret hγ (.inl rfl) rfl ⟨rfl, trivial⟩ rfl trivial trivial trivial (rns_cons (rn_id if_bl) (rns_nil)) rfl
theorem c_lex_kind {n : Nat} {x0 : Nat} : ∀ r, m_lex_kind n x0 = some r → FnOk Tryz.prog 65 [u8 x0] [] (i64 r) [] := by
  unfold m_lex_kind
  refine fn_of_sq (res := fun (r : Int) => i64 r) (mo := fun (r : Int) => []) Tryz.func65 rfl rfl (by kernel_rfl) rfl ?_
  intro w S0 γ hγ
  refine sseq ?_
  refine sreg ?_
  refine s1 (asg rfl (kI (x := 0) rfl)) ?_
  refine snil ?_
  refine pnm ?_
  refine sseq ?_
  refine sblk ?_
  refine sseq ?_
  refine sreg ?_
  refine s1 (mv rfl rfl) ?_
  refine bd fun r1 h2 => ?_
  refine s1 (call0 (c_lex_digit _ h2) ⟨⟨_, rfl, rn_id if_u8⟩, trivial⟩ (if_bl) rfl) ?_
  refine s1 (asg rfl rfl) ?_
  refine snil ?_
  refine pnm ?_
  refine scond rfl ?_ ?_
  · refine sseq ?_
    refine sreg ?_
    refine s1 (asg rfl (kI (x := 1) rfl)) ?_
    refine snil ?_
    refine pnm ?_
    refine sret ?_
    refine pbl ?_
    refine pth ?_
    exact ret [] [.tmp 2] [_] [_] .ret hγ (.inl rfl) rfl ⟨rfl, trivial⟩ rfl trivial trivial trivial (rns_cons (rn_id if_i64) (rns_nil)) rfl
  · refine sseq ?_
    refine sreg ?_
    refine s1 (mv rfl rfl) ?_
    refine bd fun r3 h4 => ?_
    refine s1 (call0 (c_lex_letter _ h4) ⟨⟨_, rfl, rn_id if_u8⟩, trivial⟩ (if_bl) rfl) ?_
    refine s1 (asg rfl rfl) ?_
    refine snil ?_
    refine pnm ?_
    refine scond rfl ?_ ?_
    · refine sseq ?_
      refine sreg ?_
      refine s1 (asg rfl (kI (x := 2) rfl)) ?_
      refine snil ?_
      refine pnm ?_
      refine sret ?_
      refine pbl ?_
      refine pth ?_
      exact ret [] [.tmp 2] [_] [_] .ret hγ (.inl rfl) rfl ⟨rfl, trivial⟩ rfl trivial trivial trivial (rns_cons (rn_id if_i64) (rns_nil)) rfl
    · refine sseq ?_
      refine sreg ?_
      refine s1 (mv rfl rfl) ?_
      refine bd fun r5 h6 => ?_
      refine s1 (call0 (c_lex_sign _ h6) ⟨⟨_, rfl, rn_id if_u8⟩, trivial⟩ (if_bl) rfl) ?_
      refine s1 (asg rfl rfl) ?_
      refine snil ?_
      refine pnm ?_
      refine scond rfl ?_ ?_
      · refine sseq ?_
        refine sreg ?_
        refine s1 (asg rfl (kI (x := 3) rfl)) ?_
        refine snil ?_
        refine pnm ?_
        refine sret ?_
        refine pbl ?_
        refine pth ?_
        exact ret [] [.tmp 2] [_] [_] .ret hγ (.inl rfl) rfl ⟨rfl, trivial⟩ rfl trivial trivial trivial (rns_cons (rn_id if_i64) (rns_nil)) rfl
      · refine sskip ?_
        refine pbn ?_
        refine pnm ?_
        refine sseq ?_
        refine sreg ?_
        refine s1 (asg rfl (kI (x := 0) rfl)) ?_
        refine snil ?_
        refine pnm ?_
        refine sret ?_
        exact ret [] [.tmp 2] [_] [_] .ret hγ (.inl rfl) rfl ⟨rfl, trivial⟩ rfl trivial trivial trivial (rns_cons (rn_id if_i64) (rns_nil)) rfl
theorem c_lex_goes {x0 : Int} {x1 : Nat} : ∀ r, m_lex_goes x0 x1 = some r → FnOk Tryz.prog 98 [i64 x0, u8 x1] [] (bl r) [] := by
  unfold m_lex_goes
  refine fn_of_sq (res := fun (r : Bool) => bl r) (mo := fun (r : Bool) => []) Tryz.func98 rfl rfl (by kernel_rfl) rfl ?_
  intro w S0 γ hγ
  refine sseq ?_
  refine sreg ?_
  refine s1 (asg rfl kB) ?_
  refine snil ?_
  refine pnm ?_
  refine sjq (fun (s13 : Bool) => [(4, bl s13)]) (fun (s13 : Bool) => []) ?_ ?_
  · intro j11 hj12
    refine sreg ?_
    refine s1 (mv rfl rfl) ?_
    refine s1 (eqI rfl rfl (kI (x := 1) rfl)) ?_
    refine s1 (mv rfl rfl) ?_
    refine sifd 7 rfl ?_ ?_
    · refine sg 7 rfl rfl (mv rfl rfl) ?_
      refine bd fun r14 h15 => ?_
      refine sg 7 rfl rfl (call0 (c_lex_digit _ h15) ⟨⟨_, rfl, rn_id if_u8⟩, trivial⟩ (if_bl) rfl) ?_
      refine s1 (pickT rfl rfl rfl) ?_
      refine s1 (mv rfl rfl) ?_
      refine sifd 11 rfl ?_ ?_
      · refine spB 11 rfl rfl rfl ?_
        refine spB 11 rfl rfl rfl ?_
        refine spB 11 rfl rfl rfl ?_
        refine spU 14 rfl rfl rfl ?_
        refine spU 14 rfl rfl rfl ?_
        refine spU 14 rfl rfl rfl ?_
        refine spU 17 rfl rfl rfl ?_
        refine spU 17 rfl rfl rfl ?_
        refine spU 14 rfl rfl rfl ?_
        refine spB 11 rfl rfl rfl ?_
        refine s1 (pickT rfl rfl kB) ?_
        refine s1 (asg rfl rfl) ?_
        refine snil ?_
        refine pnm ?_
        exact sj (hj12 _) (entI ⟨rfl, trivial⟩ eqm0)
      · refine sg 11 rfl rfl (mv rfl rfl) ?_
        refine sg 11 rfl rfl (eqI rfl rfl (kI (x := 2) rfl)) ?_
        refine sg 11 rfl rfl (mv rfl rfl) ?_
        refine sifd 14 rfl ?_ ?_
        · refine sg 14 rfl rfl (mv rfl rfl) ?_
          refine bd fun r16 h17 => ?_
          refine sg 14 rfl rfl (call0 (c_lex_letter _ h17) ⟨⟨_, rfl, rn_id if_u8⟩, trivial⟩ (if_bl) rfl) ?_
          refine sg 14 rfl rfl (mv rfl rfl) ?_
          refine sifd 17 rfl ?_ ?_
          · refine spB 17 rfl rfl rfl ?_
            refine spB 17 rfl rfl rfl ?_
            refine sg 14 rfl rfl (pickT rfl rfl kB) ?_
            refine sg 11 rfl rfl (pickT rfl rfl rfl) ?_
            refine s1 (pickF rfl rfl rfl) ?_
            refine s1 (asg rfl rfl) ?_
            refine snil ?_
            refine pnm ?_
            exact sj (hj12 _) (entI ⟨rfl, trivial⟩ eqm0)
          · refine sg 17 rfl rfl (mv rfl rfl) ?_
            refine bd fun r18 h19 => ?_
            refine sg 17 rfl rfl (call0 (c_lex_digit _ h19) ⟨⟨_, rfl, rn_id if_u8⟩, trivial⟩ (if_bl) rfl) ?_
            refine sg 14 rfl rfl (pickF rfl rfl rfl) ?_
            refine sg 11 rfl rfl (pickT rfl rfl rfl) ?_
            refine s1 (pickF rfl rfl rfl) ?_
            refine s1 (asg rfl rfl) ?_
            refine snil ?_
            refine pnm ?_
            exact sj (hj12 _) (entI ⟨rfl, trivial⟩ eqm0)
        · refine spB 14 rfl rfl rfl ?_
          refine spB 14 rfl rfl rfl ?_
          refine spB 14 rfl rfl rfl ?_
          refine spU 17 rfl rfl rfl ?_
          refine spU 17 rfl rfl rfl ?_
          refine spB 14 rfl rfl rfl ?_
          refine sg 11 rfl rfl (pickF rfl rfl kB) ?_
          refine s1 (pickF rfl rfl rfl) ?_
          refine s1 (asg rfl rfl) ?_
          refine snil ?_
          refine pnm ?_
          exact sj (hj12 _) (entI ⟨rfl, trivial⟩ eqm0)
    · refine spB 7 rfl rfl rfl ?_
      refine spB 7 rfl rfl rfl ?_
      refine s1 (pickF rfl rfl kB) ?_
      refine s1 (mv rfl rfl) ?_
      refine sg 11 rfl rfl (mv rfl rfl) ?_
      refine sg 11 rfl rfl (eqI rfl rfl (kI (x := 2) rfl)) ?_
      refine sg 11 rfl rfl (mv rfl rfl) ?_
      refine sifd 14 rfl ?_ ?_
      · refine sg 14 rfl rfl (mv rfl rfl) ?_
        refine bd fun r20 h21 => ?_
        refine sg 14 rfl rfl (call0 (c_lex_letter _ h21) ⟨⟨_, rfl, rn_id if_u8⟩, trivial⟩ (if_bl) rfl) ?_
        refine sg 14 rfl rfl (mv rfl rfl) ?_
        refine sifd 17 rfl ?_ ?_
        · refine spB 17 rfl rfl rfl ?_
          refine spB 17 rfl rfl rfl ?_
          refine sg 14 rfl rfl (pickT rfl rfl kB) ?_
          refine sg 11 rfl rfl (pickT rfl rfl rfl) ?_
          refine s1 (pickF rfl rfl rfl) ?_
          refine s1 (asg rfl rfl) ?_
          refine snil ?_
          refine pnm ?_
          exact sj (hj12 _) (entI ⟨rfl, trivial⟩ eqm0)
        · refine sg 17 rfl rfl (mv rfl rfl) ?_
          refine bd fun r22 h23 => ?_
          refine sg 17 rfl rfl (call0 (c_lex_digit _ h23) ⟨⟨_, rfl, rn_id if_u8⟩, trivial⟩ (if_bl) rfl) ?_
          refine sg 14 rfl rfl (pickF rfl rfl rfl) ?_
          refine sg 11 rfl rfl (pickT rfl rfl rfl) ?_
          refine s1 (pickF rfl rfl rfl) ?_
          refine s1 (asg rfl rfl) ?_
          refine snil ?_
          refine pnm ?_
          exact sj (hj12 _) (entI ⟨rfl, trivial⟩ eqm0)
      · refine spB 14 rfl rfl rfl ?_
        refine spB 14 rfl rfl rfl ?_
        refine spB 14 rfl rfl rfl ?_
        refine spU 17 rfl rfl rfl ?_
        refine spU 17 rfl rfl rfl ?_
        refine spB 14 rfl rfl rfl ?_
        refine sg 11 rfl rfl (pickF rfl rfl kB) ?_
        refine s1 (pickF rfl rfl rfl) ?_
        refine s1 (asg rfl rfl) ?_
        refine snil ?_
        refine pnm ?_
        exact sj (hj12 _) (entI ⟨rfl, trivial⟩ eqm0)
  · intro s13
    refine sret ?_
    exact ret [] [.tmp 4] [_] [_] .ret hγ (.inl rfl) rfl ⟨rfl, trivial⟩ rfl trivial trivial trivial (rns_cons (rn_id if_bl) (rns_nil)) rfl
theorem c_lex_first {n : Nat} {x0 : (List UInt8)} {x1 : Int} : ∀ r, m_lex_first n x0 x1 = some r → FnOk Tryz.prog 66 [str x0, i64 x1] [] (i64 r) [] := by
  unfold m_lex_first
  refine fn_of_sq (res := fun (r : Int) => i64 r) (mo := fun (r : Int) => []) Tryz.func66 rfl rfl (by kernel_rfl) rfl ?_
  intro w S0 γ hγ
  refine sseq ?_
  refine sreg ?_
  refine s1 (asg rfl (kI (x := 0) rfl)) ?_
  refine snil ?_
  refine pnm ?_
  refine sseq ?_
  refine sreg ?_
  refine s1 (asg rfl (kI (x := 1) rfl)) ?_
  refine snil ?_
  refine pnm ?_
  refine sseq ?_
  refine sblk ?_
  refine sloopE 0 (fun t => t) (fun (s27 : Int) => [(0, str x0), (1, i64 x1), (4, i64 (0 : Int)), (5, i64 s27)]) (fun (s27 : Int) => []) (fun (t25 : Int) => [(4, i64 (0 : Int)), (5, i64 t25)]) (fun (t25 : Int) => []) (entI ⟨rfl, rfl, rfl, rfl, trivial⟩ eqm0) ?_ ?_
  · intro hj26 s27
    refine sseq ?_
    refine sjq (fun (s34 : Bool) => [(0, str x0), (1, i64 x1), (4, i64 (0 : Int)), (5, i64 s27), (16, bl s34)]) (fun (s34 : Bool) => []) ?_ ?_
    · intro j32 hj33
      refine sreg ?_
      refine s1 (mv rfl rfl) ?_
      refine s1 (mv rfl rfl) ?_
      refine s1 (lenS Tryz.underlying9 rfl rfl) ?_
      refine s1 (ltI rfl rfl rfl) ?_
      refine s1 (mv rfl rfl) ?_
      refine sifd 10 rfl ?_ ?_
      · refine sg 10 rfl rfl (mv rfl rfl) ?_
        refine sg 10 rfl rfl (mv rfl rfl) ?_
        refine sg 10 rfl rfl (mv rfl rfl) ?_
        refine bd fun y35 h36 => ?_
        refine sg 10 rfl rfl (ixS Tryz.underlying9 h36 rfl rfl rfl) ?_
        refine bd fun r37 h38 => ?_
        refine sg 10 rfl rfl (call0 (c_lex_goes _ h38) ⟨⟨_, rfl, rn_id if_i64⟩, ⟨_, rfl, rn_id if_u8⟩, trivial⟩ (if_bl) rfl) ?_
        refine s1 (pickT rfl rfl rfl) ?_
        refine snil ?_
        refine pnm ?_
        exact sj (hj33 _) (entI ⟨rfl, rfl, rfl, rfl, rfl, trivial⟩ eqm0)
      · refine spB 10 rfl rfl rfl ?_
        refine spB 10 rfl rfl rfl ?_
        refine spB 10 rfl rfl rfl ?_
        refine spB 10 rfl rfl rfl ?_
        refine spB 10 rfl rfl rfl ?_
        refine s1 (pickF rfl rfl kB) ?_
        refine snil ?_
        refine pnm ?_
        exact sj (hj33 _) (entI ⟨rfl, rfl, rfl, rfl, rfl, trivial⟩ eqm0)
    · intro s34
      refine scond rfl ?_ ?_
      · refine sskip ?_
        refine pnm ?_
        refine sblk ?_
        refine sreg ?_
        refine s1 (mv rfl rfl) ?_
        refine s1 (addI rfl rfl (kI (x := 1) rfl)) ?_
        refine s1 (asg rfl rfl) ?_
        refine snil ?_
        refine pbn ?_
        exact sgo (entI ⟨rfl, rfl, rfl, rfl, trivial⟩ eqm0)
      · refine sexit ?_
        refine ptx ?_
        exact sout (fun h => by cases h) (sj (hj26 _) (entI ⟨rfl, rfl, trivial⟩ eqm0))
  · intro t25
    refine sx ?_
    refine pnm ?_
    refine sseq ?_
    refine sreg ?_
    refine s1 (mv rfl rfl) ?_
    refine s1 (asg rfl rfl) ?_
    refine snil ?_
    refine pnm ?_
    refine sret ?_
    exact ret [] [.tmp 4] [_] [_] .ret hγ (.inl rfl) rfl ⟨rfl, trivial⟩ rfl trivial trivial trivial (rns_cons (rn_id if_i64) (rns_nil)) rfl
theorem c_lex_most {x0 : Int} : ∀ r, m_lex_most x0 = some r → FnOk Tryz.prog 67 [i64 x0] [] (i64 r) [] := by
  unfold m_lex_most
  refine fn_of_sq (res := fun (r : Int) => i64 r) (mo := fun (r : Int) => []) Tryz.func67 rfl rfl (by kernel_rfl) rfl ?_
  intro w S0 γ hγ
  refine sseq ?_
  refine sreg ?_
  refine s1 (asg rfl (kI (x := 0) rfl)) ?_
  refine snil ?_
  refine pnm ?_
  refine sseq ?_
  refine sseq ?_
  refine sreg ?_
  refine s1 (mv rfl rfl) ?_
  refine snil ?_
  refine pnm ?_
  refine sblk ?_
  refine sseq ?_
  refine sreg ?_
  refine s1 (eqI rfl rfl (kI (x := 1) rfl)) ?_
  refine s1 (asg rfl rfl) ?_
  refine snil ?_
  refine pnm ?_
  refine scond rfl ?_ ?_
  · refine sseq ?_
    refine sreg ?_
    refine s1 (asg rfl (kI (x := 60) rfl)) ?_
    refine snil ?_
    refine pnm ?_
    refine sret ?_
    refine pbl ?_
    refine pth ?_
    exact ret [] [.tmp 2] [_] [_] .ret hγ (.inl rfl) rfl ⟨rfl, trivial⟩ rfl trivial trivial trivial (rns_cons (rn_id if_i64) (rns_nil)) rfl
  · refine sseq ?_
    refine sreg ?_
    refine s1 (eqI rfl rfl (kI (x := 2) rfl)) ?_
    refine s1 (asg rfl rfl) ?_
    refine snil ?_
    refine pnm ?_
    refine scond rfl ?_ ?_
    · refine sseq ?_
      refine sreg ?_
      refine s1 (asg rfl (kI (x := 12) rfl)) ?_
      refine snil ?_
      refine pnm ?_
      refine sret ?_
      refine pbl ?_
      refine pth ?_
      exact ret [] [.tmp 2] [_] [_] .ret hγ (.inl rfl) rfl ⟨rfl, trivial⟩ rfl trivial trivial trivial (rns_cons (rn_id if_i64) (rns_nil)) rfl
    · refine sskip ?_
      refine pbn ?_
      refine pnm ?_
      refine sseq ?_
      refine sreg ?_
      refine s1 (asg rfl (kI (x := 1) rfl)) ?_
      refine snil ?_
      refine pnm ?_
      refine sret ?_
      exact ret [] [.tmp 2] [_] [_] .ret hγ (.inl rfl) rfl ⟨rfl, trivial⟩ rfl trivial trivial trivial (rns_cons (rn_id if_i64) (rns_nil)) rfl
theorem c_lex_Right {n : Nat} {x0 : M_lex_Word} : ∀ r, m_lex_Right n x0 = some r → FnOk Tryz.prog 46 [L_lex_Word x0] [] (bl r) [] := by
  unfold m_lex_Right
  refine fn_of_sq (res := fun (r : Bool) => bl r) (mo := fun (r : Bool) => []) Tryz.func46 rfl rfl (by kernel_rfl) rfl ?_
  intro w S0 γ hγ
  refine sseq ?_
  refine sreg ?_
  refine so (box (y := 100) (by exact rfl) rfl rfl rfl) ?_
  refine s1 (asg rfl kB) ?_
  refine snil ?_
  refine pnm ?_
  refine sseq ?_
  refine sjq (fun (s9 : Bool) => [(1, .own 100), (2, bl false), (19, bl s9)]) (fun (s9 : Bool) => [(100, .bx 96 (L_lex_Word x0))]) ?_ ?_
  · intro j7 hj8
    refine sif (fun hb10 => ?_) (fun hb10 => ?_)
    · refine sdraw [⟨[1], [100], [(3, .ptr 100 1)], []⟩, ⟨[3], [100], [(4, str x0.Text)], []⟩, ⟨[4], [], [(5, bl (decide (x0.Text = ([] : List UInt8))))], []⟩, ⟨[5], [], [(6, bl true)], []⟩, ⟨[6], [], [(7, .tup [])], []⟩, ⟨[6], [], [(8, .tup [])], []⟩, ⟨[6], [], [(9, .tup [])], []⟩, ⟨[6], [], [(10, bl true)], []⟩, ⟨[10], [], [(11, bl true)], []⟩, ⟨[11], [], [(12, .tup [])], []⟩, ⟨[11], [], [(13, .tup [])], []⟩, ⟨[11], [], [(14, .tup [])], []⟩, ⟨[11], [], [(15, .tup [])], []⟩, ⟨[11], [], [(16, .tup [])], []⟩, ⟨[11], [], [(17, .tup [])], []⟩, ⟨[11], [], [(18, .tup [])], []⟩, ⟨[11], [], [(19, bl true)], []⟩] fol (by kernel_rfl) ⟨fun st mm ⟨a1, _⟩ ⟨g100, _⟩ => og (faO (g100.trans rfl) fd_96_1 rfl (a1.trans rfl)), fun st mm ⟨a3, _⟩ ⟨g100, _⟩ => og (ldB [1] (g100.trans rfl) (by exact rfl) sh_9 (by exact rfl) (by exact rfl) rfl (a3.trans rfl) (.inl rfl)), fun st mm ⟨a4, _⟩ _ => og (eqS rfl (a4.trans rfl) (kS (s := []) rfl)), fun st mm ⟨a5, _⟩ _ => og (okb hb10 (mv rfl (a5.trans rfl))), fun st mm ⟨a6, _⟩ _ => ogB 6 rfl (a6.trans rfl) rfl, fun st mm ⟨a6, _⟩ _ => ogB 6 rfl (a6.trans rfl) rfl, fun st mm ⟨a6, _⟩ _ => ogB 6 rfl (a6.trans rfl) rfl, fun st mm ⟨a6, _⟩ _ => og (pickT rfl (a6.trans rfl) kB), fun st mm ⟨a10, _⟩ _ => og (mv rfl (a10.trans rfl)), fun st mm ⟨a11, _⟩ _ => ogB 11 rfl (a11.trans rfl) rfl, fun st mm ⟨a11, _⟩ _ => ogB 11 rfl (a11.trans rfl) rfl, fun st mm ⟨a11, _⟩ _ => ogB 11 rfl (a11.trans rfl) rfl, fun st mm ⟨a11, _⟩ _ => ogB 11 rfl (a11.trans rfl) rfl, fun st mm ⟨a11, _⟩ _ => ogB 11 rfl (a11.trans rfl) rfl, fun st mm ⟨a11, _⟩ _ => ogB 11 rfl (a11.trans rfl) rfl, fun st mm ⟨a11, _⟩ _ => ogB 11 rfl (a11.trans rfl) rfl, fun st mm ⟨a11, _⟩ _ => og (pickT rfl (a11.trans rfl) kB), trivial⟩ ?_
      refine pnm ?_
      exact sj (hj8 _) (entR [(100, 100)] rfl (keepS hγ trivial) ⟨⟨_, rfl⟩, trivial⟩ ⟨⟨_, _, rfl, rfl, rci (rc_bx (rn_id if_L_lex_Word))⟩, trivial⟩ ⟨⟨_, rfl, rn_own rfl⟩, ⟨_, rfl, rn_id if_bl⟩, ⟨_, rfl, rn_id if_bl⟩, trivial⟩)
    · refine sif (fun hb11 => ?_) (fun hb11 => ?_)
      · refine sdraw [⟨[1], [100], [(3, .ptr 100 1)], []⟩, ⟨[3], [100], [(4, str x0.Text)], []⟩, ⟨[4], [], [(5, bl (decide (x0.Text = ([] : List UInt8))))], []⟩, ⟨[5], [], [(6, bl false)], []⟩, ⟨[6, 1], [100], [(7, .ptr 100 0)], []⟩, ⟨[6, 7], [100], [(8, i64 x0.Kind)], []⟩, ⟨[6, 8], [], [(9, bl (decide (x0.Kind = (0 : Int))))], []⟩, ⟨[6, 9], [], [(10, bl (decide (x0.Kind = (0 : Int))))], []⟩, ⟨[10], [], [(11, bl true)], []⟩, ⟨[11], [], [(12, .tup [])], []⟩, ⟨[11], [], [(13, .tup [])], []⟩, ⟨[11], [], [(14, .tup [])], []⟩, ⟨[11], [], [(15, .tup [])], []⟩, ⟨[11], [], [(16, .tup [])], []⟩, ⟨[11], [], [(17, .tup [])], []⟩, ⟨[11], [], [(18, .tup [])], []⟩, ⟨[11], [], [(19, bl true)], []⟩] fol (by kernel_rfl) ⟨fun st mm ⟨a1, _⟩ ⟨g100, _⟩ => og (faO (g100.trans rfl) fd_96_1 rfl (a1.trans rfl)), fun st mm ⟨a3, _⟩ ⟨g100, _⟩ => og (ldB [1] (g100.trans rfl) (by exact rfl) sh_9 (by exact rfl) (by exact rfl) rfl (a3.trans rfl) (.inl rfl)), fun st mm ⟨a4, _⟩ _ => og (eqS rfl (a4.trans rfl) (kS (s := []) rfl)), fun st mm ⟨a5, _⟩ _ => og (okb hb10 (mv rfl (a5.trans rfl))), fun st mm ⟨a6, a1, _⟩ ⟨g100, _⟩ => ogG 6 rfl (a6.trans rfl) (faO (g100.trans rfl) fd_96_0 rfl (a1.trans rfl)), fun st mm ⟨a6, a7, _⟩ ⟨g100, _⟩ => ogG 6 rfl (a6.trans rfl) (ldB [0] (g100.trans rfl) (by exact rfl) sh_3 (by exact rfl) (by exact rfl) rfl (a7.trans rfl) (.inl rfl)), fun st mm ⟨a6, a8, _⟩ _ => ogG 6 rfl (a6.trans rfl) (eqI rfl (a8.trans rfl) (kI (x := 0) rfl)), fun st mm ⟨a6, a9, _⟩ _ => og (pickF rfl (a6.trans rfl) (a9.trans rfl)), fun st mm ⟨a10, _⟩ _ => og (okb hb11 (mv rfl (a10.trans rfl))), fun st mm ⟨a11, _⟩ _ => ogB 11 rfl (a11.trans rfl) rfl, fun st mm ⟨a11, _⟩ _ => ogB 11 rfl (a11.trans rfl) rfl, fun st mm ⟨a11, _⟩ _ => ogB 11 rfl (a11.trans rfl) rfl, fun st mm ⟨a11, _⟩ _ => ogB 11 rfl (a11.trans rfl) rfl, fun st mm ⟨a11, _⟩ _ => ogB 11 rfl (a11.trans rfl) rfl, fun st mm ⟨a11, _⟩ _ => ogB 11 rfl (a11.trans rfl) rfl, fun st mm ⟨a11, _⟩ _ => ogB 11 rfl (a11.trans rfl) rfl, fun st mm ⟨a11, _⟩ _ => og (pickT rfl (a11.trans rfl) kB), trivial⟩ ?_
        refine pnm ?_
        exact sj (hj8 _) (entR [(100, 100)] rfl (keepS hγ trivial) ⟨⟨_, rfl⟩, trivial⟩ ⟨⟨_, _, rfl, rfl, rci (rc_bx (rn_id if_L_lex_Word))⟩, trivial⟩ ⟨⟨_, rfl, rn_own rfl⟩, ⟨_, rfl, rn_id if_bl⟩, ⟨_, rfl, rn_id if_bl⟩, trivial⟩)
      · refine bd fun y12 h13 => ?_
        refine bd fun r14 h15 => ?_
        refine sdraw [⟨[1], [100], [(3, .ptr 100 1)], []⟩, ⟨[3], [100], [(4, str x0.Text)], []⟩, ⟨[4], [], [(5, bl (decide (x0.Text = ([] : List UInt8))))], []⟩, ⟨[5], [], [(6, bl false)], []⟩, ⟨[6, 1], [100], [(7, .ptr 100 0)], []⟩, ⟨[6, 7], [100], [(8, i64 x0.Kind)], []⟩, ⟨[6, 8], [], [(9, bl (decide (x0.Kind = (0 : Int))))], []⟩, ⟨[6, 9], [], [(10, bl (decide (x0.Kind = (0 : Int))))], []⟩, ⟨[10], [], [(11, bl false)], []⟩, ⟨[11, 1], [100], [(12, .ptr 100 1)], []⟩, ⟨[11, 12], [100], [(13, str x0.Text)], []⟩, ⟨[11, 13], [], [(14, u8 y12)], []⟩, ⟨[11, 14], [], [(15, i64 r14)], []⟩, ⟨[11, 1], [100], [(16, .ptr 100 0)], []⟩, ⟨[11, 16], [100], [(17, i64 x0.Kind)], []⟩, ⟨[11, 15, 17], [], [(18, bl (!decide (r14 = x0.Kind)))], []⟩, ⟨[11, 18], [], [(19, bl (!decide (r14 = x0.Kind)))], []⟩] fol (by kernel_rfl) ⟨fun st mm ⟨a1, _⟩ ⟨g100, _⟩ => og (faO (g100.trans rfl) fd_96_1 rfl (a1.trans rfl)), fun st mm ⟨a3, _⟩ ⟨g100, _⟩ => og (ldB [1] (g100.trans rfl) (by exact rfl) sh_9 (by exact rfl) (by exact rfl) rfl (a3.trans rfl) (.inl rfl)), fun st mm ⟨a4, _⟩ _ => og (eqS rfl (a4.trans rfl) (kS (s := []) rfl)), fun st mm ⟨a5, _⟩ _ => og (okb hb10 (mv rfl (a5.trans rfl))), fun st mm ⟨a6, a1, _⟩ ⟨g100, _⟩ => ogG 6 rfl (a6.trans rfl) (faO (g100.trans rfl) fd_96_0 rfl (a1.trans rfl)), fun st mm ⟨a6, a7, _⟩ ⟨g100, _⟩ => ogG 6 rfl (a6.trans rfl) (ldB [0] (g100.trans rfl) (by exact rfl) sh_3 (by exact rfl) (by exact rfl) rfl (a7.trans rfl) (.inl rfl)), fun st mm ⟨a6, a8, _⟩ _ => ogG 6 rfl (a6.trans rfl) (eqI rfl (a8.trans rfl) (kI (x := 0) rfl)), fun st mm ⟨a6, a9, _⟩ _ => og (pickF rfl (a6.trans rfl) (a9.trans rfl)), fun st mm ⟨a10, _⟩ _ => og (okb hb11 (mv rfl (a10.trans rfl))), fun st mm ⟨a11, a1, _⟩ ⟨g100, _⟩ => ogG 11 rfl (a11.trans rfl) (faO (g100.trans rfl) fd_96_1 rfl (a1.trans rfl)), fun st mm ⟨a11, a12, _⟩ ⟨g100, _⟩ => ogG 11 rfl (a11.trans rfl) (ldB [1] (g100.trans rfl) (by exact rfl) sh_9 (by exact rfl) (by exact rfl) rfl (a12.trans rfl) (.inl rfl)), fun st mm ⟨a11, a13, _⟩ _ => ogG 11 rfl (a11.trans rfl) (ixS Tryz.underlying9 h13 rfl (a13.trans rfl) (kI (x := 0) rfl)), fun st mm ⟨a11, a14, _⟩ _ => ogG 11 rfl (a11.trans rfl) (call0 (c_lex_kind _ h15) ⟨⟨_, (a14.trans rfl), rn_id if_u8⟩, trivial⟩ (if_i64) rfl), fun st mm ⟨a11, a1, _⟩ ⟨g100, _⟩ => ogG 11 rfl (a11.trans rfl) (faO (g100.trans rfl) fd_96_0 rfl (a1.trans rfl)), fun st mm ⟨a11, a16, _⟩ ⟨g100, _⟩ => ogG 11 rfl (a11.trans rfl) (ldB [0] (g100.trans rfl) (by exact rfl) sh_3 (by exact rfl) (by exact rfl) rfl (a16.trans rfl) (.inl rfl)), fun st mm ⟨a11, a15, a17, _⟩ _ => ogG 11 rfl (a11.trans rfl) (neI rfl (a15.trans rfl) (a17.trans rfl)), fun st mm ⟨a11, a18, _⟩ _ => og (pickF rfl (a11.trans rfl) (a18.trans rfl)), trivial⟩ ?_
        refine pnm ?_
        exact sj (hj8 _) (entR [(100, 100)] rfl (keepS hγ trivial) ⟨⟨_, rfl⟩, trivial⟩ ⟨⟨_, _, rfl, rfl, rci (rc_bx (rn_id if_L_lex_Word))⟩, trivial⟩ ⟨⟨_, rfl, rn_own rfl⟩, ⟨_, rfl, rn_id if_bl⟩, ⟨_, rfl, rn_id if_bl⟩, trivial⟩)
  · intro s9
    refine scond rfl ?_ ?_
    · refine sseq ?_
      refine sreg ?_
      refine s1 (asg rfl kB) ?_
      refine snil ?_
      refine pnm ?_
      refine sret ?_
      refine pth ?_
      exact ret [] [.tmp 2] [_] [_] .ret hγ (.inl rfl) rfl ⟨rfl, trivial⟩ rfl trivial trivial trivial (rns_cons (rn_id if_bl) (rns_nil)) rfl
    · refine sskip ?_
      refine pnm ?_
      refine sjq (fun (s23 : Bool) => [(2, bl s23)]) (fun (s23 : Bool) => []) ?_ ?_
      · intro j21 hj22
        refine bd fun r24 h25 => ?_
        refine sif (fun hb26 => ?_) (fun hb26 => ?_)
        · refine bd fun r27 h28 => ?_
          refine sdraw [⟨[1], [100], [(20, .ptr 100 1)], []⟩, ⟨[20], [100], [(21, str x0.Text)], []⟩, ⟨[1], [100], [(22, .ptr 100 0)], []⟩, ⟨[22], [100], [(23, i64 x0.Kind)], []⟩, ⟨[21, 23], [], [(24, i64 r24)], []⟩, ⟨[1], [100], [(25, .ptr 100 1)], []⟩, ⟨[25], [100], [(26, str x0.Text)], []⟩, ⟨[26], [], [(27, i64 (x0.Text.length : Int))], []⟩, ⟨[24, 27], [], [(28, bl (decide (r24 = (x0.Text.length : Int))))], []⟩, ⟨[28], [], [(29, bl true)], []⟩, ⟨[29, 1], [100], [(30, .ptr 100 1)], []⟩, ⟨[29, 30], [100], [(31, str x0.Text)], []⟩, ⟨[29, 31], [], [(32, i64 (x0.Text.length : Int))], []⟩, ⟨[29, 1], [100], [(33, .ptr 100 0)], []⟩, ⟨[29, 33], [100], [(34, i64 x0.Kind)], []⟩, ⟨[29, 34], [], [(35, i64 r27)], []⟩, ⟨[29, 32, 35], [], [(36, bl (decide ((x0.Text.length : Int) ≤ r27)))], []⟩, ⟨[29, 36], [], [(37, bl (decide ((x0.Text.length : Int) ≤ r27)))], []⟩, ⟨[37], [], [(2, bl (decide ((x0.Text.length : Int) ≤ r27)))], []⟩] fol (by kernel_rfl) ⟨fun st mm ⟨a1, _⟩ ⟨g100, _⟩ => og (faO (g100.trans rfl) fd_96_1 rfl (a1.trans rfl)), fun st mm ⟨a20, _⟩ ⟨g100, _⟩ => og (ldB [1] (g100.trans rfl) (by exact rfl) sh_9 (by exact rfl) (by exact rfl) rfl (a20.trans rfl) (.inl rfl)), fun st mm ⟨a1, _⟩ ⟨g100, _⟩ => og (faO (g100.trans rfl) fd_96_0 rfl (a1.trans rfl)), fun st mm ⟨a22, _⟩ ⟨g100, _⟩ => og (ldB [0] (g100.trans rfl) (by exact rfl) sh_3 (by exact rfl) (by exact rfl) rfl (a22.trans rfl) (.inl rfl)), fun st mm ⟨a21, a23, _⟩ _ => og (call0 (c_lex_first _ h25) ⟨⟨_, (a21.trans rfl), rn_id if_str⟩, ⟨_, (a23.trans rfl), rn_id if_i64⟩, trivial⟩ (if_i64) rfl), fun st mm ⟨a1, _⟩ ⟨g100, _⟩ => og (faO (g100.trans rfl) fd_96_1 rfl (a1.trans rfl)), fun st mm ⟨a25, _⟩ ⟨g100, _⟩ => og (ldB [1] (g100.trans rfl) (by exact rfl) sh_9 (by exact rfl) (by exact rfl) rfl (a25.trans rfl) (.inl rfl)), fun st mm ⟨a26, _⟩ _ => og (lenS Tryz.underlying9 rfl (a26.trans rfl)), fun st mm ⟨a24, a27, _⟩ _ => og (eqI rfl (a24.trans rfl) (a27.trans rfl)), fun st mm ⟨a28, _⟩ _ => og (okb hb26 (mv rfl (a28.trans rfl))), fun st mm ⟨a29, a1, _⟩ ⟨g100, _⟩ => ogG 29 rfl (a29.trans rfl) (faO (g100.trans rfl) fd_96_1 rfl (a1.trans rfl)), fun st mm ⟨a29, a30, _⟩ ⟨g100, _⟩ => ogG 29 rfl (a29.trans rfl) (ldB [1] (g100.trans rfl) (by exact rfl) sh_9 (by exact rfl) (by exact rfl) rfl (a30.trans rfl) (.inl rfl)), fun st mm ⟨a29, a31, _⟩ _ => ogG 29 rfl (a29.trans rfl) (lenS Tryz.underlying9 rfl (a31.trans rfl)), fun st mm ⟨a29, a1, _⟩ ⟨g100, _⟩ => ogG 29 rfl (a29.trans rfl) (faO (g100.trans rfl) fd_96_0 rfl (a1.trans rfl)), fun st mm ⟨a29, a33, _⟩ ⟨g100, _⟩ => ogG 29 rfl (a29.trans rfl) (ldB [0] (g100.trans rfl) (by exact rfl) sh_3 (by exact rfl) (by exact rfl) rfl (a33.trans rfl) (.inl rfl)), fun st mm ⟨a29, a34, _⟩ _ => ogG 29 rfl (a29.trans rfl) (call0 (c_lex_most _ h28) ⟨⟨_, (a34.trans rfl), rn_id if_i64⟩, trivial⟩ (if_i64) rfl), fun st mm ⟨a29, a32, a35, _⟩ _ => ogG 29 rfl (a29.trans rfl) (leI rfl (a32.trans rfl) (a35.trans rfl)), fun st mm ⟨a29, a36, _⟩ _ => og (pickT rfl (a29.trans rfl) (a36.trans rfl)), fun st mm ⟨a37, _⟩ _ => og (asg rfl (a37.trans rfl)), trivial⟩ ?_
          refine pnm ?_
          exact sj (hj22 _) (entR [] rfl (keepS hγ trivial) (by exact trivial) (by exact trivial) ⟨⟨_, rfl, rn_id if_bl⟩, trivial⟩)
        · refine sdraw [⟨[1], [100], [(20, .ptr 100 1)], []⟩, ⟨[20], [100], [(21, str x0.Text)], []⟩, ⟨[1], [100], [(22, .ptr 100 0)], []⟩, ⟨[22], [100], [(23, i64 x0.Kind)], []⟩, ⟨[21, 23], [], [(24, i64 r24)], []⟩, ⟨[1], [100], [(25, .ptr 100 1)], []⟩, ⟨[25], [100], [(26, str x0.Text)], []⟩, ⟨[26], [], [(27, i64 (x0.Text.length : Int))], []⟩, ⟨[24, 27], [], [(28, bl (decide (r24 = (x0.Text.length : Int))))], []⟩, ⟨[28], [], [(29, bl false)], []⟩, ⟨[29], [], [(30, .tup [])], []⟩, ⟨[29], [], [(31, .tup [])], []⟩, ⟨[29], [], [(32, .tup [])], []⟩, ⟨[29], [], [(33, .tup [])], []⟩, ⟨[29], [], [(34, .tup [])], []⟩, ⟨[29], [], [(35, .tup [])], []⟩, ⟨[29], [], [(36, .tup [])], []⟩, ⟨[29], [], [(37, bl false)], []⟩, ⟨[37], [], [(2, bl false)], []⟩] fol (by kernel_rfl) ⟨fun st mm ⟨a1, _⟩ ⟨g100, _⟩ => og (faO (g100.trans rfl) fd_96_1 rfl (a1.trans rfl)), fun st mm ⟨a20, _⟩ ⟨g100, _⟩ => og (ldB [1] (g100.trans rfl) (by exact rfl) sh_9 (by exact rfl) (by exact rfl) rfl (a20.trans rfl) (.inl rfl)), fun st mm ⟨a1, _⟩ ⟨g100, _⟩ => og (faO (g100.trans rfl) fd_96_0 rfl (a1.trans rfl)), fun st mm ⟨a22, _⟩ ⟨g100, _⟩ => og (ldB [0] (g100.trans rfl) (by exact rfl) sh_3 (by exact rfl) (by exact rfl) rfl (a22.trans rfl) (.inl rfl)), fun st mm ⟨a21, a23, _⟩ _ => og (call0 (c_lex_first _ h25) ⟨⟨_, (a21.trans rfl), rn_id if_str⟩, ⟨_, (a23.trans rfl), rn_id if_i64⟩, trivial⟩ (if_i64) rfl), fun st mm ⟨a1, _⟩ ⟨g100, _⟩ => og (faO (g100.trans rfl) fd_96_1 rfl (a1.trans rfl)), fun st mm ⟨a25, _⟩ ⟨g100, _⟩ => og (ldB [1] (g100.trans rfl) (by exact rfl) sh_9 (by exact rfl) (by exact rfl) rfl (a25.trans rfl) (.inl rfl)), fun st mm ⟨a26, _⟩ _ => og (lenS Tryz.underlying9 rfl (a26.trans rfl)), fun st mm ⟨a24, a27, _⟩ _ => og (eqI rfl (a24.trans rfl) (a27.trans rfl)), fun st mm ⟨a28, _⟩ _ => og (okb hb26 (mv rfl (a28.trans rfl))), fun st mm ⟨a29, _⟩ _ => ogB 29 rfl (a29.trans rfl) rfl, fun st mm ⟨a29, _⟩ _ => ogB 29 rfl (a29.trans rfl) rfl, fun st mm ⟨a29, _⟩ _ => ogB 29 rfl (a29.trans rfl) rfl, fun st mm ⟨a29, _⟩ _ => ogB 29 rfl (a29.trans rfl) rfl, fun st mm ⟨a29, _⟩ _ => ogB 29 rfl (a29.trans rfl) rfl, fun st mm ⟨a29, _⟩ _ => ogB 29 rfl (a29.trans rfl) rfl, fun st mm ⟨a29, _⟩ _ => ogB 29 rfl (a29.trans rfl) rfl, fun st mm ⟨a29, _⟩ _ => og (pickF rfl (a29.trans rfl) kB), fun st mm ⟨a37, _⟩ _ => og (asg rfl (a37.trans rfl)), trivial⟩ ?_
          refine pnm ?_
          exact sj (hj22 _) (entR [] rfl (keepS hγ trivial) (by exact trivial) (by exact trivial) ⟨⟨_, rfl, rn_id if_bl⟩, trivial⟩)
      · intro s23
        refine sret ?_
        exact ret [] [.tmp 2] [_] [_] .ret hγ (.inl rfl) rfl ⟨rfl, trivial⟩ rfl trivial trivial trivial (rns_cons (rn_id if_bl) (rns_nil)) rfl
theorem c_wire_named {n : Nat} {x0 : (List UInt8)} : ∀ r, m_wire_named n x0 = some r → FnOk Tryz.prog 30 [str x0] [] (bl r) [] := by
  unfold m_wire_named
  refine fn_of_sq (res := fun (r : Bool) => bl r) (mo := fun (r : Bool) => []) Tryz.func30 rfl rfl (by kernel_rfl) rfl ?_
  intro w S0 γ hγ
  refine sseq ?_
  refine sreg ?_
  refine s1 (asg rfl kB) ?_
  refine snil ?_
  refine pnm ?_
  refine sseq ?_
  refine sreg ?_
  refine s1 (mv rfl rfl) ?_
  refine s1 (bld (l := [i64 (2 : Int), str x0, i64 0]) pl_96 ti_96 zr_lex_Word ⟨_, _, _, (kI (x := 2) rfl), rfl, rfl, rfl, (szk (k := 1) rfl rfl), ⟨_, _, _, rfl, rfl, rfl, rfl, (szk (k := 1) rfl rfl), rfl⟩⟩ rfl) ?_
  refine bd fun r1 h2 => ?_
  refine s1 (call0 (c_lex_Right _ h2) ⟨⟨_, rfl, rn_id if_L_lex_Word⟩, trivial⟩ (if_bl) rfl) ?_
  refine s1 (asg rfl rfl) ?_
  refine snil ?_
  refine pnm ?_
  refine sret ?_
  exact ret [] [.tmp 2] [_] [_] .ret hγ (.inl rfl) rfl ⟨rfl, trivial⟩ rfl trivial trivial trivial (rns_cons (rn_id if_bl) (rns_nil)) rfl
theorem c_wire_may {n : Nat} {x0 : (List M_wire_Piece)} : ∀ r, m_wire_may n x0 = some r → FnOk Tryz.prog 17 [sli 2 (List.map L_wire_Piece x0)] [] (bl r) [] := by
  unfold m_wire_may
  refine fn_of_sq (res := fun (r : Bool) => bl r) (mo := fun (r : Bool) => []) Tryz.func17 rfl rfl (by kernel_rfl) rfl ?_
  intro w S0 γ hγ
  refine sseq ?_
  refine sreg ?_
  refine s1 (asg rfl kB) ?_
  refine snil ?_
  refine pnm ?_
  refine sseq ?_
  refine sseq ?_
  refine sreg ?_
  refine s1 (mv rfl rfl) ?_
  refine s1 (lenL (f := L_wire_Piece) Tryz.underlying27 rfl rfl) ?_
  refine s1 (mv rfl (kI (x := 0) rfl)) ?_
  refine snil ?_
  refine pnm ?_
  refine sblk ?_
  refine srangeN (fun (s25 : Unit) => [(0, sli 2 (List.map L_wire_Piece x0)), (2, bl false), (7, sli 2 (List.map L_wire_Piece x0))]) (fun (s25 : Unit) => []) rfl (fun _ => rfl) (entI ⟨rfl, rfl, rfl, rfl, rfl, trivial⟩ eqm0) ?_ ?_
  · intro i26 x27 s25 hx28
    refine sblk ?_
    refine sseq ?_
    refine sreg ?_
    refine s1 (mv rfl rfl) ?_
    refine s1 (ixR (f := L_wire_Piece) Tryz.underlying27 ti_45 (getI_nat hx28) rfl rfl rfl) ?_
    refine s1 (ldR sh_45 (by exact rfl) (by exact rfl) rfl rfl) ?_
    refine so (al (y := 100) (ly := L_wire_Piece (⟨[], []⟩ : M_wire_Piece)) ti_45 zr_wire_Piece rfl rfl) ?_
    refine s1 (asg rfl rfl) ?_
    refine so (stB2 (ly2 := L_wire_Piece x27) [] (by exact rfl) rfl (by exact rfl) sh_45 (by exact rfl) (by exact rfl) (by exact rfl) rfl (.inr ⟨rfl, rfl, _, _, rfl⟩) rfl) ?_
    refine snil ?_
    refine pnm ?_
    refine sseq ?_
    refine sjq (fun (s33 : Bool) => [(0, sli 2 (List.map L_wire_Piece x0)), (2, bl false), (3, i64 (i26 : Int)), (4, .own 100), (7, sli 2 (List.map L_wire_Piece x0)), (8, i64 (x0.length : Int)), (9, i64 (i26 : Int)), (23, bl s33)]) (fun (s33 : Bool) => [(100, .bx 45 (L_wire_Piece x27))]) ?_ ?_
    · intro j31 hj32
      refine sreg ?_
      refine s1 (faO rfl fd_45_0 rfl rfl) ?_
      refine s1 (ldB [0] rfl (by exact rfl) sh_9 (by exact rfl) (by exact rfl) rfl rfl (.inl rfl)) ?_
      refine bd fun r34 h35 => ?_
      refine s1 (call0 (c_wire_named _ h35) ⟨⟨_, rfl, rn_id if_str⟩, trivial⟩ (if_bl) rfl) ?_
      refine s1 (notB rfl rfl) ?_
      refine s1 (mv rfl rfl) ?_
      refine sifd 18 rfl ?_ ?_
      · refine spB 18 rfl rfl rfl ?_
        refine spB 18 rfl rfl rfl ?_
        refine spB 18 rfl rfl rfl ?_
        refine spB 18 rfl rfl rfl ?_
        refine s1 (pickT rfl rfl kB) ?_
        refine snil ?_
        refine pnm ?_
        exact sj (hj32 _) (entR [(100, 100)] rfl (keepS hγ trivial) ⟨⟨_, rfl⟩, trivial⟩ ⟨⟨_, _, rfl, rfl, rci (rc_bx (rn_id if_L_wire_Piece))⟩, trivial⟩ ⟨⟨_, rfl, rn_id if_sli⟩, ⟨_, rfl, rn_id if_bl⟩, ⟨_, rfl, rn_id if_i64⟩, ⟨_, rfl, rn_own rfl⟩, ⟨_, rfl, rn_id if_sli⟩, ⟨_, rfl, rn_id if_i64⟩, ⟨_, rfl, rn_id if_i64⟩, ⟨_, rfl, rn_id if_bl⟩, trivial⟩)
      · refine sg 18 rfl rfl (faO rfl fd_45_1 rfl rfl) ?_
        refine sg 18 rfl rfl (ldB [1] rfl (by exact rfl) sh_9 (by exact rfl) (by exact rfl) rfl rfl (.inl rfl)) ?_
        refine sg 18 rfl rfl (lenS Tryz.underlying9 rfl rfl) ?_
        refine sg 18 rfl rfl (gtI rfl rfl (kI (x := 20000) rfl)) ?_
        refine s1 (pickF rfl rfl rfl) ?_
        refine snil ?_
        refine pnm ?_
        exact sj (hj32 _) (entR [(100, 100)] rfl (keepS hγ trivial) ⟨⟨_, rfl⟩, trivial⟩ ⟨⟨_, _, rfl, rfl, rci (rc_bx (rn_id if_L_wire_Piece))⟩, trivial⟩ ⟨⟨_, rfl, rn_id if_sli⟩, ⟨_, rfl, rn_id if_bl⟩, ⟨_, rfl, rn_id if_i64⟩, ⟨_, rfl, rn_own rfl⟩, ⟨_, rfl, rn_id if_sli⟩, ⟨_, rfl, rn_id if_i64⟩, ⟨_, rfl, rn_id if_i64⟩, ⟨_, rfl, rn_id if_bl⟩, trivial⟩)
    · intro s33
      refine scond rfl ?_ ?_
      · refine sseq ?_
        refine sreg ?_
        refine s1 (asg rfl kB) ?_
        refine snil ?_
        refine pnm ?_
        refine sret ?_
        refine pth ?_
        refine pbl ?_
        refine sout (fun h => by cases h) ?_
        refine pbl ?_
        refine pth ?_
        exact ret [] [.tmp 2] [_] [_] .ret hγ (.inl rfl) rfl ⟨rfl, trivial⟩ rfl trivial trivial trivial (rns_cons (rn_id if_bl) (rns_nil)) rfl
      · refine sskip ?_
        refine pnm ?_
        refine sseq ?_
        refine sreg ?_
        refine s1 (mv rfl rfl) ?_
        refine s1 (mv rfl rfl) ?_
        refine bd fun y36 h37 => ?_
        refine s1 (slR (f := L_wire_Piece) h37 Tryz.underlying27 ti_45 rfl rfl bnd0 (bnd rfl)) ?_
        refine s1 (lenL (f := L_wire_Piece) Tryz.underlying27 rfl rfl) ?_
        refine s1 (mv rfl (kI (x := 0) rfl)) ?_
        refine snil ?_
        refine pnm ?_
        refine sblk ?_
        refine srangeN (fun (s43 : Unit) => [(0, sli 2 (List.map L_wire_Piece x0)), (2, bl false), (4, .own 100), (7, sli 2 (List.map L_wire_Piece x0)), (8, i64 (x0.length : Int)), (9, i64 (i26 : Int)), (26, sli 2 (List.map L_wire_Piece y36))]) (fun (s43 : Unit) => [(100, .bx 45 (L_wire_Piece x27))]) rfl (fun _ => rfl) (entR [(100, 100)] rfl (keepS hγ trivial) ⟨⟨_, rfl⟩, trivial⟩ ⟨⟨_, _, rfl, rfl, rci (rc_bx (rn_id if_L_wire_Piece))⟩, trivial⟩ ⟨⟨_, rfl, rn_id if_i64⟩, ⟨_, rfl, rn_id if_i64⟩, ⟨_, rfl, rn_id if_sli⟩, ⟨_, rfl, rn_id if_bl⟩, ⟨_, rfl, rn_own rfl⟩, ⟨_, rfl, rn_id if_sli⟩, ⟨_, rfl, rn_id if_i64⟩, ⟨_, rfl, rn_id if_i64⟩, ⟨_, rfl, rn_id if_sli⟩, trivial⟩) ?_ ?_
        · intro i44 x45 s43 hx46
          refine sblk ?_
          refine sseq ?_
          refine sreg ?_
          refine s1 (ixR (f := L_wire_Piece) Tryz.underlying27 ti_45 (getI_nat hx46) rfl rfl rfl) ?_
          refine s1 (ldR sh_45 (by exact rfl) (by exact rfl) rfl rfl) ?_
          refine so (al (y := 101) (ly := L_wire_Piece (⟨[], []⟩ : M_wire_Piece)) ti_45 zr_wire_Piece rfl rfl) ?_
          refine so (stB2 (ly2 := L_wire_Piece x45) [] (by exact rfl) rfl (by exact rfl) sh_45 (by exact rfl) (by exact rfl) (by exact rfl) rfl (.inr ⟨rfl, rfl, _, _, rfl⟩) rfl) ?_
          refine snil ?_
          refine pnm ?_
          refine sseq ?_
          refine sreg ?_
          refine s1 (faO rfl fd_45_0 rfl rfl) ?_
          refine s1 (ldB [0] rfl (by exact rfl) sh_9 (by exact rfl) (by exact rfl) rfl rfl (.inl rfl)) ?_
          refine s1 (faO rfl fd_45_0 rfl rfl) ?_
          refine s1 (ldB [0] rfl (by exact rfl) sh_9 (by exact rfl) (by exact rfl) rfl rfl (.inl rfl)) ?_
          refine s1 (eqS rfl rfl rfl) ?_
          refine snil ?_
          refine pnm ?_
          refine scond rfl ?_ ?_
          · refine sseq ?_
            refine sreg ?_
            refine s1 (asg rfl kB) ?_
            refine snil ?_
            refine pnm ?_
            refine sret ?_
            refine pbl ?_
            refine sout (fun h => by cases h) ?_
            refine pbl ?_
            refine pbl ?_
            refine sout (fun h => by cases h) ?_
            refine pbl ?_
            refine pth ?_
            exact ret [] [.tmp 2] [_] [_] .ret hγ (.inl rfl) rfl ⟨rfl, trivial⟩ rfl trivial trivial trivial (rns_cons (rn_id if_bl) (rns_nil)) rfl
          · refine sskip ?_
            refine pbn ?_
            exact sgo (entR [(100, 100)] rfl (keepS hγ trivial) ⟨⟨_, rfl⟩, trivial⟩ ⟨⟨_, _, rfl, rfl, rci (rc_bx (rn_id if_L_wire_Piece))⟩, trivial⟩ ⟨⟨_, rfl, rn_id if_i64⟩, ⟨_, rfl, rn_id if_i64⟩, ⟨_, rfl, rn_id if_sli⟩, ⟨_, rfl, rn_id if_bl⟩, ⟨_, rfl, rn_own rfl⟩, ⟨_, rfl, rn_id if_sli⟩, ⟨_, rfl, rn_id if_i64⟩, ⟨_, rfl, rn_id if_i64⟩, ⟨_, rfl, rn_id if_sli⟩, trivial⟩)
        · intro s47
          refine sx ?_
          refine pbn ?_
          exact sgo (entR [] rfl (keepS hγ trivial) (by exact trivial) (by exact trivial) ⟨⟨_, rfl, rn_id if_i64⟩, ⟨_, rfl, rn_id if_i64⟩, ⟨_, rfl, rn_id if_sli⟩, ⟨_, rfl, rn_id if_bl⟩, ⟨_, rfl, rn_id if_sli⟩, trivial⟩)
  · intro s48
    refine sx ?_
    refine pnm ?_
    refine sseq ?_
    refine sreg ?_
    refine s1 (mv rfl rfl) ?_
    refine s1 (lenL (f := L_wire_Piece) Tryz.underlying27 rfl rfl) ?_
    refine s1 (leI rfl rfl (kI (x := 30) rfl)) ?_
    refine s1 (asg rfl rfl) ?_
    refine snil ?_
    refine pnm ?_
    refine sret ?_
    exact ret [] [.tmp 2] [_] [_] .ret hγ (.inl rfl) rfl ⟨rfl, trivial⟩ rfl trivial trivial trivial (rns_cons (rn_id if_bl) (rns_nil)) rfl
theorem c_wire_Pack {n : Nat} {x0 : (List M_wire_Piece)} : ∀ r, m_wire_Pack n x0 = some r → FnOk Tryz.prog 7 [sli 2 (List.map L_wire_Piece x0)] [] (.tup [str r.1, bl r.2]) [] := by
  unfold m_wire_Pack
  refine fn_of_sq (res := fun (r : (List UInt8) × Bool) => .tup [str r.1, bl r.2]) (mo := fun (r : (List UInt8) × Bool) => []) Tryz.func7 rfl rfl (by kernel_rfl) rfl ?_
  intro w S0 γ hγ
  refine sseq ?_
  refine sreg ?_
  refine s1 (asg rfl (kS (s := []) rfl)) ?_
  refine s1 (asg rfl kB) ?_
  refine snil ?_
  refine pnm ?_
  refine sseq ?_
  refine sseq ?_
  refine sreg ?_
  refine s1 (mv rfl rfl) ?_
  refine bd fun r1 h2 => ?_
  refine s1 (call0 (c_wire_may _ h2) ⟨⟨_, rfl, rn_id if_sli⟩, trivial⟩ (if_bl) rfl) ?_
  refine s1 (notB rfl rfl) ?_
  refine snil ?_
  refine pnm ?_
  refine scond rfl ?_ ?_
  · refine sseq ?_
    refine sreg ?_
    refine s1 (asg rfl (kS (s := []) rfl)) ?_
    refine s1 (asg rfl kB) ?_
    refine snil ?_
    refine pnm ?_
    refine sret ?_
    refine pth ?_
    exact ret [] [.tmp 2, .tmp 3] [_, _] [_, _] .ret hγ (.inl rfl) rfl ⟨rfl, rfl, trivial⟩ rfl trivial trivial trivial (rns_cons (rn_id if_str) (rns_cons (rn_id if_bl) (rns_nil))) rfl
  · refine sskip ?_
    refine pnm ?_
    refine sseq ?_
    refine sreg ?_
    refine so (alOw (y := 100) (ly := .agg [.por 100, .own 101]) [(101, 5, 1)] ti_52 (zo_agg (zos_cons (c1 := [.pointer none]) zo_por (zos_cons (c1 := [.slice none 0 0]) (zo_own rfl) zos_nil))) ⟨rfl, trivial⟩ rfl rfl rfl) ?_
    refine snil ?_
    refine pnm ?_
    refine sseq ?_
    refine sseq ?_
    refine sreg ?_
    refine s1 (mv rfl rfl) ?_
    refine s1 (lenL (f := L_wire_Piece) Tryz.underlying27 rfl rfl) ?_
    refine s1 (mv rfl (kI (x := 0) rfl)) ?_
    refine snil ?_
    refine pnm ?_
    refine sblk ?_
    refine srangeN (fun (s40 : (List UInt8)) => [(2, str ([] : List UInt8)), (3, bl false), (4, .own 100), (10, sli 2 (List.map L_wire_Piece x0))]) (fun (s40 : (List UInt8)) => [(100, .bx 52 (.agg [.por 100, .own 101])), (101, .sl 5 1 (List.map ub s40))]) rfl (fun _ => rfl) (entR [(100, 100), (101, 101)] rfl (keepS hγ trivial) ⟨⟨_, rfl⟩, ⟨_, rfl⟩, trivial⟩ ⟨⟨_, _, rfl, rfl, rci (rc_bx (rn_agg (rns_cons (rn_por rfl) (rns_cons (rn_own rfl) (rns_nil)))))⟩, ⟨_, _, rfl, rfl, rci (rc_sl (ifs_map (f := ub) (fun _ => if_ub) ([] : List UInt8)))⟩, trivial⟩ ⟨⟨_, rfl, rn_id if_i64⟩, ⟨_, rfl, rn_id if_i64⟩, ⟨_, rfl, rn_id if_str⟩, ⟨_, rfl, rn_id if_bl⟩, ⟨_, rfl, rn_own rfl⟩, ⟨_, rfl, rn_id if_sli⟩, trivial⟩) ?_ ?_
    · intro i41 x42 s40 hx43
      refine sblk ?_
      refine sseq ?_
      refine sreg ?_
      refine s1 (ixR (f := L_wire_Piece) Tryz.underlying27 ti_45 (getI_nat hx43) rfl rfl rfl) ?_
      refine s1 (ldR sh_45 (by exact rfl) (by exact rfl) rfl rfl) ?_
      refine so (al (y := 102) (ly := L_wire_Piece (⟨[], []⟩ : M_wire_Piece)) ti_45 zr_wire_Piece rfl rfl) ?_
      refine so (stB2 (ly2 := L_wire_Piece x42) [] (by exact rfl) rfl (by exact rfl) sh_45 (by exact rfl) (by exact rfl) (by exact rfl) rfl (.inr ⟨rfl, rfl, _, _, rfl⟩) rfl) ?_
      refine snil ?_
      refine pnm ?_
      refine bd fun y44 h45 => ?_
      refine bd fun r46 h47 => ?_
      refine bd fun y48 h49 => ?_
      refine bd fun y50 h51 => ?_
      refine bd fun y52 h53 => ?_
      refine bd fun y54 h55 => ?_
      refine bd fun y56 h57 => ?_
      refine sdraw [⟨[6], [102], [(16, .ptr 102 0)], []⟩, ⟨[16], [102], [(17, str x42.Name)], []⟩, ⟨[17], [], [(18, str y44)], []⟩, ⟨[6], [102], [(19, .ptr 102 1)], []⟩, ⟨[19], [102], [(20, str x42.Text)], []⟩, ⟨[20], [], [(21, i64 (x42.Text.length : Int))], []⟩, ⟨[21], [], [(22, str r46)], []⟩, ⟨[18, 22], [], [(23, str y48)], []⟩, ⟨[23], [], [(24, str y50)], []⟩, ⟨[6], [102], [(25, .ptr 102 1)], []⟩, ⟨[25], [102], [(26, str x42.Text)], []⟩, ⟨[24, 26], [], [(27, str y52)], []⟩, ⟨[27], [], [(28, str y54)], []⟩, ⟨[4, 28], [100, 101, 103], [(29, .tup [i64 (y54.length : Int), nilI])], [(103, .sl 5 1 (List.map ub y56)), (100, .bx 52 (.agg [.por 100, .own 103])), (101, .gone)]⟩] fol (by kernel_rfl) ⟨fun st mm ⟨a6, _⟩ ⟨g102, _⟩ => og (faO (g102.trans rfl) fd_45_0 rfl (a6.trans rfl)), fun st mm ⟨a16, _⟩ ⟨g102, _⟩ => og (ldB [0] (g102.trans rfl) (by exact rfl) sh_9 (by exact rfl) (by exact rfl) rfl (a16.trans rfl) (.inl rfl)), fun st mm ⟨a17, _⟩ _ => og (catStr h45 rfl (a17.trans rfl) (kS (s := [61]) rfl)), fun st mm ⟨a6, _⟩ ⟨g102, _⟩ => og (faO (g102.trans rfl) fd_45_1 rfl (a6.trans rfl)), fun st mm ⟨a19, _⟩ ⟨g102, _⟩ => og (ldB [1] (g102.trans rfl) (by exact rfl) sh_9 (by exact rfl) (by exact rfl) rfl (a19.trans rfl) (.inl rfl)), fun st mm ⟨a20, _⟩ _ => og (lenS Tryz.underlying9 rfl (a20.trans rfl)), fun st mm ⟨a21, _⟩ _ => og (call0 (c_strconv_Itoa _ h47) ⟨⟨_, (a21.trans rfl), rn_id if_i64⟩, trivial⟩ (if_str) rfl), fun st mm ⟨a18, a22, _⟩ _ => og (catStr h49 rfl (a18.trans rfl) (a22.trans rfl)), fun st mm ⟨a23, _⟩ _ => og (catStr h51 rfl (a23.trans rfl) (kS (s := [58]) rfl)), fun st mm ⟨a6, _⟩ ⟨g102, _⟩ => og (faO (g102.trans rfl) fd_45_1 rfl (a6.trans rfl)), fun st mm ⟨a25, _⟩ ⟨g102, _⟩ => og (ldB [1] (g102.trans rfl) (by exact rfl) sh_9 (by exact rfl) (by exact rfl) rfl (a25.trans rfl) (.inl rfl)), fun st mm ⟨a24, a26, _⟩ _ => og (catStr h53 rfl (a24.trans rfl) (a26.trans rfl)), fun st mm ⟨a27, _⟩ _ => og (catStr h55 rfl (a27.trans rfl) (kS (s := [59]) rfl)), fun st mm ⟨a4, a28, _⟩ ⟨g100, g101, g103, _⟩ => og (callG (em := [(103, .sl 5 1 (List.map ub y56)), (100, .bx 52 (.agg [.por 100, .own 103])), (101, .gone)]) (res' := .tup [i64 (y54.length : Int), nilI]) [(0, 100), (1, 101)] [(103, 52)] [(103, 52), (100, 0)] (ws_ok' h57) ⟨⟨_, (a4.trans rfl), rn_own rfl⟩, ⟨_, (a28.trans rfl), rn_id if_str⟩, trivial⟩ (MiF.get (mi := [(0, _), (1, _)]) ⟨⟨_, _, rfl, (g100.trans rfl), rc_bx (rn_agg (rns_cons (rn_por rfl) (rns_cons (rn_own rfl) rns_nil)))⟩, ⟨_, _, rfl, (g101.trans rfl), rc_sl (ifs_map (f := ub) (fun _ => if_ub) s40)⟩, trivial⟩) ⟨⟨_, rfl⟩, ⟨_, rfl⟩, trivial⟩ rfl ⟨(g103.trans rfl), trivial⟩ ⟨.inl rfl, .inr rfl, trivial⟩ rfl ⟨.inl ⟨_, _, rfl, rfl, rc_sl (ifs_map (f := ub) (fun _ => if_ub) y56)⟩, .inl ⟨_, _, rfl, rfl, rc_bx (rn_agg (rns_cons (rn_por rfl) (rns_cons (rn_own rfl) rns_nil)))⟩, .inr ⟨rfl, 1, .tail _ (.head _)⟩, trivial⟩ ⟨⟨_, rfl⟩, ⟨_, rfl⟩, trivial⟩ ⟨⟨_, rfl⟩, trivial⟩ (rn_tup (rns_cons (rn_id if_i64) (rns_cons (rn_id if_nilI) rns_nil))) rfl), trivial⟩ ?_
      refine pbn ?_
      exact sgo (entR [(100, 100), (101, 103)] rfl (keepS hγ trivial) ⟨⟨_, rfl⟩, ⟨_, rfl⟩, trivial⟩ ⟨⟨_, _, rfl, rfl, rci (rc_bx (rn_agg (rns_cons (rn_por rfl) (rns_cons (rn_own rfl) (rns_nil)))))⟩, ⟨_, _, rfl, rfl, rci (rc_sl (ifs_map (f := ub) (fun _ => if_ub) y56))⟩, trivial⟩ ⟨⟨_, rfl, rn_id if_i64⟩, ⟨_, rfl, rn_id if_i64⟩, ⟨_, rfl, rn_id if_str⟩, ⟨_, rfl, rn_id if_bl⟩, ⟨_, rfl, rn_own rfl⟩, ⟨_, rfl, rn_id if_sli⟩, trivial⟩)
    · intro s58
      refine sx ?_
      refine pnm ?_
      refine sseq ?_
      refine sreg ?_
      refine so (strOp (id := 100) (id2 := 101) rfl rfl rfl rfl rfl) ?_
      refine s1 (asg rfl rfl) ?_
      refine s1 (asg rfl kB) ?_
      refine snil ?_
      refine pnm ?_
      refine sret ?_
      exact ret [] [.tmp 2, .tmp 3] [_, _] [_, _] .ret hγ (.inl rfl) rfl ⟨rfl, rfl, trivial⟩ rfl trivial trivial trivial (rns_cons (rn_id if_str) (rns_cons (rn_id if_bl) (rns_nil))) rfl
theorem c_wire_parse {x0 : Int} : ∀ r, m_wire_parse x0 = some r → FnOk Tryz.prog 44 [i64 x0] [] (L_api_Fault r) [] := by
  unfold m_wire_parse
  refine fn_of_sq (res := fun (r : M_api_Fault) => L_api_Fault r) (mo := fun (r : M_api_Fault) => []) Tryz.func44 rfl rfl (by kernel_rfl) rfl ?_
  intro w S0 γ hγ
  refine sseq ?_
  refine sreg ?_
  refine so (al (y := 100) (ly := L_api_Fault (⟨0, 0, 0, 0⟩ : M_api_Fault)) ti_37 zr_api_Fault rfl rfl) ?_
  refine snil ?_
  refine pnm ?_
  refine sseq ?_
  refine sreg ?_
  refine s1 (mv rfl rfl) ?_
  refine s1 (bld (l := [i64 (1 : Int), i64 0, i64 0, i64 x0]) pl_37 ti_37 zr_api_Fault ⟨_, _, _, (kI (x := 1) rfl), rfl, rfl, rfl, (szk (k := 1) rfl rfl), ⟨_, _, _, rfl, rfl, rfl, rfl, (szk (k := 1) rfl rfl), rfl⟩⟩ rfl) ?_
  refine so (stB2 (ly2 := L_api_Fault (⟨(1 : Int), 0, 0, x0⟩ : M_api_Fault)) [] (by exact rfl) rfl (by exact rfl) sh_37 (by exact rfl) (by exact rfl) (by exact rfl) rfl (.inr ⟨rfl, rfl, _, _, rfl⟩) rfl) ?_
  refine snil ?_
  refine pnm ?_
  refine sret ?_
  exact ret [] [.cell 2 37] [_] [_] .ret hγ (.inl rfl) rfl ⟨⟨100, _, rfl, rfl, sh_37⟩, trivial⟩ rfl trivial trivial trivial (rns_cons (rn_id if_L_api_Fault) (rns_nil)) rfl
theorem c_digits_wrong {n : Nat} {x0 : (List UInt8)} : ∀ r, m_digits_wrong n x0 = some r → FnOk Tryz.prog 88 [str x0] [] (i64 r) [] := by
  unfold m_digits_wrong
  refine fn_of_sq (res := fun (r : Int) => i64 r) (mo := fun (r : Int) => []) Tryz.func88 rfl rfl (by kernel_rfl) rfl ?_
  intro w S0 γ hγ
  refine sseq ?_
  refine sreg ?_
  refine s1 (asg rfl (kI (x := 0) rfl)) ?_
  refine snil ?_
  refine pnm ?_
  refine sseq ?_
  refine sseq ?_
  refine sreg ?_
  refine s1 (mv rfl rfl) ?_
  refine s1 (lenS Tryz.underlying9 rfl rfl) ?_
  refine s1 (mv rfl (kI (x := 0) rfl)) ?_
  refine snil ?_
  refine pnm ?_
  refine sblk ?_
  refine sloopE 0 Lp.go (fun (s27 : Int) => [(0, str x0), (2, i64 (0 : Int)), (5, i64 (x0.length : Int)), (6, i64 s27)]) (fun (s27 : Int) => []) (fun (t25 : Unit) => [(0, str x0), (2, i64 (0 : Int))]) (fun (t25 : Unit) => []) (entI ⟨rfl, rfl, rfl, rfl, trivial⟩ eqm0) ?_ ?_
  · intro hj26 s27
    refine sseq ?_
    refine sreg ?_
    refine s1 (ltI rfl rfl rfl) ?_
    refine snil ?_
    refine pnm ?_
    refine sseq ?_
    refine scond rfl ?_ ?_
    · refine sskip ?_
      refine pnm ?_
      refine sseq ?_
      refine sblk ?_
      refine sseq ?_
      refine sreg ?_
      refine s1 (mv rfl rfl) ?_
      refine s1 (asg rfl rfl) ?_
      refine snil ?_
      refine pnm ?_
      refine sjq (fun (s34 : Bool) => [(0, str x0), (2, i64 (0 : Int)), (3, i64 s27), (5, i64 (x0.length : Int)), (6, i64 s27), (22, bl s34)]) (fun (s34 : Bool) => []) ?_ ?_
      · intro j32 hj33
        refine sreg ?_
        refine s1 (mv rfl rfl) ?_
        refine s1 (mv rfl rfl) ?_
        refine bd fun y35 h36 => ?_
        refine s1 (ixS Tryz.underlying9 h36 rfl rfl rfl) ?_
        refine s1 (ltU .u8 rfl rfl (k8 (x := 48) rfl)) ?_
        refine s1 (mv rfl rfl) ?_
        refine sifd 13 rfl ?_ ?_
        · refine spB 13 rfl rfl rfl ?_
          refine spB 13 rfl rfl rfl ?_
          refine spB 13 rfl rfl rfl ?_
          refine spB 13 rfl rfl rfl ?_
          refine s1 (pickT rfl rfl kB) ?_
          refine s1 (mv rfl rfl) ?_
          refine spB 19 rfl rfl rfl ?_
          refine spB 19 rfl rfl rfl ?_
          refine s1 (pickT rfl rfl kB) ?_
          refine snil ?_
          refine pnm ?_
          exact sj (hj33 _) (entI ⟨rfl, rfl, rfl, rfl, rfl, rfl, trivial⟩ eqm0)
        · refine sg 13 rfl rfl (mv rfl rfl) ?_
          refine sg 13 rfl rfl (mv rfl rfl) ?_
          refine bd fun y37 h38 => ?_
          refine sg 13 rfl rfl (ixS Tryz.underlying9 h38 rfl rfl rfl) ?_
          refine sg 13 rfl rfl (gtU .u8 rfl rfl (k8 (x := 57) rfl)) ?_
          refine s1 (pickF rfl rfl rfl) ?_
          refine s1 (mv rfl rfl) ?_
          refine sifd 19 rfl ?_ ?_
          · refine spB 19 rfl rfl rfl ?_
            refine spB 19 rfl rfl rfl ?_
            refine s1 (pickT rfl rfl kB) ?_
            refine snil ?_
            refine pnm ?_
            exact sj (hj33 _) (entI ⟨rfl, rfl, rfl, rfl, rfl, rfl, trivial⟩ eqm0)
          · refine sg 19 rfl rfl (mv rfl rfl) ?_
            refine sg 19 rfl rfl (eqI rfl rfl (kI (x := 60) rfl)) ?_
            refine s1 (pickF rfl rfl rfl) ?_
            refine snil ?_
            refine pnm ?_
            exact sj (hj33 _) (entI ⟨rfl, rfl, rfl, rfl, rfl, rfl, trivial⟩ eqm0)
      · intro s34
        refine scond rfl ?_ ?_
        · refine sseq ?_
          refine sreg ?_
          refine s1 (mv rfl rfl) ?_
          refine s1 (asg rfl rfl) ?_
          refine snil ?_
          refine pnm ?_
          refine sret ?_
          refine pbl ?_
          refine pth ?_
          refine sout (fun h => by cases h) ?_
          refine pbl ?_
          refine pth ?_
          exact ret [] [.tmp 2] [_] [_] .ret hγ (.inl rfl) rfl ⟨rfl, trivial⟩ rfl trivial trivial trivial (rns_cons (rn_id if_i64) (rns_nil)) rfl
        · refine sskip ?_
          refine pbn ?_
          refine pnm ?_
          refine sreg ?_
          refine s1 (addI rfl rfl (kI (x := 1) rfl)) ?_
          refine s1 (mv rfl rfl) ?_
          refine snil ?_
          exact sgo (entI ⟨rfl, rfl, rfl, rfl, trivial⟩ eqm0)
    · refine sexit ?_
      refine ptx ?_
      exact sout (fun h => by cases h) (sj (hj26 _) (entI ⟨rfl, rfl, trivial⟩ eqm0))
  · intro t25
    refine slpk ?_
    refine sx ?_
    refine pnm ?_
    refine sseq ?_
    refine sseq ?_
    refine sreg ?_
    refine s1 (mv rfl rfl) ?_
    refine s1 (eqS rfl rfl (kS (s := []) rfl)) ?_
    refine snil ?_
    refine pnm ?_
    refine scond rfl ?_ ?_
    · refine sseq ?_
      refine sreg ?_
      refine s1 (asg rfl (kI (x := 0) rfl)) ?_
      refine snil ?_
      refine pnm ?_
      refine sret ?_
      refine pth ?_
      exact ret [] [.tmp 2] [_] [_] .ret hγ (.inl rfl) rfl ⟨rfl, trivial⟩ rfl trivial trivial trivial (rns_cons (rn_id if_i64) (rns_nil)) rfl
    · refine sskip ?_
      refine pnm ?_
      refine sseq ?_
      refine sreg ?_
      refine s1 (asg rfl (kI (x := (-1)) rfl)) ?_
      refine snil ?_
      refine pnm ?_
      refine sret ?_
      exact ret [] [.tmp 2] [_] [_] .ret hγ (.inl rfl) rfl ⟨rfl, trivial⟩ rfl trivial trivial trivial (rns_cons (rn_id if_i64) (rns_nil)) rfl
theorem c_limb_Mul {x0 : Nat} {x1 : Nat} {x2 : Nat} {x3 : Nat} : ∀ r, m_limb_Mul x0 x1 x2 x3 = some r → FnOk Tryz.prog 136 [u32 x0, u32 x1, u32 x2, u32 x3] [] (.tup [u32 r.1, u32 r.2]) [] := by
  unfold m_limb_Mul
  refine fn_of_sq (res := fun (r : Nat × Nat) => .tup [u32 r.1, u32 r.2]) (mo := fun (r : Nat × Nat) => []) Tryz.func136 rfl rfl (by kernel_rfl) rfl ?_
  intro w S0 γ hγ
  refine sseq ?_
  refine sreg ?_
  refine s1 (asg rfl (k32 (x := 0) rfl)) ?_
  refine s1 (asg rfl (k32 (x := 0) rfl)) ?_
  refine snil ?_
  refine pnm ?_
  refine sseq ?_
  refine sreg ?_
  refine s1 (mv rfl rfl) ?_
  refine s1 (cvUw uk64 uk32 rfl Tryz.underlying107 Tryz.underlying106 rfl rfl) ?_
  refine s1 (mv rfl rfl) ?_
  refine s1 (cvUw uk64 uk32 rfl Tryz.underlying107 Tryz.underlying106 rfl rfl) ?_
  refine s1 (mulU uk64 rfl rfl rfl) ?_
  refine s1 (mv rfl rfl) ?_
  refine s1 (cvUw uk64 uk32 rfl Tryz.underlying107 Tryz.underlying106 rfl rfl) ?_
  refine s1 (addU uk64 rfl rfl rfl) ?_
  refine s1 (mv rfl rfl) ?_
  refine s1 (cvUw uk64 uk32 rfl Tryz.underlying107 Tryz.underlying106 rfl rfl) ?_
  refine s1 (addU uk64 rfl rfl rfl) ?_
  refine sbn (F := u64) 21 rfl fun z1 => ?_
  refine s1 (asg rfl rfl) ?_
  refine snil ?_
  refine pnm ?_
  refine sseq ?_
  refine sreg ?_
  refine s1 (mv rfl rfl) ?_
  refine s1 (shrU uk64 rfl rfl rfl (k64 (x := 32) rfl)) ?_
  refine s1 (cvU uk32 Tryz.underlying106 Tryz.underlying107 rfl rfl) ?_
  refine s1 (mv rfl rfl) ?_
  refine s1 (cvU uk32 Tryz.underlying106 Tryz.underlying107 rfl rfl) ?_
  refine s1 (asg rfl rfl) ?_
  refine s1 (asg rfl rfl) ?_
  refine snil ?_
  refine pnm ?_
  refine sret ?_
  exact ret [] [.tmp 8, .tmp 9] [_, _] [_, _] .ret hγ (.inl rfl) rfl ⟨rfl, rfl, trivial⟩ rfl trivial trivial trivial (rns_cons (rn_id if_u32) (rns_cons (rn_id if_u32) (rns_nil))) rfl
theorem c_prod_row {x0 : (List Nat)} {x1 : Int} {x2 : (List Nat)} {x3 : Nat} {x4 : Nat} : ∀ r, m_prod_row x0 x1 x2 x3 x4 = some r → FnOk Tryz.prog 119 [.own 0, i64 x1, sli 1 (List.map u32 x2), u32 x3, u32 x4] [(0, .sl 107 1 (List.map u32 x0))] (.tup []) [(0, .sl 107 1 (List.map u32 r))] := by
  unfold m_prod_row
  refine fn_of_sq (res := fun (r : (List Nat)) => .tup []) (mo := fun (r : (List Nat)) => [(0, .sl 107 1 (List.map u32 r))]) Tryz.func119 rfl rfl (by kernel_rfl) rfl ?_
  intro w S0 γ hγ
  refine sseq ?_
  refine sseq ?_
  refine sreg ?_
  refine s1 (mv rfl rfl) ?_
  refine s1 (lenL (f := u32) Tryz.underlying67 rfl rfl) ?_
  refine s1 (mv rfl (kI (x := 0) rfl)) ?_
  refine snil ?_
  refine pnm ?_
  refine sblk ?_
  refine srangeN (fun (s22 : (List Nat) × Nat) => [(0, .own 0), (1, i64 x1), (2, sli 1 (List.map u32 x2)), (3, u32 x3), (4, u32 s22.2), (12, sli 1 (List.map u32 x2))]) (fun (s22 : (List Nat) × Nat) => [(0, .sl 107 1 (List.map u32 s22.1))]) rfl (fun _ => rfl) (entR [(0, 0)] rfl (keepS hγ ⟨rfl, trivial⟩) ⟨⟨_, rfl⟩, trivial⟩ ⟨⟨_, _, rfl, rfl, rci (rc_sl (ifs_map (f := u32) (fun _ => if_u32) x0))⟩, trivial⟩ ⟨⟨_, rfl, rn_id if_i64⟩, ⟨_, rfl, rn_id if_i64⟩, ⟨_, rfl, rn_own rfl⟩, ⟨_, rfl, rn_id if_i64⟩, ⟨_, rfl, rn_id if_sli⟩, ⟨_, rfl, rn_id if_u32⟩, ⟨_, rfl, rn_id if_u32⟩, ⟨_, rfl, rn_id if_sli⟩, trivial⟩) ?_ ?_
  · intro i23 x24 s22 hx25
    refine sblk ?_
    refine sseq ?_
    refine sreg ?_
    refine s1 (mv rfl rfl) ?_
    refine s1 (ixR (f := u32) Tryz.underlying67 ti_107 (getI_nat hx25) rfl rfl rfl) ?_
    refine s1 (ldR sh_107 (by exact rfl) (by exact rfl) rfl rfl) ?_
    refine s1 (asg rfl rfl) ?_
    refine s1 (asg rfl rfl) ?_
    refine snil ?_
    refine pnm ?_
    refine sreg ?_
    refine s1 (mv rfl rfl) ?_
    refine s1 (mv rfl rfl) ?_
    refine s1 (mv rfl rfl) ?_
    refine s1 (addI rfl rfl rfl) ?_
    refine s1 (mv rfl rfl) ?_
    refine s1 (mv rfl rfl) ?_
    refine s1 (mv rfl rfl) ?_
    refine s1 (mv rfl rfl) ?_
    refine s1 (mv rfl rfl) ?_
    refine s1 (addI rfl rfl rfl) ?_
    refine bd fun y26 h27 => ?_
    refine s1 (ixO (f := u32) rfl Tryz.underlying67 ti_107 h27 rfl rfl rfl) ?_
    refine s1 (ldO (f := u32) [] rfl (getI_ix h27) (by exact rfl) (by exact rfl) sh_107 (by exact rfl) (by exact rfl) rfl rfl) ?_
    refine s1 (mv rfl rfl) ?_
    refine bd fun r28 h29 => ?_
    refine s1 (call0 (c_limb_Mul _ h29) ⟨⟨_, rfl, rn_id if_u32⟩, ⟨_, rfl, rn_id if_u32⟩, ⟨_, rfl, rn_id if_u32⟩, ⟨_, rfl, rn_id if_u32⟩, trivial⟩ (if_tup (ifs_cons if_u32 (ifs_cons if_u32 (ifs_nil)))) rfl) ?_
    refine s1 (mv rfl rfl) ?_
    refine s1 (ext (by exact rfl) rfl rfl) ?_
    refine s1 (ext (by exact rfl) rfl rfl) ?_
    refine s1 (asg rfl rfl) ?_
    refine bd fun y30 h31 => ?_
    refine s1 (ixO (f := u32) rfl Tryz.underlying67 ti_107 h31 rfl rfl rfl) ?_
    refine so (stO (f := u32) r28.2 [] rfl (getI_ix h31) (by exact rfl) (by exact rfl) (by exact rfl) (by exact rfl) sh_107 (by exact rfl) (by exact rfl) (by exact rfl) rfl rfl) ?_
    refine snil ?_
    refine pbn ?_
    exact sgo (entR [(0, 0)] rfl (keepS hγ ⟨rfl, trivial⟩) ⟨⟨_, rfl⟩, trivial⟩ ⟨⟨_, _, rfl, rfl, rci (rc_sl (ifs_map (f := u32) (fun _ => if_u32) (List.set s22.1 (Int.toNat (wrap64 (x1 + (i23 : Int)))) r28.2)))⟩, trivial⟩ ⟨⟨_, rfl, rn_id if_i64⟩, ⟨_, rfl, rn_id if_i64⟩, ⟨_, rfl, rn_own rfl⟩, ⟨_, rfl, rn_id if_i64⟩, ⟨_, rfl, rn_id if_sli⟩, ⟨_, rfl, rn_id if_u32⟩, ⟨_, rfl, rn_id if_u32⟩, ⟨_, rfl, rn_id if_sli⟩, trivial⟩)
  · intro s32
    refine sx ?_
    refine pnm ?_
    refine sreg ?_
    refine s1 (mv rfl rfl) ?_
    refine s1 (mv rfl rfl) ?_
    refine s1 (mv rfl rfl) ?_
    refine s1 (lenL (f := u32) Tryz.underlying67 rfl rfl) ?_
    refine s1 (addI rfl rfl rfl) ?_
    refine s1 (mv rfl rfl) ?_
    refine bd fun y33 h34 => ?_
    refine s1 (ixO (f := u32) rfl Tryz.underlying67 ti_107 h34 rfl rfl rfl) ?_
    refine so (stO (f := u32) s32.2 [] rfl (getI_ix h34) (by exact rfl) (by exact rfl) (by exact rfl) (by exact rfl) sh_107 (by exact rfl) (by exact rfl) (by exact rfl) rfl rfl) ?_
    refine snil ?_
    exact ret [(0, 0)] [] [] [] .normal hγ (.inr rfl) rfl trivial rfl ⟨rfl, trivial⟩ ⟨⟨_, rfl⟩, trivial⟩ ⟨⟨_, _, rfl, rfl, rci (rc_sl (ifs_map (f := u32) (fun _ => if_u32) (List.set s32.1 (Int.toNat (wrap64 (x1 + (x2.length : Int)))) s32.2)))⟩, trivial⟩ (rns_nil) rfl
theorem c_nat_trim {n : Nat} {x0 : (List Nat)} : ∀ r, m_nat_trim n x0 = some r → FnOk Tryz.prog 94 [sli 1 (List.map u32 x0)] [] (sli 1 (List.map u32 r)) [] := by
  unfold m_nat_trim
  refine fn_of_sq (res := fun (r : (List Nat)) => sli 1 (List.map u32 r)) (mo := fun (r : (List Nat)) => []) Tryz.func94 rfl rfl (by kernel_rfl) rfl ?_
  intro w S0 γ hγ
  refine sseq ?_
  refine sreg ?_
  refine s1 (asg rfl (kLm (k := 1) u32)) ?_
  refine snil ?_
  refine pnm ?_
  refine sseq ?_
  refine sreg ?_
  refine s1 (mv rfl rfl) ?_
  refine s1 (lenL (f := u32) Tryz.underlying67 rfl rfl) ?_
  refine s1 (asg rfl rfl) ?_
  refine snil ?_
  refine pnm ?_
  refine sseq ?_
  refine sblk ?_
  refine sloopE 0 (fun t => t) (fun (s19 : Int) => [(0, sli 1 (List.map u32 x0)), (2, sli 1 (List.map u32 ([] : List Nat))), (3, i64 s19)]) (fun (s19 : Int) => []) (fun (t17 : Int) => [(0, sli 1 (List.map u32 x0)), (2, sli 1 (List.map u32 ([] : List Nat))), (3, i64 t17)]) (fun (t17 : Int) => []) (entI ⟨rfl, rfl, rfl, trivial⟩ eqm0) ?_ ?_
  · intro hj18 s19
    refine sseq ?_
    refine sjq (fun (s24 : Bool) => [(0, sli 1 (List.map u32 x0)), (2, sli 1 (List.map u32 ([] : List Nat))), (3, i64 s19), (15, bl s24)]) (fun (s24 : Bool) => []) ?_ ?_
    · intro j22 hj23
      refine sreg ?_
      refine s1 (mv rfl rfl) ?_
      refine s1 (gtI rfl rfl (kI (x := 0) rfl)) ?_
      refine s1 (mv rfl rfl) ?_
      refine sifd 8 rfl ?_ ?_
      · refine sg 8 rfl rfl (mv rfl rfl) ?_
        refine sg 8 rfl rfl (mv rfl rfl) ?_
        refine sg 8 rfl rfl (subI rfl rfl (kI (x := 1) rfl)) ?_
        refine bd fun y25 h26 => ?_
        refine sg 8 rfl rfl (ixR (f := u32) Tryz.underlying67 ti_107 h26 rfl rfl rfl) ?_
        refine sg 8 rfl rfl (ldR sh_107 (by exact rfl) (by exact rfl) rfl rfl) ?_
        refine sg 8 rfl rfl (eqU .u32 rfl rfl (k32 (x := 0) rfl)) ?_
        refine s1 (pickT rfl rfl rfl) ?_
        refine snil ?_
        refine pnm ?_
        exact sj (hj23 _) (entI ⟨rfl, rfl, rfl, rfl, trivial⟩ eqm0)
      · refine spB 8 rfl rfl rfl ?_
        refine spB 8 rfl rfl rfl ?_
        refine spB 8 rfl rfl rfl ?_
        refine spB 8 rfl rfl rfl ?_
        refine spB 8 rfl rfl rfl ?_
        refine spB 8 rfl rfl rfl ?_
        refine s1 (pickF rfl rfl kB) ?_
        refine snil ?_
        refine pnm ?_
        exact sj (hj23 _) (entI ⟨rfl, rfl, rfl, rfl, trivial⟩ eqm0)
    · intro s24
      refine scond rfl ?_ ?_
      · refine sskip ?_
        refine pnm ?_
        refine sblk ?_
        refine sreg ?_
        refine s1 (mv rfl rfl) ?_
        refine s1 (subI rfl rfl (kI (x := 1) rfl)) ?_
        refine s1 (asg rfl rfl) ?_
        refine snil ?_
        refine pbn ?_
        exact sgo (entI ⟨rfl, rfl, rfl, trivial⟩ eqm0)
      · refine sexit ?_
        refine ptx ?_
        exact sout (fun h => by cases h) (sj (hj18 _) (entI ⟨rfl, rfl, rfl, trivial⟩ eqm0))
  · intro t17
    refine sx ?_
    refine pnm ?_
    refine sseq ?_
    refine sreg ?_
    refine s1 (mv rfl rfl) ?_
    refine s1 (mv rfl rfl) ?_
    refine bd fun y27 h28 => ?_
    refine s1 (slR (f := u32) h28 Tryz.underlying67 ti_107 rfl rfl bnd0 (bnd rfl)) ?_
    refine s1 (asg rfl rfl) ?_
    refine snil ?_
    refine pnm ?_
    refine sret ?_
    exact ret [] [.tmp 2] [_] [_] .ret hγ (.inl rfl) rfl ⟨rfl, trivial⟩ rfl trivial trivial trivial (rns_cons (rn_id if_sli) (rns_nil)) rfl
theorem c_nat_fresh {x0 : (List Nat)} {x1 : Int} : ∀ r, m_nat_fresh x0 x1 = some r → FnOk Tryz.prog 137 [sli 1 (List.map u32 x0), i64 x1] [] (.own 50) [(50, .sl 107 1 (List.map u32 r))] := by
  unfold m_nat_fresh
  refine fn_of_sq (res := fun (r : (List Nat)) => .own 50) (mo := fun (r : (List Nat)) => [(50, .sl 107 1 (List.map u32 r))]) Tryz.func137 rfl rfl (by kernel_rfl) rfl ?_
  intro w S0 γ hγ
  refine sseq ?_
  refine sreg ?_
  refine s1 (asg rfl (kLm (k := 1) u32)) ?_
  refine snil ?_
  refine pnm ?_
  refine sseq ?_
  refine sreg ?_
  refine s1 (mv rfl rfl) ?_
  refine s1 (lenL (f := u32) Tryz.underlying67 rfl rfl) ?_
  refine s1 (mv rfl rfl) ?_
  refine s1 (addI rfl rfl rfl) ?_
  refine bd fun y1 h2 => ?_
  refine so (mks (y := 100) (f := u32) h2 Tryz.underlying67 ti_107 zr_u32 rfl rfl rfl rfl rfl rfl) ?_
  refine s1 (asg rfl rfl) ?_
  refine snil ?_
  refine pnm ?_
  refine sseq ?_
  refine sreg ?_
  refine s1 (mv rfl rfl) ?_
  refine s1 (mv rfl rfl) ?_
  refine so (cpy (f := u32) rfl Tryz.underlying67 ti_107 rfl rfl (.inl rfl) rfl) ?_
  refine snil ?_
  refine pnm ?_
  refine sseq ?_
  refine sreg ?_
  refine s1 (mv rfl rfl) ?_
  refine s1 (asg rfl rfl) ?_
  refine snil ?_
  refine pnm ?_
  refine sret ?_
  exact ret [(50, 100)] [.tmp 4] [_] [.own 50] .ret hγ (.inl rfl) rfl ⟨rfl, trivial⟩ rfl trivial ⟨⟨_, rfl⟩, trivial⟩ ⟨⟨_, _, rfl, rfl, rci (rc_sl (ifs_map (f := u32) (fun _ => if_u32) (cpyL y1 x0)))⟩, trivial⟩ (rns_cons (rn_own rfl) (rns_nil)) rfl
theorem c_nat_Norm {n : Nat} {x0 : (List Nat)} : ∀ r, m_nat_Norm n x0 = some r → FnOk Tryz.prog 120 [sli 1 (List.map u32 x0)] [] (.own 50) [(50, .sl 107 1 (List.map u32 r))] := by
  unfold m_nat_Norm
  refine fn_of_sq (res := fun (r : (List Nat)) => .own 50) (mo := fun (r : (List Nat)) => [(50, .sl 107 1 (List.map u32 r))]) Tryz.func120 rfl rfl (by kernel_rfl) rfl ?_
  intro w S0 γ hγ
  refine sseq ?_
  refine sreg ?_
  refine s1 (asg rfl (kLm (k := 1) u32)) ?_
  refine snil ?_
  refine pnm ?_
  refine sseq ?_
  refine sreg ?_
  refine s1 (mv rfl rfl) ?_
  refine bd fun r1 h2 => ?_
  refine s1 (call0 (c_nat_trim _ h2) ⟨⟨_, rfl, rn_id if_sli⟩, trivial⟩ (if_sli) rfl) ?_
  refine bd fun r3 h4 => ?_
  refine so (callG (em := [(100, .sl 107 1 (List.map u32 r3))]) (res' := .own 100) [] [(100, 50)] [(100, 50)] (c_nat_fresh _ h4) ⟨⟨_, rfl, rn_id if_sli⟩, ⟨_, (kI (x := 0) rfl), rn_id if_i64⟩, trivial⟩ (MiF.get (mi := []) trivial) trivial rfl ⟨rfl, trivial⟩ ⟨.inl rfl, trivial⟩ rfl ⟨.inl ⟨_, _, rfl, rfl, rc_sl (ifs_map (f := u32) (fun _ => if_u32) r3)⟩, trivial⟩ trivial ⟨⟨_, rfl⟩, trivial⟩ (rn_own rfl) rfl) ?_
  refine s1 (asg rfl rfl) ?_
  refine snil ?_
  refine pnm ?_
  refine sret ?_
  exact ret [(50, 100)] [.tmp 2] [_] [.own 50] .ret hγ (.inl rfl) rfl ⟨rfl, trivial⟩ rfl trivial ⟨⟨_, rfl⟩, trivial⟩ ⟨⟨_, _, rfl, rfl, rci (rc_sl (ifs_map (f := u32) (fun _ => if_u32) r3))⟩, trivial⟩ (rns_cons (rn_own rfl) (rns_nil)) rfl
theorem c_prod_Word {n : Nat} {x0 : (List Nat)} {x1 : Nat} {x2 : Nat} : ∀ r, m_prod_Word n x0 x1 x2 = some r → FnOk Tryz.prog 89 [sli 1 (List.map u32 x0), u32 x1, u32 x2] [] (sli 1 (List.map u32 r)) [] := by
  unfold m_prod_Word
  refine fn_of_sq (res := fun (r : (List Nat)) => sli 1 (List.map u32 r)) (mo := fun (r : (List Nat)) => []) Tryz.func89 rfl rfl (by kernel_rfl) rfl ?_
  intro w S0 γ hγ
  refine sseq ?_
  refine sreg ?_
  refine s1 (asg rfl (kLm (k := 1) u32)) ?_
  refine snil ?_
  refine pnm ?_
  refine sseq ?_
  refine sreg ?_
  refine s1 (mv rfl rfl) ?_
  refine s1 (lenL (f := u32) Tryz.underlying67 rfl rfl) ?_
  refine s1 (addI rfl rfl (kI (x := 1) rfl)) ?_
  refine bd fun y1 h2 => ?_
  refine so (mks (y := 100) (f := u32) h2 Tryz.underlying67 ti_107 zr_u32 rfl rfl rfl rfl rfl rfl) ?_
  refine s1 (asg rfl rfl) ?_
  refine snil ?_
  refine pnm ?_
  refine sseq ?_
  refine sreg ?_
  refine s1 (mv rfl rfl) ?_
  refine s1 (mv rfl rfl) ?_
  refine s1 (mv rfl rfl) ?_
  refine s1 (mv rfl rfl) ?_
  refine bd fun r3 h4 => ?_
  refine so (callG (em := [(100, .sl 107 1 (List.map u32 r3))]) (res' := .tup []) [(0, 100)] [] [(100, 0)] (c_prod_row _ h4) ⟨⟨_, rfl, rn_own rfl⟩, ⟨_, (kI (x := 0) rfl), rn_id if_i64⟩, ⟨_, rfl, rn_id if_sli⟩, ⟨_, rfl, rn_id if_u32⟩, ⟨_, rfl, rn_id if_u32⟩, trivial⟩ (MiF.get (mi := [(0, _)]) ⟨⟨_, _, rfl, rfl, rc_sl (ifs_map (f := u32) (fun _ => if_u32) y1)⟩, trivial⟩) ⟨⟨_, rfl⟩, trivial⟩ rfl trivial ⟨.inr rfl, trivial⟩ rfl ⟨.inl ⟨_, _, rfl, rfl, rc_sl (ifs_map (f := u32) (fun _ => if_u32) r3)⟩, trivial⟩ ⟨⟨_, rfl⟩, trivial⟩ trivial (rn_tup (rns_nil)) rfl) ?_
  refine snil ?_
  refine pnm ?_
  refine sseq ?_
  refine sreg ?_
  refine s1 (mv rfl rfl) ?_
  refine bd fun r5 h6 => ?_
  refine so (callL (em := [(101, .sl 107 1 (List.map u32 r5))]) (res' := .own 101) [100] [] [(101, 50)] [(101, 50)] rfl (c_nat_Norm _ h6) ⟨pls_map (f := u32) (fun _ => pl_u32) _, trivial⟩ (pl_own) ⟨.inr ⟨100, rfl, .inl ⟨rfl, .inl ⟨_, _, _, rfl, ifs_map (f := u32) (fun _ => if_u32) r3, rfl⟩⟩⟩, trivial⟩ (MiF.get (mi := []) trivial) trivial rfl ⟨rfl, trivial⟩ ⟨.inl rfl, trivial⟩ rfl ⟨.inl ⟨_, _, rfl, rfl, rc_sl (ifs_map (f := u32) (fun _ => if_u32) r5)⟩, trivial⟩ trivial ⟨⟨_, rfl⟩, trivial⟩ (rn_own rfl) rfl) ?_
  refine s1 (asg rfl rfl) ?_
  refine snil ?_
  refine pnm ?_
  refine sret ?_
  refine frz (id := 101) [(6, sli 1 (List.map u32 r5)), (18, sli 1 (List.map u32 r5))] [] rfl (ifs_map (f := u32) (fun _ => if_u32) r5) ⟨⟨_, rfl, fz_own⟩, ⟨_, rfl, fz_own⟩, trivial⟩ trivial ?_
  exact ret [] [.tmp 6] [_] [_] .ret hγ (.inl rfl) rfl ⟨rfl, trivial⟩ rfl trivial trivial trivial (rns_cons (rn_id if_sli) (rns_nil)) rfl
theorem c_digits_Read {n : Nat} {x0 : (List UInt8)} : ∀ r, m_digits_Read n x0 = some r → FnOk Tryz.prog 62 [str x0] [] (.tup [sli 1 (List.map u32 r.1), L_api_Fault r.2]) [] := by
  unfold m_digits_Read
  refine fn_of_sq (res := fun (r : (List Nat) × M_api_Fault) => .tup [sli 1 (List.map u32 r.1), L_api_Fault r.2]) (mo := fun (r : (List Nat) × M_api_Fault) => []) Tryz.func62 rfl rfl (by kernel_rfl) rfl ?_
  intro w S0 γ hγ
  refine sseq ?_
  refine sreg ?_
  refine s1 (asg rfl (kLm (k := 1) u32)) ?_
  refine so (al (y := 100) (ly := L_api_Fault (⟨0, 0, 0, 0⟩ : M_api_Fault)) ti_37 zr_api_Fault rfl rfl) ?_
  refine snil ?_
  refine pnm ?_
  refine sseq ?_
  refine sseq ?_
  refine sreg ?_
  refine s1 (mv rfl rfl) ?_
  refine bd fun r1 h2 => ?_
  refine s1 (call0 (c_digits_wrong _ h2) ⟨⟨_, rfl, rn_id if_str⟩, trivial⟩ (if_i64) rfl) ?_
  refine s1 (asg rfl rfl) ?_
  refine snil ?_
  refine pnm ?_
  refine sseq ?_
  refine sreg ?_
  refine s1 (mv rfl rfl) ?_
  refine s1 (geI rfl rfl (kI (x := 0) rfl)) ?_
  refine snil ?_
  refine pnm ?_
  refine scond rfl ?_ ?_
  · refine sseq ?_
    refine sreg ?_
    refine s1 (mv rfl rfl) ?_
    refine s1 (bld (l := [i64 (1 : Int), i64 0, i64 0, i64 r1]) pl_37 ti_37 zr_api_Fault ⟨_, _, _, (kI (x := 1) rfl), rfl, rfl, rfl, (szk (k := 1) rfl rfl), ⟨_, _, _, rfl, rfl, rfl, rfl, (szk (k := 1) rfl rfl), rfl⟩⟩ rfl) ?_
    refine s1 (asg rfl (kLm (k := 1) u32)) ?_
    refine so (stB2 (ly2 := L_api_Fault (⟨(1 : Int), 0, 0, r1⟩ : M_api_Fault)) [] (by exact rfl) rfl (by exact rfl) sh_37 (by exact rfl) (by exact rfl) (by exact rfl) rfl (.inr ⟨rfl, rfl, _, _, rfl⟩) rfl) ?_
    refine snil ?_
    refine pnm ?_
    refine sret ?_
    refine pth ?_
    exact ret [] [.tmp 2, .cell 3 37] [_, _] [_, _] .ret hγ (.inl rfl) rfl ⟨rfl, ⟨100, _, rfl, rfl, sh_37⟩, trivial⟩ rfl trivial trivial trivial (rns_cons (rn_id if_sli) (rns_cons (rn_id if_L_api_Fault) (rns_nil))) rfl
  · refine sskip ?_
    refine pnm ?_
    refine sseq ?_
    refine sreg ?_
    refine s1 (asg rfl (kLm (k := 1) u32)) ?_
    refine snil ?_
    refine pnm ?_
    refine sseq ?_
    refine sseq ?_
    refine sreg ?_
    refine s1 (asg rfl (kI (x := 0) rfl)) ?_
    refine snil ?_
    refine pnm ?_
    refine sblk ?_
    refine sloopE 0 (fun t => t) (fun (s49 : (List Nat) × Int) => [(0, str x0), (2, sli 1 (List.map u32 ([] : List Nat))), (3, .own 100), (5, sli 1 (List.map u32 s49.1)), (6, i64 s49.2)]) (fun (s49 : (List Nat) × Int) => [(100, .bx 37 (L_api_Fault (⟨0, 0, 0, 0⟩ : M_api_Fault)))]) (fun (t47 : (List Nat)) => [(2, sli 1 (List.map u32 ([] : List Nat))), (3, .own 100), (5, sli 1 (List.map u32 t47))]) (fun (t47 : (List Nat)) => [(100, .bx 37 (L_api_Fault (⟨0, 0, 0, 0⟩ : M_api_Fault)))]) (entR [(100, 100)] rfl (keepS hγ trivial) ⟨⟨_, rfl⟩, trivial⟩ ⟨⟨_, _, rfl, rfl, rci (rc_bx (rn_id if_L_api_Fault))⟩, trivial⟩ ⟨⟨_, rfl, rn_id if_str⟩, ⟨_, rfl, rn_id if_sli⟩, ⟨_, rfl, rn_own rfl⟩, ⟨_, rfl, rn_id if_sli⟩, ⟨_, rfl, rn_id if_i64⟩, trivial⟩) ?_ ?_
    · intro hj48 s49
      refine sseq ?_
      refine sseq ?_
      refine sreg ?_
      refine s1 (mv rfl rfl) ?_
      refine s1 (mv rfl rfl) ?_
      refine s1 (lenS Tryz.underlying9 rfl rfl) ?_
      refine s1 (ltI rfl rfl rfl) ?_
      refine snil ?_
      refine pnm ?_
      refine scond rfl ?_ ?_
      · refine sskip ?_
        refine pnm ?_
        refine sblk ?_
        refine sseq ?_
        refine sreg ?_
        refine s1 (asg rfl (k32 (x := 0) rfl)) ?_
        refine s1 (asg rfl (k32 (x := 1) rfl)) ?_
        refine snil ?_
        refine pnm ?_
        refine sseq ?_
        refine sseq ?_
        refine sreg ?_
        refine s1 (asg rfl (kI (x := 0) rfl)) ?_
        refine snil ?_
        refine pnm ?_
        refine sblk ?_
        refine sloopE 2 (fun t => t) (fun (s59 : Int × Nat × Nat × Int) => [(0, str x0), (2, sli 1 (List.map u32 ([] : List Nat))), (3, .own 100), (5, sli 1 (List.map u32 s49.1)), (6, i64 s59.1), (7, u32 s59.2.1), (8, u32 s59.2.2.1), (9, i64 s59.2.2.2)]) (fun (s59 : Int × Nat × Nat × Int) => [(100, .bx 37 (L_api_Fault (⟨0, 0, 0, 0⟩ : M_api_Fault)))]) (fun (t57 : Int × Nat × Nat) => [(0, str x0), (2, sli 1 (List.map u32 ([] : List Nat))), (3, .own 100), (5, sli 1 (List.map u32 s49.1)), (6, i64 t57.1), (7, u32 t57.2.1), (8, u32 t57.2.2)]) (fun (t57 : Int × Nat × Nat) => [(100, .bx 37 (L_api_Fault (⟨0, 0, 0, 0⟩ : M_api_Fault)))]) (entR [(100, 100)] rfl (keepS hγ trivial) ⟨⟨_, rfl⟩, trivial⟩ ⟨⟨_, _, rfl, rfl, rci (rc_bx (rn_id if_L_api_Fault))⟩, trivial⟩ ⟨⟨_, rfl, rn_id if_str⟩, ⟨_, rfl, rn_id if_sli⟩, ⟨_, rfl, rn_own rfl⟩, ⟨_, rfl, rn_id if_sli⟩, ⟨_, rfl, rn_id if_i64⟩, ⟨_, rfl, rn_id if_u32⟩, ⟨_, rfl, rn_id if_u32⟩, ⟨_, rfl, rn_id if_i64⟩, trivial⟩) ?_ ?_
        · intro hj58 s59
          refine sseq ?_
          refine sjq (fun (s62 : Bool) => [(0, str x0), (2, sli 1 (List.map u32 ([] : List Nat))), (3, .own 100), (5, sli 1 (List.map u32 s49.1)), (6, i64 s59.1), (7, u32 s59.2.1), (8, u32 s59.2.2.1), (9, i64 s59.2.2.2), (27, bl s62)]) (fun (s62 : Bool) => [(100, .bx 37 (L_api_Fault (⟨0, 0, 0, 0⟩ : M_api_Fault)))]) ?_ ?_
          · intro j60 hj61
            refine sreg ?_
            refine s1 (mv rfl rfl) ?_
            refine s1 (ltI rfl rfl (kI (x := 9) rfl)) ?_
            refine s1 (mv rfl rfl) ?_
            refine sifd 22 rfl ?_ ?_
            · refine sg 22 rfl rfl (mv rfl rfl) ?_
              refine sg 22 rfl rfl (mv rfl rfl) ?_
              refine sg 22 rfl rfl (lenS Tryz.underlying9 rfl rfl) ?_
              refine sg 22 rfl rfl (ltI rfl rfl rfl) ?_
              refine s1 (pickT rfl rfl rfl) ?_
              refine snil ?_
              refine pnm ?_
              exact sj (hj61 _) (entR [(100, 100)] rfl (keepS hγ trivial) ⟨⟨_, rfl⟩, trivial⟩ ⟨⟨_, _, rfl, rfl, rci (rc_bx (rn_id if_L_api_Fault))⟩, trivial⟩ ⟨⟨_, rfl, rn_id if_str⟩, ⟨_, rfl, rn_id if_sli⟩, ⟨_, rfl, rn_own rfl⟩, ⟨_, rfl, rn_id if_sli⟩, ⟨_, rfl, rn_id if_i64⟩, ⟨_, rfl, rn_id if_u32⟩, ⟨_, rfl, rn_id if_u32⟩, ⟨_, rfl, rn_id if_i64⟩, ⟨_, rfl, rn_id if_bl⟩, trivial⟩)
            · refine spB 22 rfl rfl rfl ?_
              refine spB 22 rfl rfl rfl ?_
              refine spB 22 rfl rfl rfl ?_
              refine spB 22 rfl rfl rfl ?_
              refine s1 (pickF rfl rfl kB) ?_
              refine snil ?_
              refine pnm ?_
              exact sj (hj61 _) (entR [(100, 100)] rfl (keepS hγ trivial) ⟨⟨_, rfl⟩, trivial⟩ ⟨⟨_, _, rfl, rfl, rci (rc_bx (rn_id if_L_api_Fault))⟩, trivial⟩ ⟨⟨_, rfl, rn_id if_str⟩, ⟨_, rfl, rn_id if_sli⟩, ⟨_, rfl, rn_own rfl⟩, ⟨_, rfl, rn_id if_sli⟩, ⟨_, rfl, rn_id if_i64⟩, ⟨_, rfl, rn_id if_u32⟩, ⟨_, rfl, rn_id if_u32⟩, ⟨_, rfl, rn_id if_i64⟩, ⟨_, rfl, rn_id if_bl⟩, trivial⟩)
          · intro s62
            refine scond rfl ?_ ?_
            · refine sskip ?_
              refine pnm ?_
              refine sseq ?_
              refine sblk ?_
              refine sseq ?_
              refine sreg ?_
              refine s1 (mv rfl rfl) ?_
              refine s1 (mulU uk32 rfl rfl (k32 (x := 10) rfl)) ?_
              refine s1 (mv rfl rfl) ?_
              refine s1 (mv rfl rfl) ?_
              refine bd fun y63 h64 => ?_
              refine s1 (ixS Tryz.underlying9 h64 rfl rfl rfl) ?_
              refine s1 (subU uk8 rfl rfl (k8 (x := 48) rfl)) ?_
              refine s1 (cvUw uk32 uk8 rfl Tryz.underlying5 Tryz.underlying107 rfl rfl) ?_
              refine s1 (addU uk32 rfl rfl rfl) ?_
              refine sbn (F := u32) 37 rfl fun z65 => ?_
              refine s1 (asg rfl rfl) ?_
              refine snil ?_
              refine pnm ?_
              refine sseq ?_
              refine sreg ?_
              refine s1 (mv rfl rfl) ?_
              refine s1 (mulU uk32 rfl rfl (k32 (x := 10) rfl)) ?_
              refine s1 (asg rfl rfl) ?_
              refine snil ?_
              refine pnm ?_
              refine sreg ?_
              refine s1 (mv rfl rfl) ?_
              refine s1 (addI rfl rfl (kI (x := 1) rfl)) ?_
              refine s1 (asg rfl rfl) ?_
              refine snil ?_
              refine pbn ?_
              refine pnm ?_
              refine sreg ?_
              refine s1 (mv rfl rfl) ?_
              refine s1 (addI rfl rfl (kI (x := 1) rfl)) ?_
              refine s1 (asg rfl rfl) ?_
              refine snil ?_
              exact sgo (entR [(100, 100)] rfl (keepS hγ trivial) ⟨⟨_, rfl⟩, trivial⟩ ⟨⟨_, _, rfl, rfl, rci (rc_bx (rn_id if_L_api_Fault))⟩, trivial⟩ ⟨⟨_, rfl, rn_id if_str⟩, ⟨_, rfl, rn_id if_sli⟩, ⟨_, rfl, rn_own rfl⟩, ⟨_, rfl, rn_id if_sli⟩, ⟨_, rfl, rn_id if_i64⟩, ⟨_, rfl, rn_id if_u32⟩, ⟨_, rfl, rn_id if_u32⟩, ⟨_, rfl, rn_id if_i64⟩, trivial⟩)
            · refine sexit ?_
              refine ptx ?_
              exact sout (fun h => by cases h) (sj (hj58 _) (entR [(100, 100)] rfl (keepS hγ trivial) ⟨⟨_, rfl⟩, trivial⟩ ⟨⟨_, _, rfl, rfl, rci (rc_bx (rn_id if_L_api_Fault))⟩, trivial⟩ ⟨⟨_, rfl, rn_id if_str⟩, ⟨_, rfl, rn_id if_sli⟩, ⟨_, rfl, rn_own rfl⟩, ⟨_, rfl, rn_id if_sli⟩, ⟨_, rfl, rn_id if_i64⟩, ⟨_, rfl, rn_id if_u32⟩, ⟨_, rfl, rn_id if_u32⟩, trivial⟩))
        · intro t57
          refine sx ?_
          refine pnm ?_
          refine sreg ?_
          refine s1 (mv rfl rfl) ?_
          refine s1 (mv rfl rfl) ?_
          refine s1 (mv rfl rfl) ?_
          refine bd fun r66 h67 => ?_
          refine s1 (call0 (c_prod_Word _ h67) ⟨⟨_, rfl, rn_id if_sli⟩, ⟨_, rfl, rn_id if_u32⟩, ⟨_, rfl, rn_id if_u32⟩, trivial⟩ (if_sli) rfl) ?_
          refine s1 (asg rfl rfl) ?_
          refine snil ?_
          refine pbn ?_
          exact sgo (entR [(100, 100)] rfl (keepS hγ trivial) ⟨⟨_, rfl⟩, trivial⟩ ⟨⟨_, _, rfl, rfl, rci (rc_bx (rn_id if_L_api_Fault))⟩, trivial⟩ ⟨⟨_, rfl, rn_id if_str⟩, ⟨_, rfl, rn_id if_sli⟩, ⟨_, rfl, rn_own rfl⟩, ⟨_, rfl, rn_id if_sli⟩, ⟨_, rfl, rn_id if_i64⟩, trivial⟩)
      · refine sexit ?_
        refine ptx ?_
        exact sout (fun h => by cases h) (sj (hj48 _) (entR [(100, 100)] rfl (keepS hγ trivial) ⟨⟨_, rfl⟩, trivial⟩ ⟨⟨_, _, rfl, rfl, rci (rc_bx (rn_id if_L_api_Fault))⟩, trivial⟩ ⟨⟨_, rfl, rn_id if_sli⟩, ⟨_, rfl, rn_own rfl⟩, ⟨_, rfl, rn_id if_sli⟩, trivial⟩))
    · intro t47
      refine sx ?_
      refine pnm ?_
      refine sseq ?_
      refine sreg ?_
      refine s1 (mv rfl rfl) ?_
      refine s1 (bld (l := [i64 0, i64 0, i64 0, i64 0]) pl_37 ti_37 zr_api_Fault rfl rfl) ?_
      refine s1 (asg rfl rfl) ?_
      refine so (stB2 (ly2 := L_api_Fault (⟨0, 0, 0, 0⟩ : M_api_Fault)) [] (by exact rfl) rfl (by exact rfl) sh_37 (by exact rfl) (by exact rfl) (by exact rfl) rfl (.inr ⟨rfl, rfl, _, _, rfl⟩) rfl) ?_
      refine snil ?_
      refine pnm ?_
      refine sret ?_
      exact ret [] [.tmp 2, .cell 3 37] [_, _] [_, _] .ret hγ (.inl rfl) rfl ⟨rfl, ⟨100, _, rfl, rfl, sh_37⟩, trivial⟩ rfl trivial trivial trivial (rns_cons (rn_id if_sli) (rns_cons (rn_id if_L_api_Fault) (rns_nil))) rfl
theorem c_nat_Zero {n : Nat} {x0 : (List Nat)} : ∀ r, m_nat_Zero n x0 = some r → FnOk Tryz.prog 90 [sli 1 (List.map u32 x0)] [] (bl r) [] := by
  unfold m_nat_Zero
  refine fn_of_sq (res := fun (r : Bool) => bl r) (mo := fun (r : Bool) => []) Tryz.func90 rfl rfl (by kernel_rfl) rfl ?_
  intro w S0 γ hγ
  refine sseq ?_
  refine sreg ?_
  refine s1 (asg rfl kB) ?_
  refine snil ?_
  refine pnm ?_
  refine sseq ?_
  refine sreg ?_
  refine s1 (mv rfl rfl) ?_
  refine bd fun r1 h2 => ?_
  refine s1 (call0 (c_nat_trim _ h2) ⟨⟨_, rfl, rn_id if_sli⟩, trivial⟩ (if_sli) rfl) ?_
  refine s1 (lenL (f := u32) Tryz.underlying67 rfl rfl) ?_
  refine s1 (eqI rfl rfl (kI (x := 0) rfl)) ?_
  refine s1 (asg rfl rfl) ?_
  refine snil ?_
  refine pnm ?_
  refine sret ?_
  exact ret [] [.tmp 2] [_] [_] .ret hγ (.inl rfl) rfl ⟨rfl, trivial⟩ rfl trivial trivial trivial (rns_cons (rn_id if_bl) (rns_nil)) rfl
theorem c_limb_Div {x0 : Nat} {x1 : Nat} {x2 : Nat} : ∀ r, m_limb_Div x0 x1 x2 = some r → FnOk Tryz.prog 121 [u32 x0, u32 x1, u32 x2] [] (.tup [u32 r.1, u32 r.2.1, bl r.2.2]) [] := by
  unfold m_limb_Div
  refine fn_of_sq (res := fun (r : Nat × Nat × Bool) => .tup [u32 r.1, u32 r.2.1, bl r.2.2]) (mo := fun (r : Nat × Nat × Bool) => []) Tryz.func121 rfl rfl (by kernel_rfl) rfl ?_
  intro w S0 γ hγ
  refine sseq ?_
  refine sreg ?_
  refine s1 (asg rfl (k32 (x := 0) rfl)) ?_
  refine s1 (asg rfl (k32 (x := 0) rfl)) ?_
  refine s1 (asg rfl kB) ?_
  refine snil ?_
  refine pnm ?_
  refine sseq ?_
  refine sseq ?_
  refine sreg ?_
  refine s1 (mv rfl rfl) ?_
  refine s1 (mv rfl rfl) ?_
  refine s1 (geU .u32 rfl rfl rfl) ?_
  refine snil ?_
  refine pnm ?_
  refine scond rfl ?_ ?_
  · refine sseq ?_
    refine sreg ?_
    refine s1 (asg rfl (k32 (x := 0) rfl)) ?_
    refine s1 (asg rfl (k32 (x := 0) rfl)) ?_
    refine s1 (asg rfl kB) ?_
    refine snil ?_
    refine pnm ?_
    refine sret ?_
    refine pth ?_
    exact ret [] [.tmp 6, .tmp 7, .tmp 8] [_, _, _] [_, _, _] .ret hγ (.inl rfl) rfl ⟨rfl, rfl, rfl, trivial⟩ rfl trivial trivial trivial (rns_cons (rn_id if_u32) (rns_cons (rn_id if_u32) (rns_cons (rn_id if_bl) (rns_nil)))) rfl
  · refine sskip ?_
    refine pnm ?_
    refine sseq ?_
    refine sreg ?_
    refine s1 (mv rfl rfl) ?_
    refine s1 (cvUw uk64 uk32 rfl Tryz.underlying107 Tryz.underlying106 rfl rfl) ?_
    refine s1 (shlU uk64 rfl rfl rfl (k64 (x := 32) rfl)) ?_
    refine s1 (mv rfl rfl) ?_
    refine s1 (cvUw uk64 uk32 rfl Tryz.underlying107 Tryz.underlying106 rfl rfl) ?_
    refine s1 (orU uk64 rfl rfl rfl) ?_
    refine s1 (asg rfl rfl) ?_
    refine snil ?_
    refine pnm ?_
    refine sseq ?_
    refine bd fun _ h1 => ?_
    refine bd fun _ h2 => ?_
    refine sdraw [⟨[9], [], [(19, u64 (((x0 * 2 ^ 32) % 18446744073709551616) ||| x1))], []⟩, ⟨[2], [], [(20, u32 x2)], []⟩, ⟨[20], [], [(21, u64 x2)], []⟩, ⟨[19, 21], [], [(22, u64 ((((x0 * 2 ^ 32) % 18446744073709551616) ||| x1) / x2))], []⟩, ⟨[22], [], [(23, u32 (((((x0 * 2 ^ 32) % 18446744073709551616) ||| x1) / x2) % 4294967296))], []⟩, ⟨[9], [], [(24, u64 (((x0 * 2 ^ 32) % 18446744073709551616) ||| x1))], []⟩, ⟨[2], [], [(25, u32 x2)], []⟩, ⟨[25], [], [(26, u64 x2)], []⟩, ⟨[24, 26], [], [(27, u64 ((((x0 * 2 ^ 32) % 18446744073709551616) ||| x1) % x2))], []⟩, ⟨[27], [], [(28, u32 (((((x0 * 2 ^ 32) % 18446744073709551616) ||| x1) % x2) % 4294967296))], []⟩, ⟨[23], [], [(6, u32 (((((x0 * 2 ^ 32) % 18446744073709551616) ||| x1) / x2) % 4294967296))], []⟩, ⟨[28], [], [(7, u32 (((((x0 * 2 ^ 32) % 18446744073709551616) ||| x1) % x2) % 4294967296))], []⟩, ⟨[], [], [(8, bl true)], []⟩] fol (by kernel_rfl) ⟨fun st mm ⟨a9, _⟩ _ => og (mv rfl (a9.trans rfl)), fun st mm ⟨a2, _⟩ _ => og (mv rfl (a2.trans rfl)), fun st mm ⟨a20, _⟩ _ => og (cvUw uk64 uk32 rfl Tryz.underlying107 Tryz.underlying106 rfl (a20.trans rfl)), fun st mm ⟨a19, a21, _⟩ _ => og (quoU uk64 (nzU h1) rfl (a19.trans rfl) (a21.trans rfl)), fun st mm ⟨a22, _⟩ _ => og (cvU uk32 Tryz.underlying106 Tryz.underlying107 rfl (a22.trans rfl)), fun st mm ⟨a9, _⟩ _ => og (mv rfl (a9.trans rfl)), fun st mm ⟨a2, _⟩ _ => og (mv rfl (a2.trans rfl)), fun st mm ⟨a25, _⟩ _ => og (cvUw uk64 uk32 rfl Tryz.underlying107 Tryz.underlying106 rfl (a25.trans rfl)), fun st mm ⟨a24, a26, _⟩ _ => og (remU uk64 (nzU h2) rfl (a24.trans rfl) (a26.trans rfl)), fun st mm ⟨a27, _⟩ _ => og (cvU uk32 Tryz.underlying106 Tryz.underlying107 rfl (a27.trans rfl)), fun st mm ⟨a23, _⟩ _ => og (asg rfl (a23.trans rfl)), fun st mm ⟨a28, _⟩ _ => og (asg rfl (a28.trans rfl)), fun st mm _ _ => og (asg rfl kB), trivial⟩ ?_
    refine pnm ?_
    refine sret ?_
    exact ret [] [.tmp 6, .tmp 7, .tmp 8] [_, _, _] [_, _, _] .ret hγ (.inl rfl) rfl ⟨rfl, rfl, rfl, trivial⟩ rfl trivial trivial trivial (rns_cons (rn_id if_u32) (rns_cons (rn_id if_u32) (rns_cons (rn_id if_bl) (rns_nil)))) rfl
theorem c_quot_Word {n : Nat} {x0 : (List Nat)} {x1 : Nat} : ∀ r, m_quot_Word n x0 x1 = some r → FnOk Tryz.prog 91 [sli 1 (List.map u32 x0), u32 x1] [] (.tup [sli 1 (List.map u32 r.1), u32 r.2.1, bl r.2.2]) [] := by
  unfold m_quot_Word
  refine fn_of_sq (res := fun (r : (List Nat) × Nat × Bool) => .tup [sli 1 (List.map u32 r.1), u32 r.2.1, bl r.2.2]) (mo := fun (r : (List Nat) × Nat × Bool) => []) Tryz.func91 rfl rfl (by kernel_rfl) rfl ?_
  intro w S0 γ hγ
  refine sseq ?_
  refine sreg ?_
  refine s1 (asg rfl (kLm (k := 1) u32)) ?_
  refine s1 (asg rfl (k32 (x := 0) rfl)) ?_
  refine s1 (asg rfl kB) ?_
  refine snil ?_
  refine pnm ?_
  refine sseq ?_
  refine sseq ?_
  refine sreg ?_
  refine s1 (mv rfl rfl) ?_
  refine s1 (eqU .u32 rfl rfl (k32 (x := 0) rfl)) ?_
  refine snil ?_
  refine pnm ?_
  refine scond rfl ?_ ?_
  · refine sseq ?_
    refine sreg ?_
    refine s1 (asg rfl (kLm (k := 1) u32)) ?_
    refine s1 (asg rfl (k32 (x := 0) rfl)) ?_
    refine s1 (asg rfl kB) ?_
    refine snil ?_
    refine pnm ?_
    refine sret ?_
    refine pth ?_
    exact ret [] [.tmp 4, .tmp 5, .tmp 6] [_, _, _] [_, _, _] .ret hγ (.inl rfl) rfl ⟨rfl, rfl, rfl, trivial⟩ rfl trivial trivial trivial (rns_cons (rn_id if_sli) (rns_cons (rn_id if_u32) (rns_cons (rn_id if_bl) (rns_nil)))) rfl
  · refine sskip ?_
    refine pnm ?_
    refine sseq ?_
    refine sreg ?_
    refine s1 (mv rfl rfl) ?_
    refine s1 (lenL (f := u32) Tryz.underlying67 rfl rfl) ?_
    refine bd fun y1 h2 => ?_
    refine so (mks (y := 100) (f := u32) h2 Tryz.underlying67 ti_107 zr_u32 rfl rfl rfl rfl rfl rfl) ?_
    refine s1 (asg rfl rfl) ?_
    refine snil ?_
    refine pnm ?_
    refine sseq ?_
    refine sseq ?_
    refine sreg ?_
    refine s1 (mv rfl rfl) ?_
    refine s1 (lenL (f := u32) Tryz.underlying67 rfl rfl) ?_
    refine s1 (subI rfl rfl (kI (x := 1) rfl)) ?_
    refine s1 (asg rfl rfl) ?_
    refine snil ?_
    refine pnm ?_
    refine sblk ?_
    refine sloopE 0 (fun t => t) (fun (s20 : (List Nat) × Nat × Int) => [(0, sli 1 (List.map u32 x0)), (1, u32 x1), (4, .own 100), (5, u32 s20.2.1), (6, bl false), (7, i64 s20.2.2)]) (fun (s20 : (List Nat) × Nat × Int) => [(100, .sl 107 1 (List.map u32 s20.1))]) (fun (t18 : (List Nat) × Nat) => [(4, .own 100), (5, u32 t18.2), (6, bl false)]) (fun (t18 : (List Nat) × Nat) => [(100, .sl 107 1 (List.map u32 t18.1))]) (entR [(100, 100)] rfl (keepS hγ trivial) ⟨⟨_, rfl⟩, trivial⟩ ⟨⟨_, _, rfl, rfl, rci (rc_sl (ifs_map (f := u32) (fun _ => if_u32) y1))⟩, trivial⟩ ⟨⟨_, rfl, rn_id if_sli⟩, ⟨_, rfl, rn_id if_u32⟩, ⟨_, rfl, rn_own rfl⟩, ⟨_, rfl, rn_id if_u32⟩, ⟨_, rfl, rn_id if_bl⟩, ⟨_, rfl, rn_id if_i64⟩, trivial⟩) ?_ ?_
    · intro hj19 s20
      refine sseq ?_
      refine sseq ?_
      refine sreg ?_
      refine s1 (mv rfl rfl) ?_
      refine s1 (geI rfl rfl (kI (x := 0) rfl)) ?_
      refine snil ?_
      refine pnm ?_
      refine scond rfl ?_ ?_
      · refine sskip ?_
        refine pnm ?_
        refine sseq ?_
        refine sblk ?_
        refine sreg ?_
        refine s1 (mv rfl rfl) ?_
        refine s1 (mv rfl rfl) ?_
        refine s1 (mv rfl rfl) ?_
        refine s1 (mv rfl rfl) ?_
        refine s1 (mv rfl rfl) ?_
        refine bd fun y21 h22 => ?_
        refine s1 (ixR (f := u32) Tryz.underlying67 ti_107 h22 rfl rfl rfl) ?_
        refine s1 (ldR sh_107 (by exact rfl) (by exact rfl) rfl rfl) ?_
        refine s1 (mv rfl rfl) ?_
        refine bd fun r23 h24 => ?_
        refine s1 (call0 (c_limb_Div _ h24) ⟨⟨_, rfl, rn_id if_u32⟩, ⟨_, rfl, rn_id if_u32⟩, ⟨_, rfl, rn_id if_u32⟩, trivial⟩ (if_tup (ifs_cons if_u32 (ifs_cons if_u32 (ifs_cons if_bl (ifs_nil))))) rfl) ?_
        refine s1 (mv rfl rfl) ?_
        refine s1 (ext (by exact rfl) rfl rfl) ?_
        refine s1 (ext (by exact rfl) rfl rfl) ?_
        refine s1 (ext (by exact rfl) rfl rfl) ?_
        refine bd fun y25 h26 => ?_
        refine s1 (ixO (f := u32) rfl Tryz.underlying67 ti_107 h26 rfl rfl rfl) ?_
        refine so (stO (f := u32) r23.1 [] rfl (getI_ix h26) (by exact rfl) (by exact rfl) (by exact rfl) (by exact rfl) sh_107 (by exact rfl) (by exact rfl) (by exact rfl) rfl rfl) ?_
        refine s1 (asg rfl rfl) ?_
        refine snil ?_
        refine pbn ?_
        refine pnm ?_
        refine sreg ?_
        refine s1 (mv rfl rfl) ?_
        refine s1 (subI rfl rfl (kI (x := 1) rfl)) ?_
        refine s1 (asg rfl rfl) ?_
        refine snil ?_
        exact sgo (entR [(100, 100)] rfl (keepS hγ trivial) ⟨⟨_, rfl⟩, trivial⟩ ⟨⟨_, _, rfl, rfl, rci (rc_sl (ifs_map (f := u32) (fun _ => if_u32) (List.set s20.1 (Int.toNat s20.2.2) r23.1)))⟩, trivial⟩ ⟨⟨_, rfl, rn_id if_sli⟩, ⟨_, rfl, rn_id if_u32⟩, ⟨_, rfl, rn_own rfl⟩, ⟨_, rfl, rn_id if_u32⟩, ⟨_, rfl, rn_id if_bl⟩, ⟨_, rfl, rn_id if_i64⟩, trivial⟩)
      · refine sexit ?_
        refine ptx ?_
        exact sout (fun h => by cases h) (sj (hj19 _) (entR [(100, 100)] rfl (keepS hγ trivial) ⟨⟨_, rfl⟩, trivial⟩ ⟨⟨_, _, rfl, rfl, rci (rc_sl (ifs_map (f := u32) (fun _ => if_u32) s20.1))⟩, trivial⟩ ⟨⟨_, rfl, rn_own rfl⟩, ⟨_, rfl, rn_id if_u32⟩, ⟨_, rfl, rn_id if_bl⟩, trivial⟩))
    · intro t18
      refine sx ?_
      refine pnm ?_
      refine sseq ?_
      refine sreg ?_
      refine s1 (mv rfl rfl) ?_
      refine bd fun r27 h28 => ?_
      refine so (callL (em := [(101, .sl 107 1 (List.map u32 r27))]) (res' := .own 101) [100] [] [(101, 50)] [(101, 50)] rfl (c_nat_Norm _ h28) ⟨pls_map (f := u32) (fun _ => pl_u32) _, trivial⟩ (pl_own) ⟨.inr ⟨100, rfl, .inl ⟨rfl, .inl ⟨_, _, _, rfl, ifs_map (f := u32) (fun _ => if_u32) t18.1, rfl⟩⟩⟩, trivial⟩ (MiF.get (mi := []) trivial) trivial rfl ⟨rfl, trivial⟩ ⟨.inl rfl, trivial⟩ rfl ⟨.inl ⟨_, _, rfl, rfl, rc_sl (ifs_map (f := u32) (fun _ => if_u32) r27)⟩, trivial⟩ trivial ⟨⟨_, rfl⟩, trivial⟩ (rn_own rfl) rfl) ?_
      refine s1 (mv rfl rfl) ?_
      refine s1 (asg rfl rfl) ?_
      refine s1 (asg rfl rfl) ?_
      refine s1 (asg rfl kB) ?_
      refine snil ?_
      refine pnm ?_
      refine sret ?_
      refine frz (id := 101) [(4, sli 1 (List.map u32 r27)), (35, sli 1 (List.map u32 r27))] [] rfl (ifs_map (f := u32) (fun _ => if_u32) r27) ⟨⟨_, rfl, fz_own⟩, ⟨_, rfl, fz_own⟩, trivial⟩ trivial ?_
      exact ret [] [.tmp 4, .tmp 5, .tmp 6] [_, _, _] [_, _, _] .ret hγ (.inl rfl) rfl ⟨rfl, rfl, rfl, trivial⟩ rfl trivial trivial trivial (rns_cons (rn_id if_sli) (rns_cons (rn_id if_u32) (rns_cons (rn_id if_bl) (rns_nil)))) rfl
theorem c_digits_nine {n : Nat} {x0 : Nat} : ∀ r, m_digits_nine n x0 = some r → FnOk Tryz.prog 92 [u32 x0] [] (str r) [] := by
  unfold m_digits_nine
  refine fn_of_sq (res := fun (r : (List UInt8)) => str r) (mo := fun (r : (List UInt8)) => []) Tryz.func92 rfl rfl (by kernel_rfl) rfl ?_
  intro w S0 γ hγ
  refine sseq ?_
  refine sreg ?_
  refine s1 (asg rfl (kS (s := []) rfl)) ?_
  refine snil ?_
  refine pnm ?_
  refine sseq ?_
  refine sreg ?_
  refine so (al (y := 100) (ly := L_A9_u8 (⟨0, 0, 0, 0, 0, 0, 0, 0, 0⟩ : M_A9_u8)) ti_165 zr_A9_u8 rfl rfl) ?_
  refine snil ?_
  refine pnm ?_
  refine sseq ?_
  refine sseq ?_
  refine sreg ?_
  refine s1 (asg rfl (kI (x := 8) rfl)) ?_
  refine snil ?_
  refine pnm ?_
  refine sblk ?_
  refine sloopE 0 (fun t => t) (fun (s7 : Nat × M_A9_u8 × Int) => [(0, u32 s7.1), (2, str ([] : List UInt8)), (3, .own 100), (4, i64 s7.2.2)]) (fun (s7 : Nat × M_A9_u8 × Int) => [(100, .bx 165 (L_A9_u8 s7.2.1))]) (fun (t5 : M_A9_u8) => [(2, str ([] : List UInt8)), (3, .own 100)]) (fun (t5 : M_A9_u8) => [(100, .bx 165 (L_A9_u8 t5))]) (entR [(100, 100)] rfl (keepS hγ trivial) ⟨⟨_, rfl⟩, trivial⟩ ⟨⟨_, _, rfl, rfl, rci (rc_bx (rn_id if_L_A9_u8))⟩, trivial⟩ ⟨⟨_, rfl, rn_id if_u32⟩, ⟨_, rfl, rn_id if_str⟩, ⟨_, rfl, rn_own rfl⟩, ⟨_, rfl, rn_id if_i64⟩, trivial⟩) ?_ ?_
  · intro hj6 s7
    refine sseq ?_
    refine sseq ?_
    refine sreg ?_
    refine s1 (mv rfl rfl) ?_
    refine s1 (geI rfl rfl (kI (x := 0) rfl)) ?_
    refine snil ?_
    refine pnm ?_
    refine scond rfl ?_ ?_
    · refine sskip ?_
      refine pnm ?_
      refine sseq ?_
      refine sblk ?_
      refine sseq ?_
      refine sreg ?_
      refine s1 (mv rfl rfl) ?_
      refine s1 (mv rfl rfl) ?_
      refine s1 (remU uk32 rfl rfl rfl (k32 (x := 10) rfl)) ?_
      refine s1 (addU uk32 rfl (k32 (x := 48) rfl) rfl) ?_
      refine s1 (cvU uk8 Tryz.underlying107 Tryz.underlying5 rfl rfl) ?_
      refine bd fun y8 h9 => ?_
      refine s1 (ixAO Tryz.underlying165 ti_5 (getI_dec (n := 9) rfl h9) (.inr ⟨rfl, rfl, _, _, rfl⟩) rfl rfl rfl) ?_
      refine so (stB2 (ly := .agg (List.map u8 ([s7.2.1.a0, s7.2.1.a1, s7.2.1.a2, s7.2.1.a3, s7.2.1.a4, s7.2.1.a5, s7.2.1.a6, s7.2.1.a7, s7.2.1.a8] : List Nat))) (ly2 := L_A9_u8 (ofl_A9_u8 (List.set ([s7.2.1.a0, s7.2.1.a1, s7.2.1.a2, s7.2.1.a3, s7.2.1.a4, s7.2.1.a5, s7.2.1.a6, s7.2.1.a7, s7.2.1.a8] : List Nat) (Int.toNat s7.2.2) (((48 + (s7.1 % 10)) % 4294967296) % 256)))) (ln := u8 (((48 + (s7.1 % 10)) % 4294967296) % 256)) [Int.toNat s7.2.2] (puA0 (f := u8) h9 (ofl_ok_A9_u8 _ (List.length_set.trans rfl))) rfl (goA0 (f := u8) (fun _ => rfl) h9) sh_5 (by exact rfl) (by exact rfl) (by exact rfl) rfl (.inl rfl) rfl) ?_
      refine snil ?_
      refine pnm ?_
      refine sreg ?_
      refine s1 (mv rfl rfl) ?_
      refine s1 (quoU uk32 rfl rfl rfl (k32 (x := 10) rfl)) ?_
      refine s1 (asg rfl rfl) ?_
      refine snil ?_
      refine pbn ?_
      refine pnm ?_
      refine sreg ?_
      refine s1 (mv rfl rfl) ?_
      refine s1 (subI rfl rfl (kI (x := 1) rfl)) ?_
      refine s1 (asg rfl rfl) ?_
      refine snil ?_
      exact sgo (entR [(100, 100)] rfl (keepS hγ trivial) ⟨⟨_, rfl⟩, trivial⟩ ⟨⟨_, _, rfl, rfl, rci (rc_bx (rn_id if_L_A9_u8))⟩, trivial⟩ ⟨⟨_, rfl, rn_id if_u32⟩, ⟨_, rfl, rn_id if_str⟩, ⟨_, rfl, rn_own rfl⟩, ⟨_, rfl, rn_id if_i64⟩, trivial⟩)
    · refine sexit ?_
      refine ptx ?_
      exact sout (fun h => by cases h) (sj (hj6 _) (entR [(100, 100)] rfl (keepS hγ trivial) ⟨⟨_, rfl⟩, trivial⟩ ⟨⟨_, _, rfl, rfl, rci (rc_bx (rn_id if_L_A9_u8))⟩, trivial⟩ ⟨⟨_, rfl, rn_id if_str⟩, ⟨_, rfl, rn_own rfl⟩, trivial⟩))
  · intro t5
    refine sx ?_
    refine pnm ?_
    refine sseq ?_
    refine sreg ?_
    refine so (slA (f := u8) (xs := ([t5.a0, t5.a1, t5.a2, t5.a3, t5.a4, t5.a5, t5.a6, t5.a7, t5.a8] : List Nat)) Tryz.underlying165 ti_5 rfl rfl rfl (fun _ => if_u8) (fun _ => rfl) rfl rfl) ?_
    refine sbn (F := (fun x => sli 1 (List.map u8 x))) 17 rfl fun z10 => ?_
    refine s1 (cvBS Tryz.underlying50 Tryz.underlying5 Tryz.underlying9 rfl rfl) ?_
    refine s1 (asg rfl rfl) ?_
    refine snil ?_
    refine pnm ?_
    refine sret ?_
    exact ret [] [.tmp 2] [_] [_] .ret hγ (.inl rfl) rfl ⟨rfl, trivial⟩ rfl trivial trivial trivial (rns_cons (rn_id if_str) (rns_nil)) rfl
theorem c_digits_Text {n : Nat} {x0 : (List Nat)} : ∀ r, m_digits_Text n x0 = some r → FnOk Tryz.prog 63 [sli 1 (List.map u32 x0)] [] (str r) [] := by
  unfold m_digits_Text
  refine fn_of_sq (res := fun (r : (List UInt8)) => str r) (mo := fun (r : (List UInt8)) => []) Tryz.func63 rfl rfl (by kernel_rfl) rfl ?_
  intro w S0 γ hγ
  refine sseq ?_
  refine sreg ?_
  refine s1 (asg rfl (kS (s := []) rfl)) ?_
  refine snil ?_
  refine pnm ?_
  refine sseq ?_
  refine sseq ?_
  refine sreg ?_
  refine s1 (mv rfl rfl) ?_
  refine bd fun r1 h2 => ?_
  refine s1 (call0 (c_nat_Zero _ h2) ⟨⟨_, rfl, rn_id if_sli⟩, trivial⟩ (if_bl) rfl) ?_
  refine snil ?_
  refine pnm ?_
  refine scond rfl ?_ ?_
  · refine sseq ?_
    refine sreg ?_
    refine s1 (asg rfl (kS (s := [48]) rfl)) ?_
    refine snil ?_
    refine pnm ?_
    refine sret ?_
    refine pth ?_
    exact ret [] [.tmp 2] [_] [_] .ret hγ (.inl rfl) rfl ⟨rfl, trivial⟩ rfl trivial trivial trivial (rns_cons (rn_id if_str) (rns_nil)) rfl
  · refine sskip ?_
    refine pnm ?_
    refine sseq ?_
    refine sreg ?_
    refine so (asgN (y := 100) (E := 9) (k := 1) rfl rfl) ?_
    refine snil ?_
    refine pnm ?_
    refine sseq ?_
    refine sblk ?_
    refine sloopE 0 (fun t => t) (fun (s23 : (List Nat) × (List (List UInt8))) => [(0, sli 1 (List.map u32 s23.1)), (2, str ([] : List UInt8)), (3, .own 100)]) (fun (s23 : (List Nat) × (List (List UInt8))) => [(100, .sl 9 1 (List.map str s23.2))]) (fun (t21 : (List (List UInt8))) => [(2, str ([] : List UInt8)), (3, .own 100)]) (fun (t21 : (List (List UInt8))) => [(100, .sl 9 1 (List.map str t21))]) (entR [(100, 100)] rfl (keepS hγ trivial) ⟨⟨_, rfl⟩, trivial⟩ ⟨⟨_, _, rfl, rfl, rci (rc_sl (ifs_map (f := str) (fun _ => if_str) ([] : List (List UInt8))))⟩, trivial⟩ ⟨⟨_, rfl, rn_id if_sli⟩, ⟨_, rfl, rn_id if_str⟩, ⟨_, rfl, rn_own rfl⟩, trivial⟩) ?_ ?_
    · intro hj22 s23
      refine sseq ?_
      refine sseq ?_
      refine sreg ?_
      refine s1 (mv rfl rfl) ?_
      refine bd fun r24 h25 => ?_
      refine s1 (call0 (c_nat_Zero _ h25) ⟨⟨_, rfl, rn_id if_sli⟩, trivial⟩ (if_bl) rfl) ?_
      refine s1 (notB rfl rfl) ?_
      refine snil ?_
      refine pnm ?_
      refine scond rfl ?_ ?_
      · refine sskip ?_
        refine pnm ?_
        refine sblk ?_
        refine sseq ?_
        refine sreg ?_
        refine s1 (mv rfl rfl) ?_
        refine bd fun r26 h27 => ?_
        refine s1 (call0 (c_quot_Word _ h27) ⟨⟨_, rfl, rn_id if_sli⟩, ⟨_, (k32 (x := 1000000000) rfl), rn_id if_u32⟩, trivial⟩ (if_tup (ifs_cons if_sli (ifs_cons if_u32 (ifs_cons if_bl (ifs_nil))))) rfl) ?_
        refine s1 (mv rfl rfl) ?_
        refine s1 (ext (by exact rfl) rfl rfl) ?_
        refine s1 (ext (by exact rfl) rfl rfl) ?_
        refine s1 (ext (by exact rfl) rfl rfl) ?_
        refine s1 (asg rfl rfl) ?_
        refine s1 (asg rfl rfl) ?_
        refine s1 (asg rfl rfl) ?_
        refine snil ?_
        refine pnm ?_
        refine sseq ?_
        refine sreg ?_
        refine s1 (mv rfl rfl) ?_
        refine s1 (mv rfl rfl) ?_
        refine bd fun r28 h29 => ?_
        refine s1 (call0 (c_digits_nine _ h29) ⟨⟨_, rfl, rn_id if_u32⟩, trivial⟩ (if_str) rfl) ?_
        refine so (bsl (y := 101) (ls := List.map str ([r28] : List (List UInt8))) Tryz.underlying60 ti_9 rfl rfl rfl rfl rfl ⟨rfl, rfl, (by exact rfl), (by exact rfl), trivial⟩ rfl rfl) ?_
        refine bd fun y30 h31 => ?_
        refine so (app (y := 102) (f := str) h31 rfl Tryz.underlying60 ti_9 rfl rfl rfl rfl (.inr ⟨_, _, rfl, rfl⟩) rfl rfl) ?_
        refine s1 (asg rfl rfl) ?_
        refine snil ?_
        refine pnm ?_
        refine sreg ?_
        refine s1 (mv rfl rfl) ?_
        refine s1 (asg rfl rfl) ?_
        refine snil ?_
        refine pbn ?_
        exact sgo (entR [(100, 102)] rfl (keepS hγ trivial) ⟨⟨_, rfl⟩, trivial⟩ ⟨⟨_, _, rfl, rfl, rci (rc_sl (ifs_map (f := str) (fun _ => if_str) y30))⟩, trivial⟩ ⟨⟨_, rfl, rn_id if_sli⟩, ⟨_, rfl, rn_id if_str⟩, ⟨_, rfl, rn_own rfl⟩, trivial⟩)
      · refine sexit ?_
        refine ptx ?_
        exact sout (fun h => by cases h) (sj (hj22 _) (entR [(100, 100)] rfl (keepS hγ trivial) ⟨⟨_, rfl⟩, trivial⟩ ⟨⟨_, _, rfl, rfl, rci (rc_sl (ifs_map (f := str) (fun _ => if_str) s23.2))⟩, trivial⟩ ⟨⟨_, rfl, rn_id if_str⟩, ⟨_, rfl, rn_own rfl⟩, trivial⟩))
    · intro t21
      refine sx ?_
      refine pnm ?_
      refine sseq ?_
      refine sreg ?_
      refine so (alOw (y := 101) (ly := .agg [.por 101, .own 102]) [(102, 5, 1)] ti_52 (zo_agg (zos_cons (c1 := [.pointer none]) zo_por (zos_cons (c1 := [.slice none 0 0]) (zo_own rfl) zos_nil))) ⟨rfl, trivial⟩ rfl rfl rfl) ?_
      refine snil ?_
      refine pnm ?_
      refine sseq ?_
      refine sseq ?_
      refine sreg ?_
      refine s1 (mv rfl rfl) ?_
      refine s1 (lenO (f := str) Tryz.underlying60 rfl rfl rfl) ?_
      refine s1 (subI rfl rfl (kI (x := 1) rfl)) ?_
      refine s1 (asg rfl rfl) ?_
      refine snil ?_
      refine pnm ?_
      refine sblk ?_
      refine sloopE 2 (fun t => t) (fun (s44 : (List UInt8) × Int) => [(2, str ([] : List UInt8)), (3, .own 100), (7, .own 101), (8, i64 s44.2)]) (fun (s44 : (List UInt8) × Int) => [(100, .sl 9 1 (List.map str t21)), (101, .bx 52 (.agg [.por 101, .own 102])), (102, .sl 5 1 (List.map ub s44.1))]) (fun (t42 : (List UInt8)) => [(2, str ([] : List UInt8)), (7, .own 101)]) (fun (t42 : (List UInt8)) => [(101, .bx 52 (.agg [.por 101, .own 102])), (102, .sl 5 1 (List.map ub t42))]) (entR [(100, 100), (101, 101), (102, 102)] rfl (keepS hγ trivial) ⟨⟨_, rfl⟩, ⟨_, rfl⟩, ⟨_, rfl⟩, trivial⟩ ⟨⟨_, _, rfl, rfl, rci (rc_sl (ifs_map (f := str) (fun _ => if_str) t21))⟩, ⟨_, _, rfl, rfl, rci (rc_bx (rn_agg (rns_cons (rn_por rfl) (rns_cons (rn_own rfl) (rns_nil)))))⟩, ⟨_, _, rfl, rfl, rci (rc_sl (ifs_map (f := ub) (fun _ => if_ub) ([] : List UInt8)))⟩, trivial⟩ ⟨⟨_, rfl, rn_id if_str⟩, ⟨_, rfl, rn_own rfl⟩, ⟨_, rfl, rn_own rfl⟩, ⟨_, rfl, rn_id if_i64⟩, trivial⟩) ?_ ?_
      · intro hj43 s44
        refine sseq ?_
        refine sseq ?_
        refine sreg ?_
        refine s1 (mv rfl rfl) ?_
        refine s1 (geI rfl rfl (kI (x := 0) rfl)) ?_
        refine snil ?_
        refine pnm ?_
        refine scond rfl ?_ ?_
        · refine sskip ?_
          refine pnm ?_
          refine sseq ?_
          refine sblk ?_
          refine sreg ?_
          refine s1 (mv rfl rfl) ?_
          refine s1 (mv rfl rfl) ?_
          refine bd fun y45 h46 => ?_
          refine s1 (ixO (f := str) rfl Tryz.underlying60 ti_9 h46 rfl rfl rfl) ?_
          refine s1 (ldO (f := str) [] rfl (getI_ix h46) (by exact rfl) (by exact rfl) sh_9 (by exact rfl) (by exact rfl) rfl rfl) ?_
          refine bd fun y47 h48 => ?_
          refine so (callG (em := [(103, .sl 5 1 (List.map ub y47)), (101, .bx 52 (.agg [.por 101, .own 103])), (102, .gone)]) (res' := .tup [i64 (y45.length : Int), nilI]) [(0, 101), (1, 102)] [(103, 52)] [(103, 52), (101, 0)] (ws_ok' h48) ⟨⟨_, rfl, rn_own rfl⟩, ⟨_, rfl, rn_id if_str⟩, trivial⟩ (MiF.get (mi := [(0, _), (1, _)]) ⟨⟨_, _, rfl, rfl, rc_bx (rn_agg (rns_cons (rn_por rfl) (rns_cons (rn_own rfl) rns_nil)))⟩, ⟨_, _, rfl, rfl, rc_sl (ifs_map (f := ub) (fun _ => if_ub) s44.1)⟩, trivial⟩) ⟨⟨_, rfl⟩, ⟨_, rfl⟩, trivial⟩ rfl ⟨rfl, trivial⟩ ⟨.inl rfl, .inr rfl, trivial⟩ rfl ⟨.inl ⟨_, _, rfl, rfl, rc_sl (ifs_map (f := ub) (fun _ => if_ub) y47)⟩, .inl ⟨_, _, rfl, rfl, rc_bx (rn_agg (rns_cons (rn_por rfl) (rns_cons (rn_own rfl) rns_nil)))⟩, .inr ⟨rfl, 1, .tail _ (.head _)⟩, trivial⟩ ⟨⟨_, rfl⟩, ⟨_, rfl⟩, trivial⟩ ⟨⟨_, rfl⟩, trivial⟩ (rn_tup (rns_cons (rn_id if_i64) (rns_cons (rn_id if_nilI) rns_nil))) rfl) ?_
          refine snil ?_
          refine pbn ?_
          refine pnm ?_
          refine sreg ?_
          refine s1 (mv rfl rfl) ?_
          refine s1 (subI rfl rfl (kI (x := 1) rfl)) ?_
          refine s1 (asg rfl rfl) ?_
          refine snil ?_
          exact sgo (entR [(100, 100), (101, 101), (102, 103)] rfl (keepS hγ trivial) ⟨⟨_, rfl⟩, ⟨_, rfl⟩, ⟨_, rfl⟩, trivial⟩ ⟨⟨_, _, rfl, rfl, rci (rc_sl (ifs_map (f := str) (fun _ => if_str) t21))⟩, ⟨_, _, rfl, rfl, rci (rc_bx (rn_agg (rns_cons (rn_por rfl) (rns_cons (rn_own rfl) (rns_nil)))))⟩, ⟨_, _, rfl, rfl, rci (rc_sl (ifs_map (f := ub) (fun _ => if_ub) y47))⟩, trivial⟩ ⟨⟨_, rfl, rn_id if_str⟩, ⟨_, rfl, rn_own rfl⟩, ⟨_, rfl, rn_own rfl⟩, ⟨_, rfl, rn_id if_i64⟩, trivial⟩)
        · refine sexit ?_
          refine ptx ?_
          exact sout (fun h => by cases h) (sj (hj43 _) (entR [(101, 101), (102, 102)] rfl (keepS hγ trivial) ⟨⟨_, rfl⟩, ⟨_, rfl⟩, trivial⟩ ⟨⟨_, _, rfl, rfl, rci (rc_bx (rn_agg (rns_cons (rn_por rfl) (rns_cons (rn_own rfl) (rns_nil)))))⟩, ⟨_, _, rfl, rfl, rci (rc_sl (ifs_map (f := ub) (fun _ => if_ub) s44.1))⟩, trivial⟩ ⟨⟨_, rfl, rn_id if_str⟩, ⟨_, rfl, rn_own rfl⟩, trivial⟩))
      · intro t42
        refine sx ?_
        refine pnm ?_
        refine sseq ?_
        refine sreg ?_
        refine so (strOp (id := 101) (id2 := 102) rfl rfl rfl rfl rfl) ?_
        refine bd fun r49 h50 => ?_
        refine s1 (call0 (c_strings_TrimLeft _ h50) ⟨⟨_, rfl, rn_id if_str⟩, ⟨_, (kS (s := [48]) rfl), rn_id if_str⟩, trivial⟩ (if_str) rfl) ?_
        refine s1 (asg rfl rfl) ?_
        refine snil ?_
        refine pnm ?_
        refine sret ?_
        exact ret [] [.tmp 2] [_] [_] .ret hγ (.inl rfl) rfl ⟨rfl, trivial⟩ rfl trivial trivial trivial (rns_cons (rn_id if_str) (rns_nil)) rfl
theorem c_nat_Small {n : Nat} {x0 : (List Nat)} : ∀ r, m_nat_Small n x0 = some r → FnOk Tryz.prog 64 [sli 1 (List.map u32 x0)] [] (.tup [u64 r.1, bl r.2]) [] := by
  unfold m_nat_Small
  refine fn_of_sq (res := fun (r : Nat × Bool) => .tup [u64 r.1, bl r.2]) (mo := fun (r : Nat × Bool) => []) Tryz.func64 rfl rfl (by kernel_rfl) rfl ?_
  intro w S0 γ hγ
  refine sseq ?_
  refine sreg ?_
  refine s1 (asg rfl (k64 (x := 0) rfl)) ?_
  refine s1 (asg rfl kB) ?_
  refine snil ?_
  refine pnm ?_
  refine sseq ?_
  refine sreg ?_
  refine s1 (mv rfl rfl) ?_
  refine bd fun r1 h2 => ?_
  refine s1 (call0 (c_nat_trim _ h2) ⟨⟨_, rfl, rn_id if_sli⟩, trivial⟩ (if_sli) rfl) ?_
  refine s1 (asg rfl rfl) ?_
  refine snil ?_
  refine pnm ?_
  refine sseq ?_
  refine sseq ?_
  refine sreg ?_
  refine s1 (mv rfl rfl) ?_
  refine s1 (lenL (f := u32) Tryz.underlying67 rfl rfl) ?_
  refine s1 (gtI rfl rfl (kI (x := 2) rfl)) ?_
  refine snil ?_
  refine pnm ?_
  refine scond rfl ?_ ?_
  · refine sseq ?_
    refine sreg ?_
    refine s1 (asg rfl (k64 (x := 0) rfl)) ?_
    refine s1 (asg rfl kB) ?_
    refine snil ?_
    refine pnm ?_
    refine sret ?_
    refine pth ?_
    exact ret [] [.tmp 2, .tmp 3] [_, _] [_, _] .ret hγ (.inl rfl) rfl ⟨rfl, rfl, trivial⟩ rfl trivial trivial trivial (rns_cons (rn_id if_u64) (rns_cons (rn_id if_bl) (rns_nil))) rfl
  · refine sskip ?_
    refine pnm ?_
    refine sseq ?_
    refine sreg ?_
    refine s1 (asg rfl (k64 (x := 0) rfl)) ?_
    refine snil ?_
    refine pnm ?_
    refine sseq ?_
    refine sseq ?_
    refine sreg ?_
    refine s1 (mv rfl rfl) ?_
    refine s1 (lenL (f := u32) Tryz.underlying67 rfl rfl) ?_
    refine s1 (mv rfl (kI (x := 0) rfl)) ?_
    refine snil ?_
    refine pnm ?_
    refine sblk ?_
    refine srangeN (fun (s16 : Nat) => [(2, u64 0), (3, bl false), (4, u64 s16), (12, sli 1 (List.map u32 r1))]) (fun (s16 : Nat) => []) rfl (fun _ => rfl) (entI ⟨rfl, rfl, rfl, rfl, rfl, rfl, trivial⟩ eqm0) ?_ ?_
    · intro i17 x18 s16 hx19
      refine sblk ?_
      refine sseq ?_
      refine sreg ?_
      refine s1 (mv rfl rfl) ?_
      refine s1 (ixR (f := u32) Tryz.underlying67 ti_107 (getI_nat hx19) rfl rfl rfl) ?_
      refine s1 (ldR sh_107 (by exact rfl) (by exact rfl) rfl rfl) ?_
      refine s1 (asg rfl rfl) ?_
      refine s1 (asg rfl rfl) ?_
      refine snil ?_
      refine pnm ?_
      refine sreg ?_
      refine s1 (mv rfl rfl) ?_
      refine s1 (mv rfl rfl) ?_
      refine s1 (cvUw uk64 uk32 rfl Tryz.underlying107 Tryz.underlying106 rfl rfl) ?_
      refine s1 (mv rfl rfl) ?_
      refine s1 (mulI rfl (kI (x := 32) rfl) rfl) ?_
      refine bd fun _ h20 => ?_
      refine s1 (shlU uk64 (ge0 h20) rfl rfl rfl) ?_
      refine sbn (F := u64) 24 rfl fun z21 => ?_
      refine s1 (orU uk64 rfl rfl rfl) ?_
      refine s1 (asg rfl rfl) ?_
      refine snil ?_
      refine pbn ?_
      exact sgo (entI ⟨rfl, rfl, rfl, rfl, rfl, rfl, trivial⟩ eqm0)
    · intro s22
      refine sx ?_
      refine pnm ?_
      refine sseq ?_
      refine sreg ?_
      refine s1 (mv rfl rfl) ?_
      refine s1 (asg rfl rfl) ?_
      refine s1 (asg rfl kB) ?_
      refine snil ?_
      refine pnm ?_
      refine sret ?_
      exact ret [] [.tmp 2, .tmp 3] [_, _] [_, _] .ret hγ (.inl rfl) rfl ⟨rfl, rfl, trivial⟩ rfl trivial trivial trivial (rns_cons (rn_id if_u64) (rns_cons (rn_id if_bl) (rns_nil))) rfl
theorem c_wire_length {n : Nat} {x0 : (List UInt8)} : ∀ r, m_wire_length n x0 = some r → FnOk Tryz.prog 45 [str x0] [] (i64 r) [] := by
  unfold m_wire_length
  refine fn_of_sq (res := fun (r : Int) => i64 r) (mo := fun (r : Int) => []) Tryz.func45 rfl rfl (by kernel_rfl) rfl ?_
  intro w S0 γ hγ
  refine sseq ?_
  refine sreg ?_
  refine s1 (asg rfl (kI (x := 0) rfl)) ?_
  refine snil ?_
  refine pnm ?_
  refine sseq ?_
  refine sreg ?_
  refine s1 (mv rfl rfl) ?_
  refine bd fun r1 h2 => ?_
  refine s1 (call0 (c_digits_Read _ h2) ⟨⟨_, rfl, rn_id if_str⟩, trivial⟩ (if_tup (ifs_cons if_sli (ifs_cons if_L_api_Fault (ifs_nil)))) rfl) ?_
  refine s1 (mv rfl rfl) ?_
  refine s1 (ext (by exact rfl) rfl rfl) ?_
  refine s1 (ext (by exact rfl) rfl rfl) ?_
  refine so (al (y := 100) (ly := L_api_Fault (⟨0, 0, 0, 0⟩ : M_api_Fault)) ti_37 zr_api_Fault rfl rfl) ?_
  refine s1 (asg rfl rfl) ?_
  refine so (stB2 (ly2 := L_api_Fault r1.2) [] (by exact rfl) rfl (by exact rfl) sh_37 (by exact rfl) (by exact rfl) (by exact rfl) rfl (.inr ⟨rfl, rfl, _, _, rfl⟩) rfl) ?_
  refine snil ?_
  refine pnm ?_
  refine sseq ?_
  refine sjq (fun (s7 : Bool) => [(2, i64 (0 : Int)), (3, sli 1 (List.map u32 r1.1)), (25, bl s7)]) (fun (s7 : Bool) => []) ?_ ?_
  · intro j5 hj6
    refine sreg ?_
    refine s1 (ldB [] rfl rfl sh_37 (by exact rfl) (by exact rfl) rfl rfl (.inr ⟨rfl, rfl, _, _, rfl⟩)) ?_
    refine s1 (bld (l := [i64 0, i64 0, i64 0, i64 0]) pl_37 ti_37 zr_api_Fault rfl rfl) ?_
    refine s1 (neA (p := (r1.2 : M_api_Fault)) (q := ((⟨0, 0, 0, 0⟩ : M_api_Fault) : M_api_Fault)) eq_37_2 rfl eg_37 rfl rfl rfl) ?_
    refine s1 (mv rfl rfl) ?_
    refine sifd 15 rfl ?_ ?_
    · refine spB 15 rfl rfl rfl ?_
      refine spB 15 rfl rfl rfl ?_
      refine spB 15 rfl rfl rfl ?_
      refine s1 (pickT rfl rfl kB) ?_
      refine s1 (mv rfl rfl) ?_
      refine spB 20 rfl rfl rfl ?_
      refine spB 20 rfl rfl rfl ?_
      refine spB 20 rfl rfl rfl ?_
      refine spB 20 rfl rfl rfl ?_
      refine s1 (pickT rfl rfl kB) ?_
      refine snil ?_
      refine pnm ?_
      exact sj (hj6 _) (entR [] rfl (keepS hγ trivial) (by exact trivial) (by exact trivial) ⟨⟨_, rfl, rn_id if_i64⟩, ⟨_, rfl, rn_id if_sli⟩, ⟨_, rfl, rn_id if_bl⟩, trivial⟩)
    · refine sg 15 rfl rfl (mv rfl rfl) ?_
      refine sg 15 rfl rfl (lenS Tryz.underlying9 rfl rfl) ?_
      refine sg 15 rfl rfl (gtI rfl rfl (kI (x := 5) rfl)) ?_
      refine s1 (pickF rfl rfl rfl) ?_
      refine s1 (mv rfl rfl) ?_
      refine sifd 20 rfl ?_ ?_
      · refine spB 20 rfl rfl rfl ?_
        refine spB 20 rfl rfl rfl ?_
        refine spB 20 rfl rfl rfl ?_
        refine spB 20 rfl rfl rfl ?_
        refine s1 (pickT rfl rfl kB) ?_
        refine snil ?_
        refine pnm ?_
        exact sj (hj6 _) (entR [] rfl (keepS hγ trivial) (by exact trivial) (by exact trivial) ⟨⟨_, rfl, rn_id if_i64⟩, ⟨_, rfl, rn_id if_sli⟩, ⟨_, rfl, rn_id if_bl⟩, trivial⟩)
      · refine sg 20 rfl rfl (mv rfl rfl) ?_
        refine bd fun r8 h9 => ?_
        refine sg 20 rfl rfl (call0 (c_digits_Text _ h9) ⟨⟨_, rfl, rn_id if_sli⟩, trivial⟩ (if_str) rfl) ?_
        refine sg 20 rfl rfl (mv rfl rfl) ?_
        refine sg 20 rfl rfl (neS rfl rfl rfl) ?_
        refine s1 (pickF rfl rfl rfl) ?_
        refine snil ?_
        refine pnm ?_
        exact sj (hj6 _) (entR [] rfl (keepS hγ trivial) (by exact trivial) (by exact trivial) ⟨⟨_, rfl, rn_id if_i64⟩, ⟨_, rfl, rn_id if_sli⟩, ⟨_, rfl, rn_id if_bl⟩, trivial⟩)
  · intro s7
    refine scond rfl ?_ ?_
    · refine sseq ?_
      refine sreg ?_
      refine s1 (asg rfl (kI (x := (-1)) rfl)) ?_
      refine snil ?_
      refine pnm ?_
      refine sret ?_
      refine pth ?_
      exact ret [] [.tmp 2] [_] [_] .ret hγ (.inl rfl) rfl ⟨rfl, trivial⟩ rfl trivial trivial trivial (rns_cons (rn_id if_i64) (rns_nil)) rfl
    · refine sskip ?_
      refine pnm ?_
      refine sseq ?_
      refine sreg ?_
      refine s1 (mv rfl rfl) ?_
      refine bd fun r10 h11 => ?_
      refine s1 (call0 (c_nat_Small _ h11) ⟨⟨_, rfl, rn_id if_sli⟩, trivial⟩ (if_tup (ifs_cons if_u64 (ifs_cons if_bl (ifs_nil)))) rfl) ?_
      refine s1 (mv rfl rfl) ?_
      refine s1 (ext (by exact rfl) rfl rfl) ?_
      refine s1 (ext (by exact rfl) rfl rfl) ?_
      refine s1 (asg rfl rfl) ?_
      refine s1 (asg rfl rfl) ?_
      refine snil ?_
      refine pnm ?_
      refine sseq ?_
      refine sreg ?_
      refine s1 (mv rfl rfl) ?_
      refine s1 (cvUI Tryz.underlying106 Tryz.underlying3 rfl rfl) ?_
      refine s1 (asg rfl rfl) ?_
      refine snil ?_
      refine pnm ?_
      refine sret ?_
      exact ret [] [.tmp 2] [_] [_] .ret hγ (.inl rfl) rfl ⟨rfl, trivial⟩ rfl trivial trivial trivial (rns_cons (rn_id if_i64) (rns_nil)) rfl
theorem c___wire_reader__piece {n : Nat} {x0 : M_wire_reader} : ∀ r, m___wire_reader__piece n x0 = some r → FnOk Tryz.prog 29 [.own 0] [(0, .bx 75 (L_wire_reader x0))] (.tup [L_wire_Piece r.1, L_api_Fault r.2.1]) [(0, .bx 75 (L_wire_reader r.2.2))] := by
  unfold m___wire_reader__piece
  refine fn_of_sq (res := fun (r : M_wire_Piece × M_api_Fault × M_wire_reader) => .tup [L_wire_Piece r.1, L_api_Fault r.2.1]) (mo := fun (r : M_wire_Piece × M_api_Fault × M_wire_reader) => [(0, .bx 75 (L_wire_reader r.2.2))]) Tryz.func29 rfl rfl (by kernel_rfl) rfl ?_
  intro w S0 γ hγ
  refine sseq ?_
  refine sreg ?_
  refine so (al (y := 100) (ly := L_wire_Piece (⟨[], []⟩ : M_wire_Piece)) ti_45 zr_wire_Piece rfl rfl) ?_
  refine so (al (y := 101) (ly := L_api_Fault (⟨0, 0, 0, 0⟩ : M_api_Fault)) ti_37 zr_api_Fault rfl rfl) ?_
  refine snil ?_
  refine pnm ?_
  refine sseq ?_
  refine bd fun y1 h2 => ?_
  refine bd fun r3 h4 => ?_
  refine sdraw [⟨[0], [], [(10, .own 0)], []⟩, ⟨[10], [0], [(11, .own 0)], []⟩, ⟨[11], [0], [(12, .ptr 0 0)], []⟩, ⟨[12], [0], [(13, str x0.s)], []⟩, ⟨[0], [], [(14, .own 0)], []⟩, ⟨[14], [0], [(15, .own 0)], []⟩, ⟨[15], [0], [(16, .ptr 0 1)], []⟩, ⟨[16], [0], [(17, i64 x0.at_)], []⟩, ⟨[13, 17], [], [(18, str y1)], []⟩, ⟨[18], [], [(19, .tup [str r3.1, str r3.2.1, bl r3.2.2])], []⟩, ⟨[19], [], [(9, .tup [str r3.1, str r3.2.1, bl r3.2.2])], []⟩, ⟨[9], [], [(20, str r3.1)], []⟩, ⟨[9], [], [(21, str r3.2.1)], []⟩, ⟨[9], [], [(22, bl r3.2.2)], []⟩, ⟨[20], [], [(4, str r3.1)], []⟩, ⟨[21], [], [(5, str r3.2.1)], []⟩, ⟨[22], [], [(6, bl r3.2.2)], []⟩] fol (by kernel_rfl) ⟨fun st mm ⟨a0, _⟩ _ => og (mv rfl (a0.trans rfl)), fun st mm ⟨a10, _⟩ ⟨g0, _⟩ => og (nck (by exact ⟨_, _, (g0.trans rfl)⟩) rfl (a10.trans rfl)), fun st mm ⟨a11, _⟩ ⟨g0, _⟩ => og (faO (g0.trans rfl) fd_75_0 rfl (a11.trans rfl)), fun st mm ⟨a12, _⟩ ⟨g0, _⟩ => og (ldB [0] (g0.trans rfl) (by exact rfl) sh_9 (by exact rfl) (by exact rfl) rfl (a12.trans rfl) (.inl rfl)), fun st mm ⟨a0, _⟩ _ => og (mv rfl (a0.trans rfl)), fun st mm ⟨a14, _⟩ ⟨g0, _⟩ => og (nck (by exact ⟨_, _, (g0.trans rfl)⟩) rfl (a14.trans rfl)), fun st mm ⟨a15, _⟩ ⟨g0, _⟩ => og (faO (g0.trans rfl) fd_75_1 rfl (a15.trans rfl)), fun st mm ⟨a16, _⟩ ⟨g0, _⟩ => og (ldB [1] (g0.trans rfl) (by exact rfl) sh_3 (by exact rfl) (by exact rfl) rfl (a16.trans rfl) (.inl rfl)), fun st mm ⟨a13, a17, _⟩ _ => og (slS h2 Tryz.underlying9 rfl (a13.trans rfl) (bnd (a17.trans rfl)) bnd0), fun st mm ⟨a18, _⟩ _ => og (call0 (c_strings_Cut _ h4) ⟨⟨_, (a18.trans rfl), rn_id if_str⟩, ⟨_, (kS (s := [61]) rfl), rn_id if_str⟩, trivial⟩ (if_tup (ifs_cons if_str (ifs_cons if_str (ifs_cons if_bl (ifs_nil))))) rfl), fun st mm ⟨a19, _⟩ _ => og (mv rfl (a19.trans rfl)), fun st mm ⟨a9, _⟩ _ => og (ext (by exact rfl) rfl (a9.trans rfl)), fun st mm ⟨a9, _⟩ _ => og (ext (by exact rfl) rfl (a9.trans rfl)), fun st mm ⟨a9, _⟩ _ => og (ext (by exact rfl) rfl (a9.trans rfl)), fun st mm ⟨a20, _⟩ _ => og (asg rfl (a20.trans rfl)), fun st mm ⟨a21, _⟩ _ => og (asg rfl (a21.trans rfl)), fun st mm ⟨a22, _⟩ _ => og (asg rfl (a22.trans rfl)), trivial⟩ ?_
  refine pnm ?_
  refine sseq ?_
  refine sblk ?_
  refine sseq ?_
  refine sreg ?_
  refine s1 (mv rfl rfl) ?_
  refine bd fun r5 h6 => ?_
  refine s1 (call0 (c_wire_named _ h6) ⟨⟨_, rfl, rn_id if_str⟩, trivial⟩ (if_bl) rfl) ?_
  refine s1 (notB rfl rfl) ?_
  refine s1 (asg rfl rfl) ?_
  refine snil ?_
  refine pnm ?_
  refine scond rfl ?_ ?_
  · refine sseq ?_
    refine sreg ?_
    refine s1 (bld (l := [str [], str []]) pl_45 ti_45 zr_wire_Piece rfl rfl) ?_
    refine s1 (mv rfl rfl) ?_
    refine s1 (nck (by exact ⟨_, _, rfl⟩) rfl rfl) ?_
    refine s1 (faO rfl fd_75_1 rfl rfl) ?_
    refine s1 (ldB [1] rfl (by exact rfl) sh_3 (by exact rfl) (by exact rfl) rfl rfl (.inl rfl)) ?_
    refine bd fun r7 h8 => ?_
    refine s1 (call0 (c_wire_parse _ h8) ⟨⟨_, rfl, rn_id if_i64⟩, trivial⟩ (if_L_api_Fault) rfl) ?_
    refine so (stB2 (ly2 := L_wire_Piece (⟨[], []⟩ : M_wire_Piece)) [] (by exact rfl) rfl (by exact rfl) sh_45 (by exact rfl) (by exact rfl) (by exact rfl) rfl (.inr ⟨rfl, rfl, _, _, rfl⟩) rfl) ?_
    refine so (stB2 (ly2 := L_api_Fault r7) [] (by exact rfl) rfl (by exact rfl) sh_37 (by exact rfl) (by exact rfl) (by exact rfl) rfl (.inr ⟨rfl, rfl, _, _, rfl⟩) rfl) ?_
    refine snil ?_
    refine pnm ?_
    refine sret ?_
    refine pbl ?_
    refine pth ?_
    exact ret [(0, 0)] [.cell 2 45, .cell 3 37] [_, _] [_, _] .ret hγ (.inl rfl) rfl ⟨⟨100, _, rfl, rfl, sh_45⟩, ⟨101, _, rfl, rfl, sh_37⟩, trivial⟩ rfl ⟨rfl, trivial⟩ ⟨⟨_, rfl⟩, trivial⟩ ⟨⟨_, _, rfl, rfl, rci (rc_bx (rn_id if_L_wire_reader))⟩, trivial⟩ (rns_cons (rn_id if_L_wire_Piece) (rns_cons (rn_id if_L_api_Fault) (rns_nil))) rfl
  · refine sseq ?_
    refine sreg ?_
    refine s1 (mv rfl rfl) ?_
    refine s1 (notB rfl rfl) ?_
    refine s1 (asg rfl rfl) ?_
    refine snil ?_
    refine pnm ?_
    refine scond rfl ?_ ?_
    · refine sseq ?_
      refine sreg ?_
      refine s1 (bld (l := [str [], str []]) pl_45 ti_45 zr_wire_Piece rfl rfl) ?_
      refine s1 (mv rfl rfl) ?_
      refine s1 (nck (by exact ⟨_, _, rfl⟩) rfl rfl) ?_
      refine s1 (faO rfl fd_75_0 rfl rfl) ?_
      refine s1 (ldB [0] rfl (by exact rfl) sh_9 (by exact rfl) (by exact rfl) rfl rfl (.inl rfl)) ?_
      refine s1 (lenS Tryz.underlying9 rfl rfl) ?_
      refine bd fun r9 h10 => ?_
      refine s1 (call0 (c_wire_parse _ h10) ⟨⟨_, rfl, rn_id if_i64⟩, trivial⟩ (if_L_api_Fault) rfl) ?_
      refine so (stB2 (ly2 := L_wire_Piece (⟨[], []⟩ : M_wire_Piece)) [] (by exact rfl) rfl (by exact rfl) sh_45 (by exact rfl) (by exact rfl) (by exact rfl) rfl (.inr ⟨rfl, rfl, _, _, rfl⟩) rfl) ?_
      refine so (stB2 (ly2 := L_api_Fault r9) [] (by exact rfl) rfl (by exact rfl) sh_37 (by exact rfl) (by exact rfl) (by exact rfl) rfl (.inr ⟨rfl, rfl, _, _, rfl⟩) rfl) ?_
      refine snil ?_
      refine pnm ?_
      refine sret ?_
      refine pbl ?_
      refine pth ?_
      exact ret [(0, 0)] [.cell 2 45, .cell 3 37] [_, _] [_, _] .ret hγ (.inl rfl) rfl ⟨⟨100, _, rfl, rfl, sh_45⟩, ⟨101, _, rfl, rfl, sh_37⟩, trivial⟩ rfl ⟨rfl, trivial⟩ ⟨⟨_, rfl⟩, trivial⟩ ⟨⟨_, _, rfl, rfl, rci (rc_bx (rn_id if_L_wire_reader))⟩, trivial⟩ (rns_cons (rn_id if_L_wire_Piece) (rns_cons (rn_id if_L_api_Fault) (rns_nil))) rfl
    · refine sskip ?_
      refine pbn ?_
      refine pnm ?_
      refine sseq ?_
      refine sreg ?_
      refine s1 (mv rfl rfl) ?_
      refine s1 (nck (by exact ⟨_, _, rfl⟩) rfl rfl) ?_
      refine s1 (faO rfl fd_75_1 rfl rfl) ?_
      refine s1 (ldB [1] rfl (by exact rfl) sh_3 (by exact rfl) (by exact rfl) rfl rfl (.inl rfl)) ?_
      refine s1 (mv rfl rfl) ?_
      refine s1 (lenS Tryz.underlying9 rfl rfl) ?_
      refine s1 (addI rfl rfl (kI (x := 1) rfl)) ?_
      refine s1 (addI rfl rfl rfl) ?_
      refine s1 (nck (by exact ⟨_, _, rfl⟩) rfl rfl) ?_
      refine s1 (faO rfl fd_75_1 rfl rfl) ?_
      refine so (stB2 (ly2 := L_wire_reader (⟨x0.s, wrap64 (x0.at_ + (wrap64 ((r3.1.length : Int) + (1 : Int))))⟩ : M_wire_reader)) [1] (by exact rfl) rfl (by exact rfl) sh_3 (by exact rfl) (by exact rfl) (by exact rfl) rfl (.inl rfl) rfl) ?_
      refine snil ?_
      refine pnm ?_
      refine sseq ?_
      refine sreg ?_
      refine s1 (mv rfl rfl) ?_
      refine bd fun r11 h12 => ?_
      refine s1 (call0 (c_strings_Cut _ h12) ⟨⟨_, rfl, rn_id if_str⟩, ⟨_, (kS (s := [58]) rfl), rn_id if_str⟩, trivial⟩ (if_tup (ifs_cons if_str (ifs_cons if_str (ifs_cons if_bl (ifs_nil))))) rfl) ?_
      refine s1 (mv rfl rfl) ?_
      refine s1 (ext (by exact rfl) rfl rfl) ?_
      refine s1 (ext (by exact rfl) rfl rfl) ?_
      refine s1 (ext (by exact rfl) rfl rfl) ?_
      refine s1 (asg rfl rfl) ?_
      refine s1 (asg rfl rfl) ?_
      refine s1 (asg rfl rfl) ?_
      refine snil ?_
      refine pnm ?_
      refine sseq ?_
      refine sreg ?_
      refine s1 (mv rfl rfl) ?_
      refine bd fun r13 h14 => ?_
      refine s1 (call0 (c_wire_length _ h14) ⟨⟨_, rfl, rn_id if_str⟩, trivial⟩ (if_i64) rfl) ?_
      refine s1 (asg rfl rfl) ?_
      refine snil ?_
      refine pnm ?_
      refine sseq ?_
      refine sjq (fun (s17 : Bool) => [(0, .own 0), (2, .own 100), (3, .own 101), (4, str r3.1), (5, str r11.2.1), (7, str r11.1), (8, i64 r13), (66, bl s17)]) (fun (s17 : Bool) => [(0, .bx 75 (L_wire_reader (⟨x0.s, wrap64 (x0.at_ + (wrap64 ((r3.1.length : Int) + (1 : Int))))⟩ : M_wire_reader))), (100, .bx 45 (L_wire_Piece (⟨[], []⟩ : M_wire_Piece))), (101, .bx 37 (L_api_Fault (⟨0, 0, 0, 0⟩ : M_api_Fault)))]) ?_ ?_
      · intro j15 hj16
        refine sreg ?_
        refine s1 (mv rfl rfl) ?_
        refine s1 (ltI rfl rfl (kI (x := 0) rfl)) ?_
        refine s1 (mv rfl rfl) ?_
        refine sifd 63 rfl ?_ ?_
        · refine spB 63 rfl rfl rfl ?_
          refine spB 63 rfl rfl rfl ?_
          refine s1 (pickT rfl rfl kB) ?_
          refine snil ?_
          refine pnm ?_
          exact sj (hj16 _) (entR [(0, 0), (100, 100), (101, 101)] rfl (keepS hγ ⟨rfl, trivial⟩) ⟨⟨_, rfl⟩, ⟨_, rfl⟩, ⟨_, rfl⟩, trivial⟩ ⟨⟨_, _, rfl, rfl, rci (rc_bx (rn_id if_L_wire_reader))⟩, ⟨_, _, rfl, rfl, rci (rc_bx (rn_id if_L_wire_Piece))⟩, ⟨_, _, rfl, rfl, rci (rc_bx (rn_id if_L_api_Fault))⟩, trivial⟩ ⟨⟨_, rfl, rn_own rfl⟩, ⟨_, rfl, rn_own rfl⟩, ⟨_, rfl, rn_own rfl⟩, ⟨_, rfl, rn_id if_str⟩, ⟨_, rfl, rn_id if_str⟩, ⟨_, rfl, rn_id if_str⟩, ⟨_, rfl, rn_id if_i64⟩, ⟨_, rfl, rn_id if_bl⟩, trivial⟩)
        · refine sg 63 rfl rfl (mv rfl rfl) ?_
          refine sg 63 rfl rfl (notB rfl rfl) ?_
          refine s1 (pickF rfl rfl rfl) ?_
          refine snil ?_
          refine pnm ?_
          exact sj (hj16 _) (entR [(0, 0), (100, 100), (101, 101)] rfl (keepS hγ ⟨rfl, trivial⟩) ⟨⟨_, rfl⟩, ⟨_, rfl⟩, ⟨_, rfl⟩, trivial⟩ ⟨⟨_, _, rfl, rfl, rci (rc_bx (rn_id if_L_wire_reader))⟩, ⟨_, _, rfl, rfl, rci (rc_bx (rn_id if_L_wire_Piece))⟩, ⟨_, _, rfl, rfl, rci (rc_bx (rn_id if_L_api_Fault))⟩, trivial⟩ ⟨⟨_, rfl, rn_own rfl⟩, ⟨_, rfl, rn_own rfl⟩, ⟨_, rfl, rn_own rfl⟩, ⟨_, rfl, rn_id if_str⟩, ⟨_, rfl, rn_id if_str⟩, ⟨_, rfl, rn_id if_str⟩, ⟨_, rfl, rn_id if_i64⟩, ⟨_, rfl, rn_id if_bl⟩, trivial⟩)
      · intro s17
        refine scond rfl ?_ ?_
        · refine sseq ?_
          refine sreg ?_
          refine s1 (bld (l := [str [], str []]) pl_45 ti_45 zr_wire_Piece rfl rfl) ?_
          refine s1 (mv rfl rfl) ?_
          refine s1 (nck (by exact ⟨_, _, rfl⟩) rfl rfl) ?_
          refine s1 (faO rfl fd_75_1 rfl rfl) ?_
          refine s1 (ldB [1] rfl (by exact rfl) sh_3 (by exact rfl) (by exact rfl) rfl rfl (.inl rfl)) ?_
          refine sbn (F := i64) 71 rfl fun z18 => ?_
          refine bd fun r19 h20 => ?_
          refine s1 (call0 (c_wire_parse _ h20) ⟨⟨_, rfl, rn_id if_i64⟩, trivial⟩ (if_L_api_Fault) rfl) ?_
          refine so (stB2 (ly2 := L_wire_Piece (⟨[], []⟩ : M_wire_Piece)) [] (by exact rfl) rfl (by exact rfl) sh_45 (by exact rfl) (by exact rfl) (by exact rfl) rfl (.inr ⟨rfl, rfl, _, _, rfl⟩) rfl) ?_
          refine so (stB2 (ly2 := L_api_Fault r19) [] (by exact rfl) rfl (by exact rfl) sh_37 (by exact rfl) (by exact rfl) (by exact rfl) rfl (.inr ⟨rfl, rfl, _, _, rfl⟩) rfl) ?_
          refine snil ?_
          refine pnm ?_
          refine sret ?_
          refine pth ?_
          exact ret [(0, 0)] [.cell 2 45, .cell 3 37] [_, _] [_, _] .ret hγ (.inl rfl) rfl ⟨⟨100, _, rfl, rfl, sh_45⟩, ⟨101, _, rfl, rfl, sh_37⟩, trivial⟩ rfl ⟨rfl, trivial⟩ ⟨⟨_, rfl⟩, trivial⟩ ⟨⟨_, _, rfl, rfl, rci (rc_bx (rn_id if_L_wire_reader))⟩, trivial⟩ (rns_cons (rn_id if_L_wire_Piece) (rns_cons (rn_id if_L_api_Fault) (rns_nil))) rfl
        · refine sskip ?_
          refine pnm ?_
          refine sseq ?_
          refine sreg ?_
          refine s1 (mv rfl rfl) ?_
          refine s1 (nck (by exact ⟨_, _, rfl⟩) rfl rfl) ?_
          refine s1 (faO rfl fd_75_1 rfl rfl) ?_
          refine s1 (ldB [1] rfl (by exact rfl) sh_3 (by exact rfl) (by exact rfl) rfl rfl (.inl rfl)) ?_
          refine sbn (F := i64) 76 rfl fun z21 => ?_
          refine s1 (mv rfl rfl) ?_
          refine s1 (lenS Tryz.underlying9 rfl rfl) ?_
          refine s1 (addI rfl rfl (kI (x := 1) rfl)) ?_
          refine s1 (addI rfl rfl rfl) ?_
          refine s1 (nck (by exact ⟨_, _, rfl⟩) rfl rfl) ?_
          refine s1 (faO rfl fd_75_1 rfl rfl) ?_
          refine so (stB2 (ly2 := L_wire_reader (⟨(⟨x0.s, wrap64 (x0.at_ + (wrap64 ((r3.1.length : Int) + (1 : Int))))⟩ : M_wire_reader).s, wrap64 (z21 + (wrap64 ((r11.1.length : Int) + (1 : Int))))⟩ : M_wire_reader)) [1] (by exact rfl) rfl (by exact rfl) sh_3 (by exact rfl) (by exact rfl) (by exact rfl) rfl (.inl rfl) rfl) ?_
          refine snil ?_
          refine pnm ?_
          refine sseq ?_
          refine sseq ?_
          refine sreg ?_
          refine s1 (mv rfl rfl) ?_
          refine s1 (lenS Tryz.underlying9 rfl rfl) ?_
          refine s1 (mv rfl rfl) ?_
          refine s1 (addI rfl rfl (kI (x := 1) rfl)) ?_
          refine s1 (ltI rfl rfl rfl) ?_
          refine snil ?_
          refine pnm ?_
          refine scond rfl ?_ ?_
          · refine sseq ?_
            refine sreg ?_
            refine s1 (bld (l := [str [], str []]) pl_45 ti_45 zr_wire_Piece rfl rfl) ?_
            refine s1 (mv rfl rfl) ?_
            refine s1 (nck (by exact ⟨_, _, rfl⟩) rfl rfl) ?_
            refine s1 (faO rfl fd_75_0 rfl rfl) ?_
            refine s1 (ldB [0] rfl (by exact rfl) sh_9 (by exact rfl) (by exact rfl) rfl rfl (.inl rfl)) ?_
            refine sbn (F := str) 92 rfl fun z22 => ?_
            refine s1 (lenS Tryz.underlying9 rfl rfl) ?_
            refine bd fun r23 h24 => ?_
            refine s1 (call0 (c_wire_parse _ h24) ⟨⟨_, rfl, rn_id if_i64⟩, trivial⟩ (if_L_api_Fault) rfl) ?_
            refine so (stB2 (ly2 := L_wire_Piece (⟨[], []⟩ : M_wire_Piece)) [] (by exact rfl) rfl (by exact rfl) sh_45 (by exact rfl) (by exact rfl) (by exact rfl) rfl (.inr ⟨rfl, rfl, _, _, rfl⟩) rfl) ?_
            refine so (stB2 (ly2 := L_api_Fault r23) [] (by exact rfl) rfl (by exact rfl) sh_37 (by exact rfl) (by exact rfl) (by exact rfl) rfl (.inr ⟨rfl, rfl, _, _, rfl⟩) rfl) ?_
            refine snil ?_
            refine pnm ?_
            refine sret ?_
            refine pth ?_
            exact ret [(0, 0)] [.cell 2 45, .cell 3 37] [_, _] [_, _] .ret hγ (.inl rfl) rfl ⟨⟨100, _, rfl, rfl, sh_45⟩, ⟨101, _, rfl, rfl, sh_37⟩, trivial⟩ rfl ⟨rfl, trivial⟩ ⟨⟨_, rfl⟩, trivial⟩ ⟨⟨_, _, rfl, rfl, rci (rc_bx (rn_id if_L_wire_reader))⟩, trivial⟩ (rns_cons (rn_id if_L_wire_Piece) (rns_cons (rn_id if_L_api_Fault) (rns_nil))) rfl
          · refine sskip ?_
            refine pnm ?_
            refine sseq ?_
            refine sreg ?_
            refine s1 (mv rfl rfl) ?_
            refine s1 (nck (by exact ⟨_, _, rfl⟩) rfl rfl) ?_
            refine s1 (faO rfl fd_75_1 rfl rfl) ?_
            refine s1 (ldB [1] rfl (by exact rfl) sh_3 (by exact rfl) (by exact rfl) rfl rfl (.inl rfl)) ?_
            refine s1 (mv rfl rfl) ?_
            refine s1 (addI rfl rfl rfl) ?_
            refine sbn (F := i64) 100 rfl fun z25 => ?_
            refine s1 (nck (by exact ⟨_, _, rfl⟩) rfl rfl) ?_
            refine s1 (faO rfl fd_75_1 rfl rfl) ?_
            refine so (stB2 (ly2 := L_wire_reader (⟨(⟨x0.s, wrap64 (x0.at_ + (wrap64 ((r3.1.length : Int) + (1 : Int))))⟩ : M_wire_reader).s, z25⟩ : M_wire_reader)) [1] (by exact rfl) rfl (by exact rfl) sh_3 (by exact rfl) (by exact rfl) (by exact rfl) rfl (.inl rfl) rfl) ?_
            refine snil ?_
            refine pnm ?_
            refine sseq ?_
            refine sseq ?_
            refine sreg ?_
            refine s1 (mv rfl rfl) ?_
            refine s1 (mv rfl rfl) ?_
            refine bd fun y26 h27 => ?_
            refine s1 (ixS Tryz.underlying9 h27 rfl rfl rfl) ?_
            refine s1 (neU .u8 rfl rfl (k8 (x := 59) rfl)) ?_
            refine snil ?_
            refine pnm ?_
            refine scond rfl ?_ ?_
            · refine sseq ?_
              refine sreg ?_
              refine s1 (bld (l := [str [], str []]) pl_45 ti_45 zr_wire_Piece rfl rfl) ?_
              refine s1 (mv rfl rfl) ?_
              refine s1 (nck (by exact ⟨_, _, rfl⟩) rfl rfl) ?_
              refine s1 (faO rfl fd_75_1 rfl rfl) ?_
              refine s1 (ldB [1] rfl (by exact rfl) sh_3 (by exact rfl) (by exact rfl) rfl rfl (.inl rfl)) ?_
              refine bd fun r28 h29 => ?_
              refine s1 (call0 (c_wire_parse _ h29) ⟨⟨_, rfl, rn_id if_i64⟩, trivial⟩ (if_L_api_Fault) rfl) ?_
              refine so (stB2 (ly2 := L_wire_Piece (⟨[], []⟩ : M_wire_Piece)) [] (by exact rfl) rfl (by exact rfl) sh_45 (by exact rfl) (by exact rfl) (by exact rfl) rfl (.inr ⟨rfl, rfl, _, _, rfl⟩) rfl) ?_
              refine so (stB2 (ly2 := L_api_Fault r28) [] (by exact rfl) rfl (by exact rfl) sh_37 (by exact rfl) (by exact rfl) (by exact rfl) rfl (.inr ⟨rfl, rfl, _, _, rfl⟩) rfl) ?_
              refine snil ?_
              refine pnm ?_
              refine sret ?_
              refine pth ?_
              exact ret [(0, 0)] [.cell 2 45, .cell 3 37] [_, _] [_, _] .ret hγ (.inl rfl) rfl ⟨⟨100, _, rfl, rfl, sh_45⟩, ⟨101, _, rfl, rfl, sh_37⟩, trivial⟩ rfl ⟨rfl, trivial⟩ ⟨⟨_, rfl⟩, trivial⟩ ⟨⟨_, _, rfl, rfl, rci (rc_bx (rn_id if_L_wire_reader))⟩, trivial⟩ (rns_cons (rn_id if_L_wire_Piece) (rns_cons (rn_id if_L_api_Fault) (rns_nil))) rfl
            · refine sskip ?_
              refine pnm ?_
              refine sseq ?_
              refine sreg ?_
              refine s1 (mv rfl rfl) ?_
              refine s1 (nck (by exact ⟨_, _, rfl⟩) rfl rfl) ?_
              refine s1 (faO rfl fd_75_1 rfl rfl) ?_
              refine s1 (ldB [1] rfl (by exact rfl) sh_3 (by exact rfl) (by exact rfl) rfl rfl (.inl rfl)) ?_
              refine s1 (addI rfl rfl (kI (x := 1) rfl)) ?_
              refine s1 (nck (by exact ⟨_, _, rfl⟩) rfl rfl) ?_
              refine s1 (faO rfl fd_75_1 rfl rfl) ?_
              refine so (stB2 (ly2 := L_wire_reader (⟨(⟨x0.s, wrap64 (x0.at_ + (wrap64 ((r3.1.length : Int) + (1 : Int))))⟩ : M_wire_reader).s, wrap64 (z25 + (1 : Int))⟩ : M_wire_reader)) [1] (by exact rfl) rfl (by exact rfl) sh_3 (by exact rfl) (by exact rfl) (by exact rfl) rfl (.inl rfl) rfl) ?_
              refine snil ?_
              refine pnm ?_
              refine sseq ?_
              refine sreg ?_
              refine s1 (mv rfl rfl) ?_
              refine s1 (mv rfl rfl) ?_
              refine s1 (mv rfl rfl) ?_
              refine bd fun y30 h31 => ?_
              refine s1 (slS h31 Tryz.underlying9 rfl rfl bnd0 (bnd rfl)) ?_
              refine s1 (bld (l := [str r3.1, str y30]) pl_45 ti_45 zr_wire_Piece ⟨_, _, _, rfl, rfl, rfl, rfl, (szk (k := 1) rfl rfl), ⟨_, _, _, rfl, rfl, rfl, rfl, (szk (k := 1) rfl rfl), rfl⟩⟩ rfl) ?_
              refine s1 (bld (l := [i64 0, i64 0, i64 0, i64 0]) pl_37 ti_37 zr_api_Fault rfl rfl) ?_
              refine so (stB2 (ly2 := L_wire_Piece (⟨r3.1, y30⟩ : M_wire_Piece)) [] (by exact rfl) rfl (by exact rfl) sh_45 (by exact rfl) (by exact rfl) (by exact rfl) rfl (.inr ⟨rfl, rfl, _, _, rfl⟩) rfl) ?_
              refine so (stB2 (ly2 := L_api_Fault (⟨0, 0, 0, 0⟩ : M_api_Fault)) [] (by exact rfl) rfl (by exact rfl) sh_37 (by exact rfl) (by exact rfl) (by exact rfl) rfl (.inr ⟨rfl, rfl, _, _, rfl⟩) rfl) ?_
              refine snil ?_
              refine pnm ?_
              refine sret ?_
              exact ret [(0, 0)] [.cell 2 45, .cell 3 37] [_, _] [_, _] .ret hγ (.inl rfl) rfl ⟨⟨100, _, rfl, rfl, sh_45⟩, ⟨101, _, rfl, rfl, sh_37⟩, trivial⟩ rfl ⟨rfl, trivial⟩ ⟨⟨_, rfl⟩, trivial⟩ ⟨⟨_, _, rfl, rfl, rci (rc_bx (rn_id if_L_wire_reader))⟩, trivial⟩ (rns_cons (rn_id if_L_wire_Piece) (rns_cons (rn_id if_L_api_Fault) (rns_nil))) rfl
theorem c_wire_Unpack {n : Nat} {x0 : (List UInt8)} : ∀ r, m_wire_Unpack n x0 = some r → FnOk Tryz.prog 16 [str x0] [] (.tup [sli 2 (List.map L_wire_Piece r.1), L_api_Fault r.2]) [] := by
  unfold m_wire_Unpack
  refine fn_of_sq (res := fun (r : (List M_wire_Piece) × M_api_Fault) => .tup [sli 2 (List.map L_wire_Piece r.1), L_api_Fault r.2]) (mo := fun (r : (List M_wire_Piece) × M_api_Fault) => []) Tryz.func16 rfl rfl (by kernel_rfl) rfl ?_
  intro w S0 γ hγ
  refine sseq ?_
  refine sreg ?_
  refine s1 (asg rfl (kLm (k := 2) L_wire_Piece)) ?_
  refine so (al (y := 100) (ly := L_api_Fault (⟨0, 0, 0, 0⟩ : M_api_Fault)) ti_37 zr_api_Fault rfl rfl) ?_
  refine snil ?_
  refine pnm ?_
  refine sseq ?_
  refine sreg ?_
  refine so (asgN (y := 101) (E := 45) (k := 2) rfl rfl) ?_
  refine snil ?_
  refine pnm ?_
  refine sseq ?_
  refine sreg ?_
  refine s1 (mv rfl rfl) ?_
  refine s1 (bld (l := [str x0, i64 0]) pl_75 ti_75 zr_wire_reader ⟨_, _, _, rfl, rfl, rfl, rfl, (szk (k := 1) rfl rfl), rfl⟩ rfl) ?_
  refine so (box (y := 102) (by exact rfl) rfl rfl rfl) ?_
  refine s1 (asg rfl rfl) ?_
  refine snil ?_
  refine pnm ?_
  refine sseq ?_
  refine sblk ?_
  refine sloopE 0 Lp.go (fun (s13 : (List M_wire_Piece) × M_wire_reader) => [(0, str x0), (2, sli 2 (List.map L_wire_Piece ([] : List M_wire_Piece))), (3, .own 100), (4, .own 101), (5, .own 102)]) (fun (s13 : (List M_wire_Piece) × M_wire_reader) => [(100, .bx 37 (L_api_Fault (⟨0, 0, 0, 0⟩ : M_api_Fault))), (101, .sl 45 2 (List.map L_wire_Piece s13.1)), (102, .bx 75 (L_wire_reader s13.2))]) (fun (t11 : (List M_wire_Piece)) => [(2, sli 2 (List.map L_wire_Piece ([] : List M_wire_Piece))), (3, .own 100), (4, .own 101)]) (fun (t11 : (List M_wire_Piece)) => [(100, .bx 37 (L_api_Fault (⟨0, 0, 0, 0⟩ : M_api_Fault))), (101, .sl 45 2 (List.map L_wire_Piece t11))]) (entR [(100, 100), (101, 101), (102, 102)] rfl (keepS hγ trivial) ⟨⟨_, rfl⟩, ⟨_, rfl⟩, ⟨_, rfl⟩, trivial⟩ ⟨⟨_, _, rfl, rfl, rci (rc_bx (rn_id if_L_api_Fault))⟩, ⟨_, _, rfl, rfl, rci (rc_sl (ifs_map (f := L_wire_Piece) (fun _ => if_L_wire_Piece) ([] : List M_wire_Piece)))⟩, ⟨_, _, rfl, rfl, rci (rc_bx (rn_id if_L_wire_reader))⟩, trivial⟩ ⟨⟨_, rfl, rn_id if_str⟩, ⟨_, rfl, rn_id if_sli⟩, ⟨_, rfl, rn_own rfl⟩, ⟨_, rfl, rn_own rfl⟩, ⟨_, rfl, rn_own rfl⟩, trivial⟩) ?_ ?_
  · intro hj12 s13
    refine sseq ?_
    refine sseq ?_
    refine sreg ?_
    refine s1 (mv rfl rfl) ?_
    refine s1 (nck (by exact ⟨_, _, rfl⟩) rfl rfl) ?_
    refine s1 (faO rfl fd_75_1 rfl rfl) ?_
    refine s1 (ldB [1] rfl (by exact rfl) sh_3 (by exact rfl) (by exact rfl) rfl rfl (.inl rfl)) ?_
    refine s1 (mv rfl rfl) ?_
    refine s1 (lenS Tryz.underlying9 rfl rfl) ?_
    refine s1 (ltI rfl rfl rfl) ?_
    refine snil ?_
    refine pnm ?_
    refine scond rfl ?_ ?_
    · refine sskip ?_
      refine pnm ?_
      refine sblk ?_
      refine sseq ?_
      refine sreg ?_
      refine s1 (mv rfl rfl) ?_
      refine bd fun r14 h15 => ?_
      refine so (callG (em := [(102, .bx 75 (L_wire_reader r14.2.2))]) (res' := .tup [L_wire_Piece r14.1, L_api_Fault r14.2.1]) [(0, 102)] [] [(102, 0)] (c___wire_reader__piece _ h15) ⟨⟨_, rfl, rn_own rfl⟩, trivial⟩ (MiF.get (mi := [(0, _)]) ⟨⟨_, _, rfl, rfl, rc_bx (rn_id if_L_wire_reader)⟩, trivial⟩) ⟨⟨_, rfl⟩, trivial⟩ rfl trivial ⟨.inr rfl, trivial⟩ rfl ⟨.inl ⟨_, _, rfl, rfl, rc_bx (rn_id if_L_wire_reader)⟩, trivial⟩ ⟨⟨_, rfl⟩, trivial⟩ trivial (rn_tup (rns_cons (rn_id if_L_wire_Piece) (rns_cons (rn_id if_L_api_Fault) (rns_nil)))) rfl) ?_
      refine s1 (mv rfl rfl) ?_
      refine s1 (ext (by exact rfl) rfl rfl) ?_
      refine s1 (ext (by exact rfl) rfl rfl) ?_
      refine so (al (y := 103) (ly := L_wire_Piece (⟨[], []⟩ : M_wire_Piece)) ti_45 zr_wire_Piece rfl rfl) ?_
      refine so (al (y := 104) (ly := L_api_Fault (⟨0, 0, 0, 0⟩ : M_api_Fault)) ti_37 zr_api_Fault rfl rfl) ?_
      refine so (stB2 (ly2 := L_wire_Piece r14.1) [] (by exact rfl) rfl (by exact rfl) sh_45 (by exact rfl) (by exact rfl) (by exact rfl) rfl (.inr ⟨rfl, rfl, _, _, rfl⟩) rfl) ?_
      refine so (stB2 (ly2 := L_api_Fault r14.2.1) [] (by exact rfl) rfl (by exact rfl) sh_37 (by exact rfl) (by exact rfl) (by exact rfl) rfl (.inr ⟨rfl, rfl, _, _, rfl⟩) rfl) ?_
      refine snil ?_
      refine pnm ?_
      refine sseq ?_
      refine sseq ?_
      refine sreg ?_
      refine s1 (ldB [] rfl rfl sh_37 (by exact rfl) (by exact rfl) rfl rfl (.inr ⟨rfl, rfl, _, _, rfl⟩)) ?_
      refine s1 (bld (l := [i64 0, i64 0, i64 0, i64 0]) pl_37 ti_37 zr_api_Fault rfl rfl) ?_
      refine s1 (neA (p := (r14.2.1 : M_api_Fault)) (q := ((⟨0, 0, 0, 0⟩ : M_api_Fault) : M_api_Fault)) eq_37_2 rfl eg_37 rfl rfl rfl) ?_
      refine snil ?_
      refine pnm ?_
      refine scond rfl ?_ ?_
      · refine sseq ?_
        refine sdraw [⟨[7], [104], [(26, L_api_Fault r14.2.1)], []⟩, ⟨[], [], [(2, sli 2 (List.map L_wire_Piece ([] : List M_wire_Piece)))], []⟩, ⟨[3, 26], [100], [], [(100, .bx 37 (L_api_Fault r14.2.1))]⟩] fol (by kernel_rfl) ⟨fun st mm ⟨a7, _⟩ ⟨g104, _⟩ => og (ldB [] (g104.trans rfl) rfl sh_37 (by exact rfl) (by exact rfl) rfl (a7.trans rfl) (.inr ⟨rfl, rfl, _, _, (g104.trans rfl)⟩)), fun st mm _ _ => og (asg rfl (kLm (k := 2) L_wire_Piece)), fun st mm ⟨a3, a26, _⟩ ⟨g100, _⟩ => og (stB2 (ly2 := L_api_Fault r14.2.1) [] (by exact rfl) (g100.trans rfl) (by exact rfl) sh_37 (by exact rfl) (by exact rfl) (by exact rfl) (a3.trans rfl) (.inr ⟨rfl, rfl, _, _, (g100.trans rfl)⟩) (a26.trans rfl)), trivial⟩ ?_
        refine pnm ?_
        refine sret ?_
        refine pth ?_
        refine pbl ?_
        refine sout (fun h => by cases h) ?_
        refine pbl ?_
        refine pth ?_
        exact ret [] [.tmp 2, .cell 3 37] [_, _] [_, _] .ret hγ (.inl rfl) rfl ⟨rfl, ⟨100, _, rfl, rfl, sh_37⟩, trivial⟩ rfl trivial trivial trivial (rns_cons (rn_id if_sli) (rns_cons (rn_id if_L_api_Fault) (rns_nil))) rfl
      · refine sskip ?_
        refine pnm ?_
        refine sreg ?_
        refine s1 (mv rfl rfl) ?_
        refine s1 (ldB [] rfl rfl sh_45 (by exact rfl) (by exact rfl) rfl rfl (.inr ⟨rfl, rfl, _, _, rfl⟩)) ?_
        refine so (bsl (y := 105) (ls := List.map L_wire_Piece ([r14.1] : List M_wire_Piece)) Tryz.underlying27 ti_45 rfl rfl rfl rfl rfl ⟨rfl, rfl, (by exact rfl), (by exact rfl), trivial⟩ rfl rfl) ?_
        refine bd fun y16 h17 => ?_
        refine so (app (y := 106) (f := L_wire_Piece) h17 rfl Tryz.underlying27 ti_45 rfl rfl rfl rfl (.inr ⟨_, _, rfl, rfl⟩) rfl rfl) ?_
        refine s1 (asg rfl rfl) ?_
        refine snil ?_
        refine pbn ?_
        exact sgo (entR [(100, 100), (101, 106), (102, 102)] rfl (keepS hγ trivial) ⟨⟨_, rfl⟩, ⟨_, rfl⟩, ⟨_, rfl⟩, trivial⟩ ⟨⟨_, _, rfl, rfl, rci (rc_bx (rn_id if_L_api_Fault))⟩, ⟨_, _, rfl, rfl, rci (rc_sl (ifs_map (f := L_wire_Piece) (fun _ => if_L_wire_Piece) y16))⟩, ⟨_, _, rfl, rfl, rci (rc_bx (rn_id if_L_wire_reader))⟩, trivial⟩ ⟨⟨_, rfl, rn_id if_str⟩, ⟨_, rfl, rn_id if_sli⟩, ⟨_, rfl, rn_own rfl⟩, ⟨_, rfl, rn_own rfl⟩, ⟨_, rfl, rn_own rfl⟩, trivial⟩)
    · refine sexit ?_
      refine ptx ?_
      exact sout (fun h => by cases h) (sj (hj12 _) (entR [(100, 100), (101, 101)] rfl (keepS hγ trivial) ⟨⟨_, rfl⟩, ⟨_, rfl⟩, trivial⟩ ⟨⟨_, _, rfl, rfl, rci (rc_bx (rn_id if_L_api_Fault))⟩, ⟨_, _, rfl, rfl, rci (rc_sl (ifs_map (f := L_wire_Piece) (fun _ => if_L_wire_Piece) s13.1))⟩, trivial⟩ ⟨⟨_, rfl, rn_id if_sli⟩, ⟨_, rfl, rn_own rfl⟩, ⟨_, rfl, rn_own rfl⟩, trivial⟩))
  · intro t11
    refine slpk ?_
    refine sx ?_
    refine pnm ?_
    refine sseq ?_
    refine sseq ?_
    refine sreg ?_
    refine s1 (mv rfl rfl) ?_
    refine bd fun r18 h19 => ?_
    refine s1 (callL (em := []) [101] [] [] [] rfl (c_wire_may _ h19) trivial (pl_bl) ⟨.inr ⟨101, rfl, .inl ⟨rfl, .inl ⟨_, _, _, rfl, ifs_map (f := L_wire_Piece) (fun _ => if_L_wire_Piece) t11, rfl⟩⟩⟩, trivial⟩ (fun _ _ h => by cases h) trivial rfl trivial trivial rfl trivial trivial trivial (rn_id (if_bl)) rfl) ?_
    refine s1 (notB rfl rfl) ?_
    refine snil ?_
    refine pnm ?_
    refine scond rfl ?_ ?_
    · refine sseq ?_
      refine sreg ?_
      refine s1 (bld (l := [i64 (2 : Int), i64 0, i64 0, i64 0]) pl_37 ti_37 zr_api_Fault ⟨_, _, _, (kI (x := 2) rfl), rfl, rfl, rfl, (szk (k := 1) rfl rfl), rfl⟩ rfl) ?_
      refine s1 (asg rfl (kLm (k := 2) L_wire_Piece)) ?_
      refine so (stB2 (ly2 := L_api_Fault (⟨(2 : Int), 0, 0, 0⟩ : M_api_Fault)) [] (by exact rfl) rfl (by exact rfl) sh_37 (by exact rfl) (by exact rfl) (by exact rfl) rfl (.inr ⟨rfl, rfl, _, _, rfl⟩) rfl) ?_
      refine snil ?_
      refine pnm ?_
      refine sret ?_
      refine pth ?_
      exact ret [] [.tmp 2, .cell 3 37] [_, _] [_, _] .ret hγ (.inl rfl) rfl ⟨rfl, ⟨100, _, rfl, rfl, sh_37⟩, trivial⟩ rfl trivial trivial trivial (rns_cons (rn_id if_sli) (rns_cons (rn_id if_L_api_Fault) (rns_nil))) rfl
    · refine sskip ?_
      refine pnm ?_
      refine sseq ?_
      refine sreg ?_
      refine s1 (mv rfl rfl) ?_
      refine s1 (bld (l := [i64 0, i64 0, i64 0, i64 0]) pl_37 ti_37 zr_api_Fault rfl rfl) ?_
      refine s1 (asg rfl rfl) ?_
      refine so (stB2 (ly2 := L_api_Fault (⟨0, 0, 0, 0⟩ : M_api_Fault)) [] (by exact rfl) rfl (by exact rfl) sh_37 (by exact rfl) (by exact rfl) (by exact rfl) rfl (.inr ⟨rfl, rfl, _, _, rfl⟩) rfl) ?_
      refine snil ?_
      refine pnm ?_
      refine sret ?_
      refine frz (id := 101) [(2, sli 2 (List.map L_wire_Piece t11)), (4, sli 2 (List.map L_wire_Piece t11)), (31, sli 2 (List.map L_wire_Piece t11)), (35, sli 2 (List.map L_wire_Piece t11))] [] rfl (ifs_map (f := L_wire_Piece) (fun _ => if_L_wire_Piece) t11) ⟨⟨_, rfl, fz_own⟩, ⟨_, rfl, fz_own⟩, ⟨_, rfl, fz_own⟩, ⟨_, rfl, fz_own⟩, trivial⟩ trivial ?_
      exact ret [] [.tmp 2, .cell 3 37] [_, _] [_, _] .ret hγ (.inl rfl) rfl ⟨rfl, ⟨100, _, rfl, rfl, sh_37⟩, trivial⟩ rfl trivial trivial trivial (rns_cons (rn_id if_sli) (rns_cons (rn_id if_L_api_Fault) (rns_nil))) rfl
theorem c_wire_kinds  : ∀ r, m_wire_kinds  = some r → FnOk Tryz.prog 25 [] [] (sli 1 (List.map str r)) [] := by
  unfold m_wire_kinds
  refine fn_of_sq (res := fun (r : (List (List UInt8))) => sli 1 (List.map str r)) (mo := fun (r : (List (List UInt8))) => []) Tryz.func25 rfl rfl (by kernel_rfl) rfl ?_
  intro w S0 γ hγ
  refine sseq ?_
  refine sreg ?_
  refine s1 (asg rfl (kLm (k := 1) str)) ?_
  refine snil ?_
  refine pnm ?_
  refine sseq ?_
  refine sreg ?_
  refine so (bsl (y := 100) (ls := List.map str ([([111, 107] : List UInt8), ([112, 97, 114, 115, 101] : List UInt8), ([102, 111, 114, 109] : List UInt8), ([112, 111, 108, 101] : List UInt8), ([117, 110, 100, 101, 114, 102, 108, 111, 119] : List UInt8), ([115, 116, 101, 112, 115] : List UInt8), ([98, 105, 116, 115] : List UInt8), ([114, 97, 110, 103, 101] : List UInt8), ([115, 104, 117, 116] : List UInt8)] : List (List UInt8))) Tryz.underlying60 ti_9 rfl rfl rfl rfl rfl ⟨rfl, (kS (s := [111, 107]) rfl), (by exact rfl), (by exact rfl), rfl, (kS (s := [112, 97, 114, 115, 101]) rfl), (by exact rfl), (by exact rfl), rfl, (kS (s := [102, 111, 114, 109]) rfl), (by exact rfl), (by exact rfl), rfl, (kS (s := [112, 111, 108, 101]) rfl), (by exact rfl), (by exact rfl), rfl, (kS (s := [117, 110, 100, 101, 114, 102, 108, 111, 119]) rfl), (by exact rfl), (by exact rfl), rfl, (kS (s := [115, 116, 101, 112, 115]) rfl), (by exact rfl), (by exact rfl), rfl, (kS (s := [98, 105, 116, 115]) rfl), (by exact rfl), (by exact rfl), rfl, (kS (s := [114, 97, 110, 103, 101]) rfl), (by exact rfl), (by exact rfl), rfl, (kS (s := [115, 104, 117, 116]) rfl), (by exact rfl), (by exact rfl), trivial⟩ rfl rfl) ?_
  refine sbm (C := fun x => .sl 9 1 (List.map str x)) 100 rfl fun z1 => ?_
  refine s1 (asg rfl rfl) ?_
  refine snil ?_
  refine pnm ?_
  refine sret ?_
  refine frz (id := 100) [(0, sli 1 (List.map str z1)), (1, sli 1 (List.map str z1))] [] rfl (ifs_map (f := str) (fun _ => if_str) z1) ⟨⟨_, rfl, fz_own⟩, ⟨_, rfl, fz_own⟩, trivial⟩ trivial ?_
  exact ret [] [.tmp 0] [_] [_] .ret hγ (.inl rfl) rfl ⟨rfl, trivial⟩ rfl trivial trivial trivial (rns_cons (rn_id if_sli) (rns_nil)) rfl
theorem c_wire_Fault {x0 : M_api_Fault} : ∀ r, m_wire_Fault x0 = some r → FnOk Tryz.prog 14 [L_api_Fault x0] [] (str r) [] := by
  unfold m_wire_Fault
  refine fn_of_sq (res := fun (r : (List UInt8)) => str r) (mo := fun (r : (List UInt8)) => []) Tryz.func14 rfl rfl (by kernel_rfl) rfl ?_
  intro w S0 γ hγ
  refine sseq ?_
  refine sreg ?_
  refine so (box (y := 100) (by exact rfl) rfl rfl rfl) ?_
  refine s1 (asg rfl (kS (s := []) rfl)) ?_
  refine snil ?_
  refine pnm ?_
  refine sseq ?_
  refine sreg ?_
  refine bd fun r1 h2 => ?_
  refine s1 (call0 (c_wire_kinds _ h2) trivial (if_sli) rfl) ?_
  refine s1 (asg rfl rfl) ?_
  refine snil ?_
  refine pnm ?_
  refine sseq ?_
  refine sreg ?_
  refine s1 (mv rfl rfl) ?_
  refine bd fun y3 h4 => ?_
  refine s1 (ixR (f := str) Tryz.underlying60 ti_9 h4 rfl rfl (kI (x := 0) rfl)) ?_
  refine s1 (ldR sh_9 (by exact rfl) (by exact rfl) rfl rfl) ?_
  refine s1 (asg rfl rfl) ?_
  refine snil ?_
  refine pnm ?_
  refine sjq (fun (s12 : (List UInt8)) => [(1, .own 100), (2, str ([] : List UInt8)), (4, str s12)]) (fun (s12 : (List UInt8)) => [(100, .bx 37 (L_api_Fault x0))]) ?_ ?_
  · intro j10 hj11
    refine sjq (fun (s15 : Bool) => [(1, .own 100), (2, str ([] : List UInt8)), (3, sli 1 (List.map str r1)), (4, str y3), (20, bl s15)]) (fun (s15 : Bool) => [(100, .bx 37 (L_api_Fault x0))]) ?_ ?_
    · intro j13 hj14
      refine sreg ?_
      refine s1 (faO rfl fd_37_0 rfl rfl) ?_
      refine s1 (ldB [0] rfl (by exact rfl) sh_3 (by exact rfl) (by exact rfl) rfl rfl (.inl rfl)) ?_
      refine s1 (gtI rfl rfl (kI (x := 0) rfl)) ?_
      refine s1 (mv rfl rfl) ?_
      refine sifd 14 rfl ?_ ?_
      · refine sg 14 rfl rfl (faO rfl fd_37_0 rfl rfl) ?_
        refine sg 14 rfl rfl (ldB [0] rfl (by exact rfl) sh_3 (by exact rfl) (by exact rfl) rfl rfl (.inl rfl)) ?_
        refine sg 14 rfl rfl (mv rfl rfl) ?_
        refine sg 14 rfl rfl (lenL (f := str) Tryz.underlying60 rfl rfl) ?_
        refine sg 14 rfl rfl (ltI rfl rfl rfl) ?_
        refine s1 (pickT rfl rfl rfl) ?_
        refine snil ?_
        refine pnm ?_
        exact sj (hj14 _) (entR [(100, 100)] rfl (keepS hγ trivial) ⟨⟨_, rfl⟩, trivial⟩ ⟨⟨_, _, rfl, rfl, rci (rc_bx (rn_id if_L_api_Fault))⟩, trivial⟩ ⟨⟨_, rfl, rn_own rfl⟩, ⟨_, rfl, rn_id if_str⟩, ⟨_, rfl, rn_id if_sli⟩, ⟨_, rfl, rn_id if_str⟩, ⟨_, rfl, rn_id if_bl⟩, trivial⟩)
      · refine spB 14 rfl rfl rfl ?_
        refine spB 14 rfl rfl rfl ?_
        refine spB 14 rfl rfl rfl ?_
        refine spB 14 rfl rfl rfl ?_
        refine spB 14 rfl rfl rfl ?_
        refine s1 (pickF rfl rfl kB) ?_
        refine snil ?_
        refine pnm ?_
        exact sj (hj14 _) (entR [(100, 100)] rfl (keepS hγ trivial) ⟨⟨_, rfl⟩, trivial⟩ ⟨⟨_, _, rfl, rfl, rci (rc_bx (rn_id if_L_api_Fault))⟩, trivial⟩ ⟨⟨_, rfl, rn_own rfl⟩, ⟨_, rfl, rn_id if_str⟩, ⟨_, rfl, rn_id if_sli⟩, ⟨_, rfl, rn_id if_str⟩, ⟨_, rfl, rn_id if_bl⟩, trivial⟩)
    · intro s15
      refine scond rfl ?_ ?_
      · refine sreg ?_
        refine s1 (mv rfl rfl) ?_
        refine s1 (faO rfl fd_37_0 rfl rfl) ?_
        refine s1 (ldB [0] rfl (by exact rfl) sh_3 (by exact rfl) (by exact rfl) rfl rfl (.inl rfl)) ?_
        refine bd fun y16 h17 => ?_
        refine s1 (ixR (f := str) Tryz.underlying60 ti_9 h17 rfl rfl rfl) ?_
        refine s1 (ldR sh_9 (by exact rfl) (by exact rfl) rfl rfl) ?_
        refine s1 (asg rfl rfl) ?_
        refine snil ?_
        refine pnm ?_
        exact sj (hj11 _) (entR [(100, 100)] rfl (keepS hγ trivial) ⟨⟨_, rfl⟩, trivial⟩ ⟨⟨_, _, rfl, rfl, rci (rc_bx (rn_id if_L_api_Fault))⟩, trivial⟩ ⟨⟨_, rfl, rn_own rfl⟩, ⟨_, rfl, rn_id if_str⟩, ⟨_, rfl, rn_id if_str⟩, trivial⟩)
      · refine sskip ?_
        refine pnm ?_
        exact sj (hj11 _) (entR [(100, 100)] rfl (keepS hγ trivial) ⟨⟨_, rfl⟩, trivial⟩ ⟨⟨_, _, rfl, rfl, rci (rc_bx (rn_id if_L_api_Fault))⟩, trivial⟩ ⟨⟨_, rfl, rn_own rfl⟩, ⟨_, rfl, rn_id if_str⟩, ⟨_, rfl, rn_id if_str⟩, trivial⟩)
  · intro s12
    refine sseq ?_
    refine sseq ?_
    refine sreg ?_
    refine s1 (faO rfl fd_37_1 rfl rfl) ?_
    refine s1 (ldB [1] rfl (by exact rfl) sh_3 (by exact rfl) (by exact rfl) rfl rfl (.inl rfl)) ?_
    refine s1 (faO rfl fd_37_2 rfl rfl) ?_
    refine s1 (ldB [2] rfl (by exact rfl) sh_3 (by exact rfl) (by exact rfl) rfl rfl (.inl rfl)) ?_
    refine s1 (faO rfl fd_37_3 rfl rfl) ?_
    refine s1 (ldB [3] rfl (by exact rfl) sh_3 (by exact rfl) (by exact rfl) rfl rfl (.inl rfl)) ?_
    refine so (bsl (y := 101) (ls := List.map i64 ([x0.Step, x0.Stage, x0.At] : List Int)) Tryz.underlying66 ti_3 rfl rfl rfl rfl rfl ⟨rfl, rfl, (by exact rfl), (by exact rfl), rfl, rfl, (by exact rfl), (by exact rfl), rfl, rfl, (by exact rfl), (by exact rfl), trivial⟩ rfl rfl) ?_
    refine s1 (lenO (f := i64) Tryz.underlying66 rfl rfl rfl) ?_
    refine s1 (mv rfl (kI (x := 0) rfl)) ?_
    refine snil ?_
    refine pnm ?_
    refine sblk ?_
    refine srangeN (fun (s39 : (List UInt8)) => [(2, str ([] : List UInt8)), (4, str s39), (32, .own 101)]) (fun (s39 : (List UInt8)) => [(101, .sl 3 1 (List.map i64 ([x0.Step, x0.Stage, x0.At] : List Int)))]) rfl (fun _ => rfl) (entR [(101, 101)] rfl (keepS hγ trivial) ⟨⟨_, rfl⟩, trivial⟩ ⟨⟨_, _, rfl, rfl, rci (rc_sl (ifs_map (f := i64) (fun _ => if_i64) ([x0.Step, x0.Stage, x0.At] : List Int)))⟩, trivial⟩ ⟨⟨_, rfl, rn_id if_i64⟩, ⟨_, rfl, rn_id if_i64⟩, ⟨_, rfl, rn_id if_str⟩, ⟨_, rfl, rn_id if_str⟩, ⟨_, rfl, rn_own rfl⟩, trivial⟩) ?_ ?_
    · intro i40 x41 s39 hx42
      refine sblk ?_
      refine sseq ?_
      refine sreg ?_
      refine s1 (ixO (f := i64) rfl Tryz.underlying66 ti_3 (getI_nat hx42) rfl rfl rfl) ?_
      refine s1 (ldO (f := i64) [] rfl (getI_ix (getI_nat hx42)) (by exact rfl) (by exact rfl) sh_3 (by exact rfl) (by exact rfl) rfl rfl) ?_
      refine s1 (asg rfl rfl) ?_
      refine snil ?_
      refine pnm ?_
      refine sreg ?_
      refine s1 (mv rfl rfl) ?_
      refine s1 (mv rfl rfl) ?_
      refine bd fun r43 h44 => ?_
      refine s1 (call0 (c_strconv_Itoa _ h44) ⟨⟨_, rfl, rn_id if_i64⟩, trivial⟩ (if_str) rfl) ?_
      refine bd fun y45 h46 => ?_
      refine s1 (catStr h46 rfl (kS (s := [32]) rfl) rfl) ?_
      refine bd fun y47 h48 => ?_
      refine s1 (catStr h48 rfl rfl rfl) ?_
      refine s1 (asg rfl rfl) ?_
      refine snil ?_
      refine pbn ?_
      exact sgo (entR [(101, 101)] rfl (keepS hγ trivial) ⟨⟨_, rfl⟩, trivial⟩ ⟨⟨_, _, rfl, rfl, rci (rc_sl (ifs_map (f := i64) (fun _ => if_i64) ([x0.Step, x0.Stage, x0.At] : List Int)))⟩, trivial⟩ ⟨⟨_, rfl, rn_id if_i64⟩, ⟨_, rfl, rn_id if_i64⟩, ⟨_, rfl, rn_id if_str⟩, ⟨_, rfl, rn_id if_str⟩, ⟨_, rfl, rn_own rfl⟩, trivial⟩)
    · intro s49
      refine sx ?_
      refine pnm ?_
      refine sseq ?_
      refine sreg ?_
      refine s1 (mv rfl rfl) ?_
      refine s1 (asg rfl rfl) ?_
      refine snil ?_
      refine pnm ?_
      refine sret ?_
      exact ret [] [.tmp 2] [_] [_] .ret hγ (.inl rfl) rfl ⟨rfl, trivial⟩ rfl trivial trivial trivial (rns_cons (rn_id if_str) (rns_nil)) rfl
theorem c_retrospectlaw48_works {n : Nat}  : ∀ r, m_retrospectlaw48_works n  = some r → FnOk Tryz.prog 6 [] [] (bl r) [] := by
  unfold m_retrospectlaw48_works
  refine fn_of_sq (res := fun (r : Bool) => bl r) (mo := fun (r : Bool) => []) Tryz.func6 rfl rfl (by kernel_rfl) rfl ?_
  intro w S0 γ hγ
  refine sseq ?_
  refine sreg ?_
  refine s1 (asg rfl kB) ?_
  refine snil ?_
  refine pnm ?_
  refine sseq ?_
  refine sreg ?_
  refine s1 (bld (l := [str ([97] : List UInt8), str ([120, 121] : List UInt8)]) pl_45 ti_45 zr_wire_Piece ⟨_, _, _, (kS (s := [97]) rfl), rfl, rfl, rfl, (szk (k := 1) rfl rfl), ⟨_, _, _, (kS (s := [120, 121]) rfl), rfl, rfl, rfl, (szk (k := 1) rfl rfl), rfl⟩⟩ rfl) ?_
  refine s1 (bld (l := [str ([98] : List UInt8), str []]) pl_45 ti_45 zr_wire_Piece ⟨_, _, _, (kS (s := [98]) rfl), rfl, rfl, rfl, (szk (k := 1) rfl rfl), rfl⟩ rfl) ?_
  refine so (bsl (y := 100) (ls := List.map L_wire_Piece ([(⟨([97] : List UInt8), ([120, 121] : List UInt8)⟩ : M_wire_Piece), (⟨([98] : List UInt8), []⟩ : M_wire_Piece)] : List M_wire_Piece)) Tryz.underlying27 ti_45 rfl rfl rfl rfl rfl ⟨rfl, rfl, (by exact rfl), (by exact rfl), rfl, rfl, (by exact rfl), (by exact rfl), trivial⟩ rfl rfl) ?_
  refine sbm (C := fun x => .sl 45 2 (List.map L_wire_Piece x)) 100 rfl fun z1 => ?_
  refine bd fun r2 h3 => ?_
  refine s1 (callL (em := []) [100] [] [] [] rfl (c_wire_Pack _ h3) trivial (pl_tup (pls_cons pl_str (pls_cons pl_bl (pls_nil)))) ⟨.inr ⟨100, rfl, .inl ⟨rfl, .inl ⟨_, _, _, rfl, ifs_map (f := L_wire_Piece) (fun _ => if_L_wire_Piece) z1, rfl⟩⟩⟩, trivial⟩ (fun _ _ h => by cases h) trivial rfl trivial trivial rfl trivial trivial trivial (rn_id (if_tup (ifs_cons if_str (ifs_cons if_bl (ifs_nil))))) rfl) ?_
  refine s1 (mv rfl rfl) ?_
  refine s1 (ext (by exact rfl) rfl rfl) ?_
  refine s1 (ext (by exact rfl) rfl rfl) ?_
  refine s1 (asg rfl rfl) ?_
  refine s1 (asg rfl rfl) ?_
  refine snil ?_
  refine pnm ?_
  refine sseq ?_
  refine sreg ?_
  refine bd fun r4 h5 => ?_
  refine s1 (call0 (c_wire_Unpack _ h5) ⟨⟨_, (kS (s := [97, 61, 48, 50, 58, 120, 121, 59]) rfl), rn_id if_str⟩, trivial⟩ (if_tup (ifs_cons if_sli (ifs_cons if_L_api_Fault (ifs_nil)))) rfl) ?_
  refine s1 (mv rfl rfl) ?_
  refine s1 (ext (by exact rfl) rfl rfl) ?_
  refine s1 (ext (by exact rfl) rfl rfl) ?_
  refine so (al (y := 101) (ly := L_api_Fault (⟨0, 0, 0, 0⟩ : M_api_Fault)) ti_37 zr_api_Fault rfl rfl) ?_
  refine s1 (asg rfl rfl) ?_
  refine so (stB2 (ly2 := L_api_Fault r4.2) [] (by exact rfl) rfl (by exact rfl) sh_37 (by exact rfl) (by exact rfl) (by exact rfl) rfl (.inr ⟨rfl, rfl, _, _, rfl⟩) rfl) ?_
  refine snil ?_
  refine pnm ?_
  refine sjq (fun (s12 : Bool) => [(0, bl s12)]) (fun (s12 : Bool) => []) ?_ ?_
  · intro j10 hj11
    refine sreg ?_
    refine s1 (mv rfl rfl) ?_
    refine s1 (mv rfl rfl) ?_
    refine sifd 17 rfl ?_ ?_
    · refine sg 17 rfl rfl (mv rfl rfl) ?_
      refine sg 17 rfl rfl (eqS rfl rfl (kS (s := [97, 61, 50, 58, 120, 121, 59, 98, 61, 48, 58, 59]) rfl)) ?_
      refine sbn (F := bl) 19 rfl fun z13 => ?_
      refine s1 (pickT rfl rfl rfl) ?_
      refine s1 (mv rfl rfl) ?_
      refine sifd 21 rfl ?_ ?_
      · refine sg 21 rfl rfl (ldB [] rfl rfl sh_37 (by exact rfl) (by exact rfl) rfl rfl (.inr ⟨rfl, rfl, _, _, rfl⟩)) ?_
        refine sg 21 rfl rfl (bld (l := [i64 (1 : Int), i64 0, i64 0, i64 (2 : Int)]) pl_37 ti_37 zr_api_Fault ⟨_, _, _, (kI (x := 1) rfl), rfl, rfl, rfl, (szk (k := 1) rfl rfl), ⟨_, _, _, (kI (x := 2) rfl), rfl, rfl, rfl, (szk (k := 1) rfl rfl), rfl⟩⟩ rfl) ?_
        refine sg 21 rfl rfl (eqA (p := (r4.2 : M_api_Fault)) (q := ((⟨(1 : Int), 0, 0, (2 : Int)⟩ : M_api_Fault) : M_api_Fault)) eq_37_2 rfl eg_37 rfl rfl rfl) ?_
        refine s1 (pickT rfl rfl rfl) ?_
        refine s1 (mv rfl rfl) ?_
        refine sifd 26 rfl ?_ ?_
        · refine sg 26 rfl rfl (bld (l := [i64 (3 : Int), i64 (3 : Int), i64 0, i64 (5 : Int)]) pl_37 ti_37 zr_api_Fault ⟨_, _, _, (kI (x := 3) rfl), rfl, rfl, rfl, (szk (k := 1) rfl rfl), ⟨_, _, _, (kI (x := 3) rfl), rfl, rfl, rfl, (szk (k := 1) rfl rfl), ⟨_, _, _, (kI (x := 5) rfl), rfl, rfl, rfl, (szk (k := 1) rfl rfl), rfl⟩⟩⟩ rfl) ?_
          refine bd fun r14 h15 => ?_
          refine sg 26 rfl rfl (call0 (c_wire_Fault _ h15) ⟨⟨_, rfl, rn_id if_L_api_Fault⟩, trivial⟩ (if_str) rfl) ?_
          refine sg 26 rfl rfl (eqS rfl rfl (kS (s := [112, 111, 108, 101, 32, 51, 32, 48, 32, 53]) rfl)) ?_
          refine sbn (F := bl) 29 rfl fun z16 => ?_
          refine s1 (pickT rfl rfl rfl) ?_
          refine s1 (asg rfl rfl) ?_
          refine snil ?_
          refine pnm ?_
          exact sj (hj11 _) (entR [] rfl (keepS hγ trivial) (by exact trivial) (by exact trivial) ⟨⟨_, rfl, rn_id if_bl⟩, trivial⟩)
        · refine spB 26 rfl rfl rfl ?_
          refine spB 26 rfl rfl rfl ?_
          refine spB 26 rfl rfl rfl ?_
          refine s1 (pickF rfl rfl kB) ?_
          refine s1 (asg rfl rfl) ?_
          refine snil ?_
          refine pnm ?_
          exact sj (hj11 _) (entR [] rfl (keepS hγ trivial) (by exact trivial) (by exact trivial) ⟨⟨_, rfl, rn_id if_bl⟩, trivial⟩)
      · refine spB 21 rfl rfl rfl ?_
        refine spB 21 rfl rfl rfl ?_
        refine spB 21 rfl rfl rfl ?_
        refine s1 (pickF rfl rfl kB) ?_
        refine s1 (mv rfl rfl) ?_
        refine spB 26 rfl rfl rfl ?_
        refine spB 26 rfl rfl rfl ?_
        refine spB 26 rfl rfl rfl ?_
        refine s1 (pickF rfl rfl kB) ?_
        refine s1 (asg rfl rfl) ?_
        refine snil ?_
        refine pnm ?_
        exact sj (hj11 _) (entR [] rfl (keepS hγ trivial) (by exact trivial) (by exact trivial) ⟨⟨_, rfl, rn_id if_bl⟩, trivial⟩)
    · refine spB 17 rfl rfl rfl ?_
      refine spB 17 rfl rfl rfl ?_
      refine s1 (pickF rfl rfl kB) ?_
      refine s1 (mv rfl rfl) ?_
      refine spB 21 rfl rfl rfl ?_
      refine spB 21 rfl rfl rfl ?_
      refine spB 21 rfl rfl rfl ?_
      refine s1 (pickF rfl rfl kB) ?_
      refine s1 (mv rfl rfl) ?_
      refine spB 26 rfl rfl rfl ?_
      refine spB 26 rfl rfl rfl ?_
      refine spB 26 rfl rfl rfl ?_
      refine s1 (pickF rfl rfl kB) ?_
      refine s1 (asg rfl rfl) ?_
      refine snil ?_
      refine pnm ?_
      exact sj (hj11 _) (entR [] rfl (keepS hγ trivial) (by exact trivial) (by exact trivial) ⟨⟨_, rfl, rn_id if_bl⟩, trivial⟩)
  · intro s12
    refine sret ?_
    exact ret [] [.tmp 0] [_] [_] .ret hγ (.inl rfl) rfl ⟨rfl, trivial⟩ rfl trivial trivial trivial (rns_cons (rn_id if_bl) (rns_nil)) rfl
theorem c_wire_number {x0 : (List UInt8)} : ∀ r, m_wire_number x0 = some r → FnOk Tryz.prog 24 [str x0] [] (.tup [i64 r.1, bl r.2]) [] := by
  unfold m_wire_number
  refine fn_of_sq (res := fun (r : Int × Bool) => .tup [i64 r.1, bl r.2]) (mo := fun (r : Int × Bool) => []) Tryz.func24 rfl rfl (by kernel_rfl) rfl ?_
  intro w S0 γ hγ
  refine sseq ?_
  refine sreg ?_
  refine s1 (asg rfl (kI (x := 0) rfl)) ?_
  refine s1 (asg rfl kB) ?_
  refine snil ?_
  refine pnm ?_
  refine sseq ?_
  refine sreg ?_
  refine s1 (mv rfl rfl) ?_
  refine bd fun r1 h2 => ?_
  refine s1 (call0 (c_strconv_Atoi _ h2) ⟨⟨_, rfl, rn_id if_str⟩, trivial⟩ (if_tup (ifs_cons if_i64 (ifs_cons if_erl (ifs_nil)))) rfl) ?_
  refine s1 (mv rfl rfl) ?_
  refine s1 (ext (by exact rfl) rfl rfl) ?_
  refine s1 (ext (by exact rfl) rfl rfl) ?_
  refine s1 (asg rfl rfl) ?_
  refine s1 (asg rfl rfl) ?_
  refine snil ?_
  refine pnm ?_
  refine sjq (fun (s7 : Bool) => [(2, i64 r1.1), (3, bl s7)]) (fun (s7 : Bool) => []) ?_ ?_
  · intro j5 hj6
    refine sreg ?_
    refine s1 (mv rfl rfl) ?_
    refine s1 (mv rfl rfl) ?_
    refine s1 (eqE Tryz.underlying54 rfl rfl) ?_
    refine s1 (mv rfl rfl) ?_
    refine sifd 14 rfl ?_ ?_
    · refine sg 14 rfl rfl (mv rfl rfl) ?_
      refine bd fun r8 h9 => ?_
      refine sg 14 rfl rfl (call0 (c_strconv_Itoa _ h9) ⟨⟨_, rfl, rn_id if_i64⟩, trivial⟩ (if_str) rfl) ?_
      refine sg 14 rfl rfl (mv rfl rfl) ?_
      refine sg 14 rfl rfl (eqS rfl rfl rfl) ?_
      refine s1 (pickT rfl rfl rfl) ?_
      refine s1 (mv rfl rfl) ?_
      refine sifd 20 rfl ?_ ?_
      · refine sg 20 rfl rfl (mv rfl rfl) ?_
        refine sg 20 rfl rfl (geI rfl rfl (kI (x := (-1000000)) rfl)) ?_
        refine s1 (pickT rfl rfl rfl) ?_
        refine s1 (mv rfl rfl) ?_
        refine sifd 24 rfl ?_ ?_
        · refine sg 24 rfl rfl (mv rfl rfl) ?_
          refine sg 24 rfl rfl (leI rfl rfl (kI (x := 1000000) rfl)) ?_
          refine s1 (pickT rfl rfl rfl) ?_
          refine s1 (asg rfl rfl) ?_
          refine s1 (asg rfl rfl) ?_
          refine snil ?_
          refine pnm ?_
          exact sj (hj6 _) (entI ⟨rfl, rfl, trivial⟩ eqm0)
        · refine spB 24 rfl rfl rfl ?_
          refine spB 24 rfl rfl rfl ?_
          refine s1 (pickF rfl rfl kB) ?_
          refine s1 (asg rfl rfl) ?_
          refine s1 (asg rfl rfl) ?_
          refine snil ?_
          refine pnm ?_
          exact sj (hj6 _) (entI ⟨rfl, rfl, trivial⟩ eqm0)
      · refine spB 20 rfl rfl rfl ?_
        refine spB 20 rfl rfl rfl ?_
        refine s1 (pickF rfl rfl kB) ?_
        refine s1 (mv rfl rfl) ?_
        refine spB 24 rfl rfl rfl ?_
        refine spB 24 rfl rfl rfl ?_
        refine s1 (pickF rfl rfl kB) ?_
        refine s1 (asg rfl rfl) ?_
        refine s1 (asg rfl rfl) ?_
        refine snil ?_
        refine pnm ?_
        exact sj (hj6 _) (entI ⟨rfl, rfl, trivial⟩ eqm0)
    · refine spB 14 rfl rfl rfl ?_
      refine spB 14 rfl rfl rfl ?_
      refine spB 14 rfl rfl rfl ?_
      refine spB 14 rfl rfl rfl ?_
      refine s1 (pickF rfl rfl kB) ?_
      refine s1 (mv rfl rfl) ?_
      refine spB 20 rfl rfl rfl ?_
      refine spB 20 rfl rfl rfl ?_
      refine s1 (pickF rfl rfl kB) ?_
      refine s1 (mv rfl rfl) ?_
      refine spB 24 rfl rfl rfl ?_
      refine spB 24 rfl rfl rfl ?_
      refine s1 (pickF rfl rfl kB) ?_
      refine s1 (asg rfl rfl) ?_
      refine s1 (asg rfl rfl) ?_
      refine snil ?_
      refine pnm ?_
      exact sj (hj6 _) (entI ⟨rfl, rfl, trivial⟩ eqm0)
  · intro s7
    refine sret ?_
    exact ret [] [.tmp 2, .tmp 3] [_, _] [_, _] .ret hγ (.inl rfl) rfl ⟨rfl, rfl, trivial⟩ rfl trivial trivial trivial (rns_cons (rn_id if_i64) (rns_cons (rn_id if_bl) (rns_nil))) rfl
theorem c_wire_Unfault {x0 : (List UInt8)} : ∀ r, m_wire_Unfault x0 = some r → FnOk Tryz.prog 12 [str x0] [] (.tup [L_api_Fault r.1, bl r.2]) [] := by
  unfold m_wire_Unfault
  refine fn_of_sq (res := fun (r : M_api_Fault × Bool) => .tup [L_api_Fault r.1, bl r.2]) (mo := fun (r : M_api_Fault × Bool) => []) Tryz.func12 rfl rfl (by kernel_rfl) rfl ?_
  intro w S0 γ hγ
  refine sseq ?_
  refine sreg ?_
  refine so (al (y := 100) (ly := L_api_Fault (⟨0, 0, 0, 0⟩ : M_api_Fault)) ti_37 zr_api_Fault rfl rfl) ?_
  refine s1 (asg rfl kB) ?_
  refine snil ?_
  refine pnm ?_
  refine sseq ?_
  refine sreg ?_
  refine s1 (mv rfl rfl) ?_
  refine bd fun r1 h2 => ?_
  refine s1 (call0 (c_strings_Split _ h2) ⟨⟨_, rfl, rn_id if_str⟩, ⟨_, (kS (s := [32]) rfl), rn_id if_str⟩, trivial⟩ (if_sli) rfl) ?_
  refine s1 (asg rfl rfl) ?_
  refine snil ?_
  refine pnm ?_
  refine sseq ?_
  refine sseq ?_
  refine sreg ?_
  refine s1 (mv rfl rfl) ?_
  refine s1 (lenL (f := str) Tryz.underlying60 rfl rfl) ?_
  refine s1 (neI rfl rfl (kI (x := 4) rfl)) ?_
  refine snil ?_
  refine pnm ?_
  refine scond rfl ?_ ?_
  · refine sseq ?_
    refine sreg ?_
    refine s1 (bld (l := [i64 0, i64 0, i64 0, i64 0]) pl_37 ti_37 zr_api_Fault rfl rfl) ?_
    refine so (stB2 (ly2 := L_api_Fault (⟨0, 0, 0, 0⟩ : M_api_Fault)) [] (by exact rfl) rfl (by exact rfl) sh_37 (by exact rfl) (by exact rfl) (by exact rfl) rfl (.inr ⟨rfl, rfl, _, _, rfl⟩) rfl) ?_
    refine s1 (asg rfl kB) ?_
    refine snil ?_
    refine pnm ?_
    refine sret ?_
    refine pth ?_
    exact ret [] [.cell 2 37, .tmp 3] [_, _] [_, _] .ret hγ (.inl rfl) rfl ⟨⟨100, _, rfl, rfl, sh_37⟩, rfl, trivial⟩ rfl trivial trivial trivial (rns_cons (rn_id if_L_api_Fault) (rns_cons (rn_id if_bl) (rns_nil))) rfl
  · refine sskip ?_
    refine pnm ?_
    refine sseq ?_
    refine sreg ?_
    refine so (al (y := 101) (ly := L_A3_i64 (⟨0, 0, 0⟩ : M_A3_i64)) ti_62 zr_A3_i64 rfl rfl) ?_
    refine snil ?_
    refine pnm ?_
    refine sseq ?_
    refine sseq ?_
    refine sreg ?_
    refine s1 (mv rfl rfl) ?_
    refine bd fun y3 h4 => ?_
    refine s1 (slR (f := str) h4 Tryz.underlying60 ti_9 rfl rfl (bnd (kI (x := 1) rfl)) bnd0) ?_
    refine s1 (lenL (f := str) Tryz.underlying60 rfl rfl) ?_
    refine s1 (mv rfl (kI (x := 0) rfl)) ?_
    refine snil ?_
    refine pnm ?_
    refine sblk ?_
    refine srangeN (fun (s22 : M_A3_i64) => [(2, .own 100), (3, bl false), (4, sli 1 (List.map str r1)), (5, .own 101), (19, sli 1 (List.map str y3))]) (fun (s22 : M_A3_i64) => [(100, .bx 37 (L_api_Fault (⟨0, 0, 0, 0⟩ : M_api_Fault))), (101, .bx 62 (L_A3_i64 s22))]) rfl (fun _ => rfl) (entR [(100, 100), (101, 101)] rfl (keepS hγ trivial) ⟨⟨_, rfl⟩, ⟨_, rfl⟩, trivial⟩ ⟨⟨_, _, rfl, rfl, rci (rc_bx (rn_id if_L_api_Fault))⟩, ⟨_, _, rfl, rfl, rci (rc_bx (rn_id if_L_A3_i64))⟩, trivial⟩ ⟨⟨_, rfl, rn_id if_i64⟩, ⟨_, rfl, rn_id if_i64⟩, ⟨_, rfl, rn_own rfl⟩, ⟨_, rfl, rn_id if_bl⟩, ⟨_, rfl, rn_id if_sli⟩, ⟨_, rfl, rn_own rfl⟩, ⟨_, rfl, rn_id if_sli⟩, trivial⟩) ?_ ?_
    · intro i23 x24 s22 hx25
      refine sblk ?_
      refine sseq ?_
      refine sreg ?_
      refine s1 (mv rfl rfl) ?_
      refine s1 (ixR (f := str) Tryz.underlying60 ti_9 (getI_nat hx25) rfl rfl rfl) ?_
      refine s1 (ldR sh_9 (by exact rfl) (by exact rfl) rfl rfl) ?_
      refine s1 (asg rfl rfl) ?_
      refine s1 (asg rfl rfl) ?_
      refine snil ?_
      refine pnm ?_
      refine sseq ?_
      refine sreg ?_
      refine s1 (mv rfl rfl) ?_
      refine bd fun r26 h27 => ?_
      refine s1 (call0 (c_wire_number _ h27) ⟨⟨_, rfl, rn_id if_str⟩, trivial⟩ (if_tup (ifs_cons if_i64 (ifs_cons if_bl (ifs_nil)))) rfl) ?_
      refine s1 (mv rfl rfl) ?_
      refine s1 (ext (by exact rfl) rfl rfl) ?_
      refine s1 (ext (by exact rfl) rfl rfl) ?_
      refine s1 (asg rfl rfl) ?_
      refine s1 (asg rfl rfl) ?_
      refine snil ?_
      refine pnm ?_
      refine sseq ?_
      refine sseq ?_
      refine sreg ?_
      refine s1 (mv rfl rfl) ?_
      refine s1 (notB rfl rfl) ?_
      refine snil ?_
      refine pnm ?_
      refine scond rfl ?_ ?_
      · refine sseq ?_
        refine sreg ?_
        refine s1 (bld (l := [i64 0, i64 0, i64 0, i64 0]) pl_37 ti_37 zr_api_Fault rfl rfl) ?_
        refine so (stB2 (ly2 := L_api_Fault (⟨0, 0, 0, 0⟩ : M_api_Fault)) [] (by exact rfl) rfl (by exact rfl) sh_37 (by exact rfl) (by exact rfl) (by exact rfl) rfl (.inr ⟨rfl, rfl, _, _, rfl⟩) rfl) ?_
        refine s1 (asg rfl kB) ?_
        refine snil ?_
        refine pnm ?_
        refine sret ?_
        refine pth ?_
        refine pbl ?_
        refine sout (fun h => by cases h) ?_
        refine pbl ?_
        refine pth ?_
        exact ret [] [.cell 2 37, .tmp 3] [_, _] [_, _] .ret hγ (.inl rfl) rfl ⟨⟨100, _, rfl, rfl, sh_37⟩, rfl, trivial⟩ rfl trivial trivial trivial (rns_cons (rn_id if_L_api_Fault) (rns_cons (rn_id if_bl) (rns_nil))) rfl
      · refine sskip ?_
        refine pnm ?_
        refine sreg ?_
        refine s1 (mv rfl rfl) ?_
        refine s1 (mv rfl rfl) ?_
        refine bd fun y28 h29 => ?_
        refine s1 (ixAO Tryz.underlying62 ti_3 (getI_dec (n := 3) rfl h29) (.inr ⟨rfl, rfl, _, _, rfl⟩) rfl rfl rfl) ?_
        refine so (stB2 (ly := .agg (List.map i64 ([s22.a0, s22.a1, s22.a2] : List Int))) (ly2 := L_A3_i64 (ofl_A3_i64 (List.set ([s22.a0, s22.a1, s22.a2] : List Int) (Int.toNat (i23 : Int)) r26.1))) (ln := i64 r26.1) [Int.toNat (i23 : Int)] (puA0 (f := i64) h29 (ofl_ok_A3_i64 _ (List.length_set.trans rfl))) rfl (goA0 (f := i64) (fun _ => rfl) h29) sh_3 (by exact rfl) (by exact rfl) (by exact rfl) rfl (.inl rfl) rfl) ?_
        refine snil ?_
        refine pbn ?_
        exact sgo (entR [(100, 100), (101, 101)] rfl (keepS hγ trivial) ⟨⟨_, rfl⟩, ⟨_, rfl⟩, trivial⟩ ⟨⟨_, _, rfl, rfl, rci (rc_bx (rn_id if_L_api_Fault))⟩, ⟨_, _, rfl, rfl, rci (rc_bx (rn_id if_L_A3_i64))⟩, trivial⟩ ⟨⟨_, rfl, rn_id if_i64⟩, ⟨_, rfl, rn_id if_i64⟩, ⟨_, rfl, rn_own rfl⟩, ⟨_, rfl, rn_id if_bl⟩, ⟨_, rfl, rn_id if_sli⟩, ⟨_, rfl, rn_own rfl⟩, ⟨_, rfl, rn_id if_sli⟩, trivial⟩)
    · intro s30
      refine sx ?_
      refine pnm ?_
      refine sseq ?_
      refine sseq ?_
      refine sreg ?_
      refine bd fun r31 h32 => ?_
      refine s1 (call0 (c_wire_kinds _ h32) trivial (if_sli) rfl) ?_
      refine s1 (lenL (f := str) Tryz.underlying60 rfl rfl) ?_
      refine s1 (mv rfl (kI (x := 0) rfl)) ?_
      refine snil ?_
      refine pnm ?_
      refine sblk ?_
      refine srangeN (fun (s40 : Unit) => [(2, .own 100), (3, bl false), (4, sli 1 (List.map str r1)), (5, .own 101), (38, sli 1 (List.map str r31))]) (fun (s40 : Unit) => [(100, .bx 37 (L_api_Fault (⟨0, 0, 0, 0⟩ : M_api_Fault))), (101, .bx 62 (L_A3_i64 s30))]) rfl (fun _ => rfl) (entR [(100, 100), (101, 101)] rfl (keepS hγ trivial) ⟨⟨_, rfl⟩, ⟨_, rfl⟩, trivial⟩ ⟨⟨_, _, rfl, rfl, rci (rc_bx (rn_id if_L_api_Fault))⟩, ⟨_, _, rfl, rfl, rci (rc_bx (rn_id if_L_A3_i64))⟩, trivial⟩ ⟨⟨_, rfl, rn_id if_i64⟩, ⟨_, rfl, rn_id if_i64⟩, ⟨_, rfl, rn_own rfl⟩, ⟨_, rfl, rn_id if_bl⟩, ⟨_, rfl, rn_id if_sli⟩, ⟨_, rfl, rn_own rfl⟩, ⟨_, rfl, rn_id if_sli⟩, trivial⟩) ?_ ?_
      · intro i41 x42 s40 hx43
        refine sblk ?_
        refine sseq ?_
        refine sreg ?_
        refine s1 (mv rfl rfl) ?_
        refine s1 (ixR (f := str) Tryz.underlying60 ti_9 (getI_nat hx43) rfl rfl rfl) ?_
        refine s1 (ldR sh_9 (by exact rfl) (by exact rfl) rfl rfl) ?_
        refine s1 (asg rfl rfl) ?_
        refine s1 (asg rfl rfl) ?_
        refine snil ?_
        refine pnm ?_
        refine sseq ?_
        refine sreg ?_
        refine s1 (mv rfl rfl) ?_
        refine s1 (mv rfl rfl) ?_
        refine bd fun y44 h45 => ?_
        refine s1 (ixR (f := str) Tryz.underlying60 ti_9 h45 rfl rfl (kI (x := 0) rfl)) ?_
        refine s1 (ldR sh_9 (by exact rfl) (by exact rfl) rfl rfl) ?_
        refine s1 (eqS rfl rfl rfl) ?_
        refine snil ?_
        refine pnm ?_
        refine scond rfl ?_ ?_
        · refine sseq ?_
          refine sreg ?_
          refine s1 (mv rfl rfl) ?_
          refine s1 (ixAO Tryz.underlying62 ti_3 rfl (.inr ⟨rfl, rfl, _, _, rfl⟩) rfl rfl (kI (x := 0) rfl)) ?_
          refine s1 (ldB [0] rfl (by exact rfl) sh_3 (by exact rfl) (by exact rfl) rfl rfl (.inl rfl)) ?_
          refine s1 (ixAO Tryz.underlying62 ti_3 rfl (.inr ⟨rfl, rfl, _, _, rfl⟩) rfl rfl (kI (x := 1) rfl)) ?_
          refine s1 (ldB [1] rfl (by exact rfl) sh_3 (by exact rfl) (by exact rfl) rfl rfl (.inl rfl)) ?_
          refine s1 (ixAO Tryz.underlying62 ti_3 rfl (.inr ⟨rfl, rfl, _, _, rfl⟩) rfl rfl (kI (x := 2) rfl)) ?_
          refine s1 (ldB [2] rfl (by exact rfl) sh_3 (by exact rfl) (by exact rfl) rfl rfl (.inl rfl)) ?_
          refine s1 (bld (l := [i64 (i41 : Int), i64 s30.a0, i64 s30.a1, i64 s30.a2]) pl_37 ti_37 zr_api_Fault ⟨_, _, _, rfl, rfl, rfl, rfl, (szk (k := 1) rfl rfl), ⟨_, _, _, rfl, rfl, rfl, rfl, (szk (k := 1) rfl rfl), ⟨_, _, _, rfl, rfl, rfl, rfl, (szk (k := 1) rfl rfl), ⟨_, _, _, rfl, rfl, rfl, rfl, (szk (k := 1) rfl rfl), rfl⟩⟩⟩⟩ rfl) ?_
          refine so (stB2 (ly2 := L_api_Fault (⟨(i41 : Int), s30.a0, s30.a1, s30.a2⟩ : M_api_Fault)) [] (by exact rfl) rfl (by exact rfl) sh_37 (by exact rfl) (by exact rfl) (by exact rfl) rfl (.inr ⟨rfl, rfl, _, _, rfl⟩) rfl) ?_
          refine s1 (asg rfl kB) ?_
          refine snil ?_
          refine pnm ?_
          refine sret ?_
          refine pbl ?_
          refine sout (fun h => by cases h) ?_
          refine pbl ?_
          refine pth ?_
          exact ret [] [.cell 2 37, .tmp 3] [_, _] [_, _] .ret hγ (.inl rfl) rfl ⟨⟨100, _, rfl, rfl, sh_37⟩, rfl, trivial⟩ rfl trivial trivial trivial (rns_cons (rn_id if_L_api_Fault) (rns_cons (rn_id if_bl) (rns_nil))) rfl
        · refine sskip ?_
          refine pbn ?_
          exact sgo (entR [(100, 100), (101, 101)] rfl (keepS hγ trivial) ⟨⟨_, rfl⟩, ⟨_, rfl⟩, trivial⟩ ⟨⟨_, _, rfl, rfl, rci (rc_bx (rn_id if_L_api_Fault))⟩, ⟨_, _, rfl, rfl, rci (rc_bx (rn_id if_L_A3_i64))⟩, trivial⟩ ⟨⟨_, rfl, rn_id if_i64⟩, ⟨_, rfl, rn_id if_i64⟩, ⟨_, rfl, rn_own rfl⟩, ⟨_, rfl, rn_id if_bl⟩, ⟨_, rfl, rn_id if_sli⟩, ⟨_, rfl, rn_own rfl⟩, ⟨_, rfl, rn_id if_sli⟩, trivial⟩)
      · intro s46
        refine sx ?_
        refine pnm ?_
        refine sseq ?_
        refine sreg ?_
        refine s1 (bld (l := [i64 0, i64 0, i64 0, i64 0]) pl_37 ti_37 zr_api_Fault rfl rfl) ?_
        refine so (stB2 (ly2 := L_api_Fault (⟨0, 0, 0, 0⟩ : M_api_Fault)) [] (by exact rfl) rfl (by exact rfl) sh_37 (by exact rfl) (by exact rfl) (by exact rfl) rfl (.inr ⟨rfl, rfl, _, _, rfl⟩) rfl) ?_
        refine s1 (asg rfl kB) ?_
        refine snil ?_
        refine pnm ?_
        refine sret ?_
        exact ret [] [.cell 2 37, .tmp 3] [_, _] [_, _] .ret hγ (.inl rfl) rfl ⟨⟨100, _, rfl, rfl, sh_37⟩, rfl, trivial⟩ rfl trivial trivial trivial (rns_cons (rn_id if_L_api_Fault) (rns_cons (rn_id if_bl) (rns_nil))) rfl
theorem c_retrospectref48_Kinds  : ∀ r, m_retrospectref48_Kinds  = some r → FnOk Tryz.prog 26 [] [] (sli 1 (List.map str r)) [] := by
  unfold m_retrospectref48_Kinds
  refine fn_of_sq (res := fun (r : (List (List UInt8))) => sli 1 (List.map str r)) (mo := fun (r : (List (List UInt8))) => []) Tryz.func26 rfl rfl (by kernel_rfl) rfl ?_
  intro w S0 γ hγ
  refine sseq ?_
  refine sreg ?_
  refine s1 (asg rfl (kLm (k := 1) str)) ?_
  refine snil ?_
  refine pnm ?_
  refine sseq ?_
  refine sreg ?_
  refine so (bsl (y := 100) (ls := List.map str ([([111, 107] : List UInt8), ([112, 97, 114, 115, 101] : List UInt8), ([102, 111, 114, 109] : List UInt8), ([112, 111, 108, 101] : List UInt8), ([117, 110, 100, 101, 114, 102, 108, 111, 119] : List UInt8), ([115, 116, 101, 112, 115] : List UInt8), ([98, 105, 116, 115] : List UInt8), ([114, 97, 110, 103, 101] : List UInt8), ([115, 104, 117, 116] : List UInt8)] : List (List UInt8))) Tryz.underlying60 ti_9 rfl rfl rfl rfl rfl ⟨rfl, (kS (s := [111, 107]) rfl), (by exact rfl), (by exact rfl), rfl, (kS (s := [112, 97, 114, 115, 101]) rfl), (by exact rfl), (by exact rfl), rfl, (kS (s := [102, 111, 114, 109]) rfl), (by exact rfl), (by exact rfl), rfl, (kS (s := [112, 111, 108, 101]) rfl), (by exact rfl), (by exact rfl), rfl, (kS (s := [117, 110, 100, 101, 114, 102, 108, 111, 119]) rfl), (by exact rfl), (by exact rfl), rfl, (kS (s := [115, 116, 101, 112, 115]) rfl), (by exact rfl), (by exact rfl), rfl, (kS (s := [98, 105, 116, 115]) rfl), (by exact rfl), (by exact rfl), rfl, (kS (s := [114, 97, 110, 103, 101]) rfl), (by exact rfl), (by exact rfl), rfl, (kS (s := [115, 104, 117, 116]) rfl), (by exact rfl), (by exact rfl), trivial⟩ rfl rfl) ?_
  refine sbm (C := fun x => .sl 9 1 (List.map str x)) 100 rfl fun z1 => ?_
  refine s1 (asg rfl rfl) ?_
  refine snil ?_
  refine pnm ?_
  refine sret ?_
  refine frz (id := 100) [(0, sli 1 (List.map str z1)), (1, sli 1 (List.map str z1))] [] rfl (ifs_map (f := str) (fun _ => if_str) z1) ⟨⟨_, rfl, fz_own⟩, ⟨_, rfl, fz_own⟩, trivial⟩ trivial ?_
  exact ret [] [.tmp 0] [_] [_] .ret hγ (.inl rfl) rfl ⟨rfl, trivial⟩ rfl trivial trivial trivial (rns_cons (rn_id if_sli) (rns_nil)) rfl
theorem c_retrospectref07_Wrong {n : Nat} {x0 : (List UInt8)} : ∀ r, m_retrospectref07_Wrong n x0 = some r → FnOk Tryz.prog 38 [str x0] [] (i64 r) [] := by
  unfold m_retrospectref07_Wrong
  refine fn_of_sq (res := fun (r : Int) => i64 r) (mo := fun (r : Int) => []) Tryz.func38 rfl rfl (by kernel_rfl) rfl ?_
  intro w S0 γ hγ
  refine sseq ?_
  refine sreg ?_
  refine s1 (asg rfl (kI (x := 0) rfl)) ?_
  refine snil ?_
  refine pnm ?_
  refine sseq ?_
  refine sseq ?_
  refine sreg ?_
  refine s1 (mv rfl rfl) ?_
  refine s1 (eqS rfl rfl (kS (s := []) rfl)) ?_
  refine snil ?_
  refine pnm ?_
  refine scond rfl ?_ ?_
  · refine sseq ?_
    refine sreg ?_
    refine s1 (asg rfl (kI (x := 0) rfl)) ?_
    refine snil ?_
    refine pnm ?_
    refine sret ?_
    refine pth ?_
    exact ret [] [.tmp 2] [_] [_] .ret hγ (.inl rfl) rfl ⟨rfl, trivial⟩ rfl trivial trivial trivial (rns_cons (rn_id if_i64) (rns_nil)) rfl
  · refine sskip ?_
    refine pnm ?_
    refine sseq ?_
    refine sseq ?_
    refine sreg ?_
    refine s1 (asg rfl (kI (x := 0) rfl)) ?_
    refine snil ?_
    refine pnm ?_
    refine sblk ?_
    refine sloopE 0 Lp.go (fun (s27 : Int) => [(0, str x0), (2, i64 (0 : Int)), (3, i64 s27)]) (fun (s27 : Int) => []) (fun (t25 : Unit) => [(2, i64 (0 : Int))]) (fun (t25 : Unit) => []) (entI ⟨rfl, rfl, rfl, trivial⟩ eqm0) ?_ ?_
    · intro hj26 s27
      refine sseq ?_
      refine sseq ?_
      refine sreg ?_
      refine s1 (mv rfl rfl) ?_
      refine s1 (mv rfl rfl) ?_
      refine s1 (lenS Tryz.underlying9 rfl rfl) ?_
      refine s1 (ltI rfl rfl rfl) ?_
      refine snil ?_
      refine pnm ?_
      refine scond rfl ?_ ?_
      · refine sskip ?_
        refine pnm ?_
        refine sseq ?_
        refine sblk ?_
        refine sjq (fun (s34 : Bool) => [(0, str x0), (2, i64 (0 : Int)), (3, i64 s27), (25, bl s34)]) (fun (s34 : Bool) => []) ?_ ?_
        · intro j32 hj33
          refine sreg ?_
          refine s1 (mv rfl rfl) ?_
          refine s1 (mv rfl rfl) ?_
          refine bd fun y35 h36 => ?_
          refine s1 (ixS Tryz.underlying9 h36 rfl rfl rfl) ?_
          refine s1 (ltU .u8 rfl rfl (k8 (x := 48) rfl)) ?_
          refine s1 (mv rfl rfl) ?_
          refine sifd 16 rfl ?_ ?_
          · refine spB 16 rfl rfl rfl ?_
            refine spB 16 rfl rfl rfl ?_
            refine spB 16 rfl rfl rfl ?_
            refine spB 16 rfl rfl rfl ?_
            refine s1 (pickT rfl rfl kB) ?_
            refine s1 (mv rfl rfl) ?_
            refine spB 22 rfl rfl rfl ?_
            refine spB 22 rfl rfl rfl ?_
            refine s1 (pickT rfl rfl kB) ?_
            refine snil ?_
            refine pnm ?_
            exact sj (hj33 _) (entI ⟨rfl, rfl, rfl, rfl, trivial⟩ eqm0)
          · refine sg 16 rfl rfl (mv rfl rfl) ?_
            refine sg 16 rfl rfl (mv rfl rfl) ?_
            refine bd fun y37 h38 => ?_
            refine sg 16 rfl rfl (ixS Tryz.underlying9 h38 rfl rfl rfl) ?_
            refine sg 16 rfl rfl (gtU .u8 rfl rfl (k8 (x := 57) rfl)) ?_
            refine s1 (pickF rfl rfl rfl) ?_
            refine s1 (mv rfl rfl) ?_
            refine sifd 22 rfl ?_ ?_
            · refine spB 22 rfl rfl rfl ?_
              refine spB 22 rfl rfl rfl ?_
              refine s1 (pickT rfl rfl kB) ?_
              refine snil ?_
              refine pnm ?_
              exact sj (hj33 _) (entI ⟨rfl, rfl, rfl, rfl, trivial⟩ eqm0)
            · refine sg 22 rfl rfl (mv rfl rfl) ?_
              refine sg 22 rfl rfl (geI rfl rfl (kI (x := 60) rfl)) ?_
              refine s1 (pickF rfl rfl rfl) ?_
              refine snil ?_
              refine pnm ?_
              exact sj (hj33 _) (entI ⟨rfl, rfl, rfl, rfl, trivial⟩ eqm0)
        · intro s34
          refine scond rfl ?_ ?_
          · refine sseq ?_
            refine sreg ?_
            refine s1 (mv rfl rfl) ?_
            refine s1 (asg rfl rfl) ?_
            refine snil ?_
            refine pnm ?_
            refine sret ?_
            refine pbl ?_
            refine pth ?_
            refine sout (fun h => by cases h) ?_
            refine pbl ?_
            refine pth ?_
            exact ret [] [.tmp 2] [_] [_] .ret hγ (.inl rfl) rfl ⟨rfl, trivial⟩ rfl trivial trivial trivial (rns_cons (rn_id if_i64) (rns_nil)) rfl
          · refine sskip ?_
            refine pbn ?_
            refine pnm ?_
            refine sreg ?_
            refine s1 (mv rfl rfl) ?_
            refine s1 (addI rfl rfl (kI (x := 1) rfl)) ?_
            refine s1 (asg rfl rfl) ?_
            refine snil ?_
            exact sgo (entI ⟨rfl, rfl, rfl, trivial⟩ eqm0)
      · refine sexit ?_
        refine ptx ?_
        exact sout (fun h => by cases h) (sj (hj26 _) (entI ⟨rfl, trivial⟩ eqm0))
    · intro t25
      refine slpk ?_
      refine sx ?_
      refine pnm ?_
      refine sseq ?_
      refine sreg ?_
      refine s1 (asg rfl (kI (x := (-1)) rfl)) ?_
      refine snil ?_
      refine pnm ?_
      refine sret ?_
      exact ret [] [.tmp 2] [_] [_] .ret hγ (.inl rfl) rfl ⟨rfl, trivial⟩ rfl trivial trivial trivial (rns_cons (rn_id if_i64) (rns_nil)) rfl
theorem c_retrospectref02_Norm {n : Nat} {x0 : (List Nat)} : ∀ r, m_retrospectref02_Norm n x0 = some r → FnOk Tryz.prog 58 [sli 1 (List.map u32 x0)] [] (.own 50) [(50, .sl 107 1 (List.map u32 r))] := by
  unfold m_retrospectref02_Norm
  refine fn_of_sq (res := fun (r : (List Nat)) => .own 50) (mo := fun (r : (List Nat)) => [(50, .sl 107 1 (List.map u32 r))]) Tryz.func58 rfl rfl (by kernel_rfl) rfl ?_
  intro w S0 γ hγ
  refine sseq ?_
  refine sreg ?_
  refine s1 (asg rfl (kLm (k := 1) u32)) ?_
  refine snil ?_
  refine pnm ?_
  refine sseq ?_
  refine sreg ?_
  refine s1 (mv rfl rfl) ?_
  refine s1 (lenL (f := u32) Tryz.underlying67 rfl rfl) ?_
  refine s1 (asg rfl rfl) ?_
  refine snil ?_
  refine pnm ?_
  refine sseq ?_
  refine sblk ?_
  refine sloopE 0 (fun t => t) (fun (s19 : Int) => [(0, sli 1 (List.map u32 x0)), (2, sli 1 (List.map u32 ([] : List Nat))), (3, i64 s19)]) (fun (s19 : Int) => []) (fun (t17 : Int) => [(0, sli 1 (List.map u32 x0)), (2, sli 1 (List.map u32 ([] : List Nat))), (3, i64 t17)]) (fun (t17 : Int) => []) (entI ⟨rfl, rfl, rfl, trivial⟩ eqm0) ?_ ?_
  · intro hj18 s19
    refine sseq ?_
    refine sjq (fun (s24 : Bool) => [(0, sli 1 (List.map u32 x0)), (2, sli 1 (List.map u32 ([] : List Nat))), (3, i64 s19), (15, bl s24)]) (fun (s24 : Bool) => []) ?_ ?_
    · intro j22 hj23
      refine sreg ?_
      refine s1 (mv rfl rfl) ?_
      refine s1 (gtI rfl rfl (kI (x := 0) rfl)) ?_
      refine s1 (mv rfl rfl) ?_
      refine sifd 8 rfl ?_ ?_
      · refine sg 8 rfl rfl (mv rfl rfl) ?_
        refine sg 8 rfl rfl (mv rfl rfl) ?_
        refine sg 8 rfl rfl (subI rfl rfl (kI (x := 1) rfl)) ?_
        refine bd fun y25 h26 => ?_
        refine sg 8 rfl rfl (ixR (f := u32) Tryz.underlying67 ti_107 h26 rfl rfl rfl) ?_
        refine sg 8 rfl rfl (ldR sh_107 (by exact rfl) (by exact rfl) rfl rfl) ?_
        refine sg 8 rfl rfl (eqU .u32 rfl rfl (k32 (x := 0) rfl)) ?_
        refine s1 (pickT rfl rfl rfl) ?_
        refine snil ?_
        refine pnm ?_
        exact sj (hj23 _) (entI ⟨rfl, rfl, rfl, rfl, trivial⟩ eqm0)
      · refine spB 8 rfl rfl rfl ?_
        refine spB 8 rfl rfl rfl ?_
        refine spB 8 rfl rfl rfl ?_
        refine spB 8 rfl rfl rfl ?_
        refine spB 8 rfl rfl rfl ?_
        refine spB 8 rfl rfl rfl ?_
        refine s1 (pickF rfl rfl kB) ?_
        refine snil ?_
        refine pnm ?_
        exact sj (hj23 _) (entI ⟨rfl, rfl, rfl, rfl, trivial⟩ eqm0)
    · intro s24
      refine scond rfl ?_ ?_
      · refine sskip ?_
        refine pnm ?_
        refine sblk ?_
        refine sreg ?_
        refine s1 (mv rfl rfl) ?_
        refine s1 (subI rfl rfl (kI (x := 1) rfl)) ?_
        refine s1 (asg rfl rfl) ?_
        refine snil ?_
        refine pbn ?_
        exact sgo (entI ⟨rfl, rfl, rfl, trivial⟩ eqm0)
      · refine sexit ?_
        refine ptx ?_
        exact sout (fun h => by cases h) (sj (hj18 _) (entI ⟨rfl, rfl, rfl, trivial⟩ eqm0))
  · intro t17
    refine sx ?_
    refine pnm ?_
    refine sseq ?_
    refine sreg ?_
    refine so (bsl (y := 100) (ls := List.map u32 ([] : List Nat)) Tryz.underlying67 ti_107 rfl rfl rfl rfl rfl trivial rfl rfl) ?_
    refine s1 (mv rfl rfl) ?_
    refine s1 (mv rfl rfl) ?_
    refine bd fun y27 h28 => ?_
    refine s1 (slR (f := u32) h28 Tryz.underlying67 ti_107 rfl rfl bnd0 (bnd rfl)) ?_
    refine bd fun y29 h30 => ?_
    refine so (app (y := 101) (f := u32) h30 rfl Tryz.underlying67 ti_107 rfl rfl rfl rfl (.inl rfl) rfl rfl) ?_
    refine s1 (asg rfl rfl) ?_
    refine snil ?_
    refine pnm ?_
    refine sret ?_
    exact ret [(50, 101)] [.tmp 2] [_] [.own 50] .ret hγ (.inl rfl) rfl ⟨rfl, trivial⟩ rfl trivial ⟨⟨_, rfl⟩, trivial⟩ ⟨⟨_, _, rfl, rfl, rci (rc_sl (ifs_map (f := u32) (fun _ => if_u32) y29))⟩, trivial⟩ (rns_cons (rn_own rfl) (rns_nil)) rfl
theorem c_retrospectref04_Mul {n : Nat} {x0 : (List Nat)} {x1 : (List Nat)} : ∀ r, m_retrospectref04_Mul n x0 x1 = some r → FnOk Tryz.prog 59 [sli 1 (List.map u32 x0), sli 1 (List.map u32 x1)] [] (sli 1 (List.map u32 r)) [] := by
  unfold m_retrospectref04_Mul
  refine fn_of_sq (res := fun (r : (List Nat)) => sli 1 (List.map u32 r)) (mo := fun (r : (List Nat)) => []) Tryz.func59 rfl rfl (by kernel_rfl) rfl ?_
  intro w S0 γ hγ
  refine sseq ?_
  refine sreg ?_
  refine s1 (asg rfl (kLm (k := 1) u32)) ?_
  refine snil ?_
  refine pnm ?_
  refine sseq ?_
  refine sreg ?_
  refine s1 (mv rfl rfl) ?_
  refine s1 (lenL (f := u32) Tryz.underlying67 rfl rfl) ?_
  refine s1 (mv rfl rfl) ?_
  refine s1 (lenL (f := u32) Tryz.underlying67 rfl rfl) ?_
  refine s1 (addI rfl rfl rfl) ?_
  refine bd fun y1 h2 => ?_
  refine so (mks (y := 100) (f := u32) h2 Tryz.underlying67 ti_107 zr_u32 rfl rfl rfl rfl rfl rfl) ?_
  refine s1 (asg rfl rfl) ?_
  refine snil ?_
  refine pnm ?_
  refine sseq ?_
  refine sseq ?_
  refine sreg ?_
  refine s1 (asg rfl (kI (x := 0) rfl)) ?_
  refine snil ?_
  refine pnm ?_
  refine sblk ?_
  refine sloopE 0 (fun t => t) (fun (s77 : (List Nat) × Int) => [(0, sli 1 (List.map u32 x0)), (1, sli 1 (List.map u32 x1)), (4, sli 1 (List.map u32 ([] : List Nat))), (5, .own 100), (6, i64 s77.2)]) (fun (s77 : (List Nat) × Int) => [(100, .sl 107 1 (List.map u32 s77.1))]) (fun (t75 : (List Nat)) => [(4, sli 1 (List.map u32 ([] : List Nat))), (5, .own 100)]) (fun (t75 : (List Nat)) => [(100, .sl 107 1 (List.map u32 t75))]) (entR [(100, 100)] rfl (keepS hγ trivial) ⟨⟨_, rfl⟩, trivial⟩ ⟨⟨_, _, rfl, rfl, rci (rc_sl (ifs_map (f := u32) (fun _ => if_u32) y1))⟩, trivial⟩ ⟨⟨_, rfl, rn_id if_sli⟩, ⟨_, rfl, rn_id if_sli⟩, ⟨_, rfl, rn_id if_sli⟩, ⟨_, rfl, rn_own rfl⟩, ⟨_, rfl, rn_id if_i64⟩, trivial⟩) ?_ ?_
  · intro hj76 s77
    refine sseq ?_
    refine sseq ?_
    refine sreg ?_
    refine s1 (mv rfl rfl) ?_
    refine s1 (mv rfl rfl) ?_
    refine s1 (lenL (f := u32) Tryz.underlying67 rfl rfl) ?_
    refine s1 (ltI rfl rfl rfl) ?_
    refine snil ?_
    refine pnm ?_
    refine scond rfl ?_ ?_
    · refine sskip ?_
      refine pnm ?_
      refine sseq ?_
      refine sblk ?_
      refine sseq ?_
      refine sreg ?_
      refine s1 (asg rfl (k64 (x := 0) rfl)) ?_
      refine snil ?_
      refine pnm ?_
      refine sseq ?_
      refine sseq ?_
      refine sreg ?_
      refine s1 (asg rfl (kI (x := 0) rfl)) ?_
      refine snil ?_
      refine pnm ?_
      refine sblk ?_
      refine sloopE 2 (fun t => t) (fun (s92 : (List Nat) × Nat × Int) => [(0, sli 1 (List.map u32 x0)), (1, sli 1 (List.map u32 x1)), (4, sli 1 (List.map u32 ([] : List Nat))), (5, .own 100), (6, i64 s77.2), (7, u64 s92.2.1), (8, i64 s92.2.2)]) (fun (s92 : (List Nat) × Nat × Int) => [(100, .sl 107 1 (List.map u32 s92.1))]) (fun (t90 : (List Nat) × Nat) => [(0, sli 1 (List.map u32 x0)), (1, sli 1 (List.map u32 x1)), (4, sli 1 (List.map u32 ([] : List Nat))), (5, .own 100), (6, i64 s77.2), (7, u64 t90.2)]) (fun (t90 : (List Nat) × Nat) => [(100, .sl 107 1 (List.map u32 t90.1))]) (entR [(100, 100)] rfl (keepS hγ trivial) ⟨⟨_, rfl⟩, trivial⟩ ⟨⟨_, _, rfl, rfl, rci (rc_sl (ifs_map (f := u32) (fun _ => if_u32) s77.1))⟩, trivial⟩ ⟨⟨_, rfl, rn_id if_sli⟩, ⟨_, rfl, rn_id if_sli⟩, ⟨_, rfl, rn_id if_sli⟩, ⟨_, rfl, rn_own rfl⟩, ⟨_, rfl, rn_id if_i64⟩, ⟨_, rfl, rn_id if_u64⟩, ⟨_, rfl, rn_id if_i64⟩, trivial⟩) ?_ ?_
      · intro hj91 s92
        refine sseq ?_
        refine sseq ?_
        refine sreg ?_
        refine s1 (mv rfl rfl) ?_
        refine s1 (mv rfl rfl) ?_
        refine s1 (lenL (f := u32) Tryz.underlying67 rfl rfl) ?_
        refine s1 (ltI rfl rfl rfl) ?_
        refine snil ?_
        refine pnm ?_
        refine scond rfl ?_ ?_
        · refine sskip ?_
          refine pnm ?_
          refine sseq ?_
          refine sblk ?_
          refine sseq ?_
          refine bd fun y93 h94 => ?_
          refine bd fun y95 h96 => ?_
          refine bd fun y97 h98 => ?_
          refine sdraw [⟨[7], [], [(27, u64 s92.2.1)], []⟩, ⟨[0], [], [(28, sli 1 (List.map u32 x0))], []⟩, ⟨[6], [], [(29, i64 s77.2)], []⟩, ⟨[28, 29], [], [(30, .ref (u32 y93))], []⟩, ⟨[30], [], [(31, u32 y93)], []⟩, ⟨[31], [], [(32, u64 y93)], []⟩, ⟨[1], [], [(33, sli 1 (List.map u32 x1))], []⟩, ⟨[8], [], [(34, i64 s92.2.2)], []⟩, ⟨[33, 34], [], [(35, .ref (u32 y95))], []⟩, ⟨[35], [], [(36, u32 y95)], []⟩, ⟨[36], [], [(37, u64 y95)], []⟩, ⟨[32, 37], [], [(38, u64 ((y93 * y95) % 18446744073709551616))], []⟩, ⟨[5], [], [(39, .own 100)], []⟩, ⟨[6], [], [(40, i64 s77.2)], []⟩, ⟨[8], [], [(41, i64 s92.2.2)], []⟩, ⟨[40, 41], [], [(42, i64 (wrap64 (s77.2 + s92.2.2)))], []⟩, ⟨[39, 42], [100], [(43, .ptr 100 (Int.toNat (wrap64 (s77.2 + s92.2.2)) * 1))], []⟩, ⟨[43], [100], [(44, u32 y97)], []⟩, ⟨[44], [], [(45, u64 y97)], []⟩, ⟨[38, 45], [], [(46, u64 ((((y93 * y95) % 18446744073709551616) + y97) % 18446744073709551616))], []⟩, ⟨[27, 46], [], [(47, u64 ((s92.2.1 + ((((y93 * y95) % 18446744073709551616) + y97) % 18446744073709551616)) % 18446744073709551616))], []⟩, ⟨[47], [], [(7, u64 ((s92.2.1 + ((((y93 * y95) % 18446744073709551616) + y97) % 18446744073709551616)) % 18446744073709551616))], []⟩] fol (by kernel_rfl) ⟨fun st mm ⟨a7, _⟩ _ => og (mv rfl (a7.trans rfl)), fun st mm ⟨a0, _⟩ _ => og (mv rfl (a0.trans rfl)), fun st mm ⟨a6, _⟩ _ => og (mv rfl (a6.trans rfl)), fun st mm ⟨a28, a29, _⟩ _ => og (ixR (f := u32) Tryz.underlying67 ti_107 h94 rfl (a28.trans rfl) (a29.trans rfl)), fun st mm ⟨a30, _⟩ _ => og (ldR sh_107 (by exact rfl) (by exact rfl) rfl (a30.trans rfl)), fun st mm ⟨a31, _⟩ _ => og (cvUw uk64 uk32 rfl Tryz.underlying107 Tryz.underlying106 rfl (a31.trans rfl)), fun st mm ⟨a1, _⟩ _ => og (mv rfl (a1.trans rfl)), fun st mm ⟨a8, _⟩ _ => og (mv rfl (a8.trans rfl)), fun st mm ⟨a33, a34, _⟩ _ => og (ixR (f := u32) Tryz.underlying67 ti_107 h96 rfl (a33.trans rfl) (a34.trans rfl)), fun st mm ⟨a35, _⟩ _ => og (ldR sh_107 (by exact rfl) (by exact rfl) rfl (a35.trans rfl)), fun st mm ⟨a36, _⟩ _ => og (cvUw uk64 uk32 rfl Tryz.underlying107 Tryz.underlying106 rfl (a36.trans rfl)), fun st mm ⟨a32, a37, _⟩ _ => og (mulU uk64 rfl (a32.trans rfl) (a37.trans rfl)), fun st mm ⟨a5, _⟩ _ => og (mv rfl (a5.trans rfl)), fun st mm ⟨a6, _⟩ _ => og (mv rfl (a6.trans rfl)), fun st mm ⟨a8, _⟩ _ => og (mv rfl (a8.trans rfl)), fun st mm ⟨a40, a41, _⟩ _ => og (addI rfl (a40.trans rfl) (a41.trans rfl)), fun st mm ⟨a39, a42, _⟩ ⟨g100, _⟩ => og (ixO (f := u32) (g100.trans rfl) Tryz.underlying67 ti_107 h98 rfl (a39.trans rfl) (a42.trans rfl)), fun st mm ⟨a43, _⟩ ⟨g100, _⟩ => og (ldO (f := u32) [] (g100.trans rfl) (getI_ix h98) (by exact rfl) (by exact rfl) sh_107 (by exact rfl) (by exact rfl) rfl (a43.trans rfl)), fun st mm ⟨a44, _⟩ _ => og (cvUw uk64 uk32 rfl Tryz.underlying107 Tryz.underlying106 rfl (a44.trans rfl)), fun st mm ⟨a38, a45, _⟩ _ => og (addU uk64 rfl (a38.trans rfl) (a45.trans rfl)), fun st mm ⟨a27, a46, _⟩ _ => og (addU uk64 rfl (a27.trans rfl) (a46.trans rfl)), fun st mm ⟨a47, _⟩ _ => og (asg rfl (a47.trans rfl)), trivial⟩ ?_
          refine sbn (F := u64) 7 rfl fun z99 => ?_
          refine sbn (F := u64) 47 rfl fun z100 => ?_
          refine pnm ?_
          refine sseq ?_
          refine sreg ?_
          refine s1 (mv rfl rfl) ?_
          refine s1 (mv rfl rfl) ?_
          refine s1 (mv rfl rfl) ?_
          refine s1 (addI rfl rfl rfl) ?_
          refine s1 (mv rfl rfl) ?_
          refine s1 (remU uk64 rfl rfl rfl (k64 (x := 4294967296) rfl)) ?_
          refine s1 (cvU uk32 Tryz.underlying106 Tryz.underlying107 rfl rfl) ?_
          refine bd fun y101 h102 => ?_
          refine s1 (ixO (f := u32) rfl Tryz.underlying67 ti_107 h102 rfl rfl rfl) ?_
          refine so (stO (f := u32) ((z99 % 4294967296) % 4294967296) [] rfl (getI_ix h102) (by exact rfl) (by exact rfl) (by exact rfl) (by exact rfl) sh_107 (by exact rfl) (by exact rfl) (by exact rfl) rfl rfl) ?_
          refine sbm (C := fun x => .sl 107 1 (List.map u32 x)) 100 rfl fun z103 => ?_
          refine snil ?_
          refine pnm ?_
          refine sreg ?_
          refine s1 (mv rfl rfl) ?_
          refine s1 (quoU uk64 rfl rfl rfl (k64 (x := 4294967296) rfl)) ?_
          refine s1 (asg rfl rfl) ?_
          refine snil ?_
          refine pbn ?_
          refine pnm ?_
          refine sreg ?_
          refine s1 (mv rfl rfl) ?_
          refine s1 (addI rfl rfl (kI (x := 1) rfl)) ?_
          refine s1 (asg rfl rfl) ?_
          refine snil ?_
          exact sgo (entR [(100, 100)] rfl (keepS hγ trivial) ⟨⟨_, rfl⟩, trivial⟩ ⟨⟨_, _, rfl, rfl, rci (rc_sl (ifs_map (f := u32) (fun _ => if_u32) z103))⟩, trivial⟩ ⟨⟨_, rfl, rn_id if_sli⟩, ⟨_, rfl, rn_id if_sli⟩, ⟨_, rfl, rn_id if_sli⟩, ⟨_, rfl, rn_own rfl⟩, ⟨_, rfl, rn_id if_i64⟩, ⟨_, rfl, rn_id if_u64⟩, ⟨_, rfl, rn_id if_i64⟩, trivial⟩)
        · refine sexit ?_
          refine ptx ?_
          exact sout (fun h => by cases h) (sj (hj91 _) (entR [(100, 100)] rfl (keepS hγ trivial) ⟨⟨_, rfl⟩, trivial⟩ ⟨⟨_, _, rfl, rfl, rci (rc_sl (ifs_map (f := u32) (fun _ => if_u32) s92.1))⟩, trivial⟩ ⟨⟨_, rfl, rn_id if_sli⟩, ⟨_, rfl, rn_id if_sli⟩, ⟨_, rfl, rn_id if_sli⟩, ⟨_, rfl, rn_own rfl⟩, ⟨_, rfl, rn_id if_i64⟩, ⟨_, rfl, rn_id if_u64⟩, trivial⟩))
      · intro t90
        refine sx ?_
        refine pnm ?_
        refine sreg ?_
        refine s1 (mv rfl rfl) ?_
        refine s1 (mv rfl rfl) ?_
        refine s1 (mv rfl rfl) ?_
        refine s1 (lenL (f := u32) Tryz.underlying67 rfl rfl) ?_
        refine s1 (addI rfl rfl rfl) ?_
        refine s1 (mv rfl rfl) ?_
        refine s1 (cvU uk32 Tryz.underlying106 Tryz.underlying107 rfl rfl) ?_
        refine bd fun y104 h105 => ?_
        refine s1 (ixO (f := u32) rfl Tryz.underlying67 ti_107 h105 rfl rfl rfl) ?_
        refine so (stO (f := u32) (t90.2 % 4294967296) [] rfl (getI_ix h105) (by exact rfl) (by exact rfl) (by exact rfl) (by exact rfl) sh_107 (by exact rfl) (by exact rfl) (by exact rfl) rfl rfl) ?_
        refine sbm (C := fun x => .sl 107 1 (List.map u32 x)) 100 rfl fun z106 => ?_
        refine snil ?_
        refine pbn ?_
        refine pnm ?_
        refine sreg ?_
        refine s1 (mv rfl rfl) ?_
        refine s1 (addI rfl rfl (kI (x := 1) rfl)) ?_
        refine s1 (asg rfl rfl) ?_
        refine snil ?_
        exact sgo (entR [(100, 100)] rfl (keepS hγ trivial) ⟨⟨_, rfl⟩, trivial⟩ ⟨⟨_, _, rfl, rfl, rci (rc_sl (ifs_map (f := u32) (fun _ => if_u32) z106))⟩, trivial⟩ ⟨⟨_, rfl, rn_id if_sli⟩, ⟨_, rfl, rn_id if_sli⟩, ⟨_, rfl, rn_id if_sli⟩, ⟨_, rfl, rn_own rfl⟩, ⟨_, rfl, rn_id if_i64⟩, trivial⟩)
    · refine sexit ?_
      refine ptx ?_
      exact sout (fun h => by cases h) (sj (hj76 _) (entR [(100, 100)] rfl (keepS hγ trivial) ⟨⟨_, rfl⟩, trivial⟩ ⟨⟨_, _, rfl, rfl, rci (rc_sl (ifs_map (f := u32) (fun _ => if_u32) s77.1))⟩, trivial⟩ ⟨⟨_, rfl, rn_id if_sli⟩, ⟨_, rfl, rn_own rfl⟩, trivial⟩))
  · intro t75
    refine sx ?_
    refine pnm ?_
    refine sseq ?_
    refine sreg ?_
    refine s1 (mv rfl rfl) ?_
    refine bd fun r107 h108 => ?_
    refine so (callL (em := [(101, .sl 107 1 (List.map u32 r107))]) (res' := .own 101) [100] [] [(101, 50)] [(101, 50)] rfl (c_retrospectref02_Norm _ h108) ⟨pls_map (f := u32) (fun _ => pl_u32) _, trivial⟩ (pl_own) ⟨.inr ⟨100, rfl, .inl ⟨rfl, .inl ⟨_, _, _, rfl, ifs_map (f := u32) (fun _ => if_u32) t75, rfl⟩⟩⟩, trivial⟩ (MiF.get (mi := []) trivial) trivial rfl ⟨rfl, trivial⟩ ⟨.inl rfl, trivial⟩ rfl ⟨.inl ⟨_, _, rfl, rfl, rc_sl (ifs_map (f := u32) (fun _ => if_u32) r107)⟩, trivial⟩ trivial ⟨⟨_, rfl⟩, trivial⟩ (rn_own rfl) rfl) ?_
    refine s1 (asg rfl rfl) ?_
    refine snil ?_
    refine pnm ?_
    refine sret ?_
    refine frz (id := 101) [(4, sli 1 (List.map u32 r107)), (67, sli 1 (List.map u32 r107))] [] rfl (ifs_map (f := u32) (fun _ => if_u32) r107) ⟨⟨_, rfl, fz_own⟩, ⟨_, rfl, fz_own⟩, trivial⟩ trivial ?_
    exact ret [] [.tmp 4] [_] [_] .ret hγ (.inl rfl) rfl ⟨rfl, trivial⟩ rfl trivial trivial trivial (rns_cons (rn_id if_sli) (rns_nil)) rfl
theorem c_retrospectref02_At {x0 : (List Nat)} {x1 : Int} : ∀ r, m_retrospectref02_At x0 x1 = some r → FnOk Tryz.prog 78 [sli 1 (List.map u32 x0), i64 x1] [] (u32 r) [] := by
  unfold m_retrospectref02_At
  refine fn_of_sq (res := fun (r : Nat) => u32 r) (mo := fun (r : Nat) => []) Tryz.func78 rfl rfl (by kernel_rfl) rfl ?_
  intro w S0 γ hγ
  refine sseq ?_
  refine sreg ?_
  refine s1 (asg rfl (k32 (x := 0) rfl)) ?_
  refine snil ?_
  refine pnm ?_
  refine sseq ?_
  refine sseq ?_
  refine sreg ?_
  refine s1 (mv rfl rfl) ?_
  refine s1 (mv rfl rfl) ?_
  refine s1 (lenL (f := u32) Tryz.underlying67 rfl rfl) ?_
  refine s1 (ltI rfl rfl rfl) ?_
  refine snil ?_
  refine pnm ?_
  refine scond rfl ?_ ?_
  · refine sseq ?_
    refine sreg ?_
    refine s1 (mv rfl rfl) ?_
    refine s1 (mv rfl rfl) ?_
    refine bd fun y1 h2 => ?_
    refine s1 (ixR (f := u32) Tryz.underlying67 ti_107 h2 rfl rfl rfl) ?_
    refine s1 (ldR sh_107 (by exact rfl) (by exact rfl) rfl rfl) ?_
    refine s1 (asg rfl rfl) ?_
    refine snil ?_
    refine pnm ?_
    refine sret ?_
    refine pth ?_
    exact ret [] [.tmp 4] [_] [_] .ret hγ (.inl rfl) rfl ⟨rfl, trivial⟩ rfl trivial trivial trivial (rns_cons (rn_id if_u32) (rns_nil)) rfl
  · refine sskip ?_
    refine pnm ?_
    refine sseq ?_
    refine sreg ?_
    refine s1 (asg rfl (k32 (x := 0) rfl)) ?_
    refine snil ?_
    refine pnm ?_
    refine sret ?_
    exact ret [] [.tmp 4] [_] [_] .ret hγ (.inl rfl) rfl ⟨rfl, trivial⟩ rfl trivial trivial trivial (rns_cons (rn_id if_u32) (rns_nil)) rfl
theorem c_retrospectref02_Add {n : Nat} {x0 : (List Nat)} {x1 : (List Nat)} : ∀ r, m_retrospectref02_Add n x0 x1 = some r → FnOk Tryz.prog 51 [sli 1 (List.map u32 x0), sli 1 (List.map u32 x1)] [] (sli 1 (List.map u32 r)) [] := by
  unfold m_retrospectref02_Add
  refine fn_of_sq (res := fun (r : (List Nat)) => sli 1 (List.map u32 r)) (mo := fun (r : (List Nat)) => []) Tryz.func51 rfl rfl (by kernel_rfl) rfl ?_
  intro w S0 γ hγ
  refine sseq ?_
  refine sreg ?_
  refine s1 (asg rfl (kLm (k := 1) u32)) ?_
  refine snil ?_
  refine pnm ?_
  refine sseq ?_
  refine sreg ?_
  refine s1 (mv rfl rfl) ?_
  refine s1 (lenL (f := u32) Tryz.underlying67 rfl rfl) ?_
  refine s1 (mv rfl rfl) ?_
  refine s1 (lenL (f := u32) Tryz.underlying67 rfl rfl) ?_
  refine s1 (maxI rfl rfl rfl) ?_
  refine s1 (addI rfl rfl (kI (x := 1) rfl)) ?_
  refine s1 (asg rfl rfl) ?_
  refine snil ?_
  refine pnm ?_
  refine sseq ?_
  refine sreg ?_
  refine s1 (mv rfl rfl) ?_
  refine bd fun y1 h2 => ?_
  refine so (mks (y := 100) (f := u32) h2 Tryz.underlying67 ti_107 zr_u32 rfl rfl rfl rfl rfl rfl) ?_
  refine s1 (asg rfl rfl) ?_
  refine snil ?_
  refine pnm ?_
  refine sseq ?_
  refine sreg ?_
  refine s1 (asg rfl (k64 (x := 0) rfl)) ?_
  refine snil ?_
  refine pnm ?_
  refine sseq ?_
  refine sseq ?_
  refine sreg ?_
  refine s1 (asg rfl (kI (x := 0) rfl)) ?_
  refine snil ?_
  refine pnm ?_
  refine sblk ?_
  refine sloopE 0 (fun t => t) (fun (s24 : (List Nat) × Nat × Int) => [(0, sli 1 (List.map u32 x0)), (1, sli 1 (List.map u32 x1)), (4, sli 1 (List.map u32 ([] : List Nat))), (5, i64 (wrap64 ((max (x0.length : Int) (x1.length : Int)) + (1 : Int)))), (6, .own 100), (7, u64 s24.2.1), (8, i64 s24.2.2)]) (fun (s24 : (List Nat) × Nat × Int) => [(100, .sl 107 1 (List.map u32 s24.1))]) (fun (t22 : (List Nat)) => [(4, sli 1 (List.map u32 ([] : List Nat))), (6, .own 100)]) (fun (t22 : (List Nat)) => [(100, .sl 107 1 (List.map u32 t22))]) (entR [(100, 100)] rfl (keepS hγ trivial) ⟨⟨_, rfl⟩, trivial⟩ ⟨⟨_, _, rfl, rfl, rci (rc_sl (ifs_map (f := u32) (fun _ => if_u32) y1))⟩, trivial⟩ ⟨⟨_, rfl, rn_id if_sli⟩, ⟨_, rfl, rn_id if_sli⟩, ⟨_, rfl, rn_id if_sli⟩, ⟨_, rfl, rn_id if_i64⟩, ⟨_, rfl, rn_own rfl⟩, ⟨_, rfl, rn_id if_u64⟩, ⟨_, rfl, rn_id if_i64⟩, trivial⟩) ?_ ?_
  · intro hj23 s24
    refine sseq ?_
    refine sseq ?_
    refine sreg ?_
    refine s1 (mv rfl rfl) ?_
    refine s1 (mv rfl rfl) ?_
    refine s1 (ltI rfl rfl rfl) ?_
    refine sbn (F := bl) 19 rfl fun z25 => ?_
    refine snil ?_
    refine pnm ?_
    refine scond rfl ?_ ?_
    · refine sskip ?_
      refine pnm ?_
      refine sseq ?_
      refine sblk ?_
      refine sseq ?_
      refine sreg ?_
      refine s1 (mv rfl rfl) ?_
      refine s1 (mv rfl rfl) ?_
      refine s1 (mv rfl rfl) ?_
      refine bd fun r26 h27 => ?_
      refine s1 (call0 (c_retrospectref02_At _ h27) ⟨⟨_, rfl, rn_id if_sli⟩, ⟨_, rfl, rn_id if_i64⟩, trivial⟩ (if_u32) rfl) ?_
      refine s1 (cvUw uk64 uk32 rfl Tryz.underlying107 Tryz.underlying106 rfl rfl) ?_
      refine s1 (mv rfl rfl) ?_
      refine s1 (mv rfl rfl) ?_
      refine bd fun r28 h29 => ?_
      refine s1 (call0 (c_retrospectref02_At _ h29) ⟨⟨_, rfl, rn_id if_sli⟩, ⟨_, rfl, rn_id if_i64⟩, trivial⟩ (if_u32) rfl) ?_
      refine s1 (cvUw uk64 uk32 rfl Tryz.underlying107 Tryz.underlying106 rfl rfl) ?_
      refine s1 (addU uk64 rfl rfl rfl) ?_
      refine s1 (addU uk64 rfl rfl rfl) ?_
      refine sbn (F := u64) 32 rfl fun z30 => ?_
      refine s1 (asg rfl rfl) ?_
      refine snil ?_
      refine pnm ?_
      refine sseq ?_
      refine sreg ?_
      refine s1 (mv rfl rfl) ?_
      refine s1 (mv rfl rfl) ?_
      refine s1 (mv rfl rfl) ?_
      refine s1 (remU uk64 rfl rfl rfl (k64 (x := 4294967296) rfl)) ?_
      refine s1 (cvU uk32 Tryz.underlying106 Tryz.underlying107 rfl rfl) ?_
      refine bd fun y31 h32 => ?_
      refine s1 (ixO (f := u32) rfl Tryz.underlying67 ti_107 h32 rfl rfl rfl) ?_
      refine so (stO (f := u32) ((z30 % 4294967296) % 4294967296) [] rfl (getI_ix h32) (by exact rfl) (by exact rfl) (by exact rfl) (by exact rfl) sh_107 (by exact rfl) (by exact rfl) (by exact rfl) rfl rfl) ?_
      refine snil ?_
      refine pnm ?_
      refine sreg ?_
      refine s1 (mv rfl rfl) ?_
      refine s1 (quoU uk64 rfl rfl rfl (k64 (x := 4294967296) rfl)) ?_
      refine s1 (asg rfl rfl) ?_
      refine snil ?_
      refine pbn ?_
      refine pnm ?_
      refine sreg ?_
      refine s1 (mv rfl rfl) ?_
      refine s1 (addI rfl rfl (kI (x := 1) rfl)) ?_
      refine s1 (asg rfl rfl) ?_
      refine snil ?_
      exact sgo (entR [(100, 100)] rfl (keepS hγ trivial) ⟨⟨_, rfl⟩, trivial⟩ ⟨⟨_, _, rfl, rfl, rci (rc_sl (ifs_map (f := u32) (fun _ => if_u32) (List.set s24.1 (Int.toNat s24.2.2) ((z30 % 4294967296) % 4294967296))))⟩, trivial⟩ ⟨⟨_, rfl, rn_id if_sli⟩, ⟨_, rfl, rn_id if_sli⟩, ⟨_, rfl, rn_id if_sli⟩, ⟨_, rfl, rn_id if_i64⟩, ⟨_, rfl, rn_own rfl⟩, ⟨_, rfl, rn_id if_u64⟩, ⟨_, rfl, rn_id if_i64⟩, trivial⟩)
    · refine sexit ?_
      refine ptx ?_
      exact sout (fun h => by cases h) (sj (hj23 _) (entR [(100, 100)] rfl (keepS hγ trivial) ⟨⟨_, rfl⟩, trivial⟩ ⟨⟨_, _, rfl, rfl, rci (rc_sl (ifs_map (f := u32) (fun _ => if_u32) s24.1))⟩, trivial⟩ ⟨⟨_, rfl, rn_id if_sli⟩, ⟨_, rfl, rn_own rfl⟩, trivial⟩))
  · intro t22
    refine sx ?_
    refine pnm ?_
    refine sseq ?_
    refine sreg ?_
    refine s1 (mv rfl rfl) ?_
    refine bd fun r33 h34 => ?_
    refine so (callL (em := [(101, .sl 107 1 (List.map u32 r33))]) (res' := .own 101) [100] [] [(101, 50)] [(101, 50)] rfl (c_retrospectref02_Norm _ h34) ⟨pls_map (f := u32) (fun _ => pl_u32) _, trivial⟩ (pl_own) ⟨.inr ⟨100, rfl, .inl ⟨rfl, .inl ⟨_, _, _, rfl, ifs_map (f := u32) (fun _ => if_u32) t22, rfl⟩⟩⟩, trivial⟩ (MiF.get (mi := []) trivial) trivial rfl ⟨rfl, trivial⟩ ⟨.inl rfl, trivial⟩ rfl ⟨.inl ⟨_, _, rfl, rfl, rc_sl (ifs_map (f := u32) (fun _ => if_u32) r33)⟩, trivial⟩ trivial ⟨⟨_, rfl⟩, trivial⟩ (rn_own rfl) rfl) ?_
    refine s1 (asg rfl rfl) ?_
    refine snil ?_
    refine pnm ?_
    refine sret ?_
    refine frz (id := 101) [(4, sli 1 (List.map u32 r33)), (42, sli 1 (List.map u32 r33))] [] rfl (ifs_map (f := u32) (fun _ => if_u32) r33) ⟨⟨_, rfl, fz_own⟩, ⟨_, rfl, fz_own⟩, trivial⟩ trivial ?_
    exact ret [] [.tmp 4] [_] [_] .ret hγ (.inl rfl) rfl ⟨rfl, trivial⟩ rfl trivial trivial trivial (rns_cons (rn_id if_sli) (rns_nil)) rfl
theorem c_retrospectref07_Read {n : Nat} {x0 : (List UInt8)} : ∀ r, m_retrospectref07_Read n x0 = some r → FnOk Tryz.prog 40 [str x0] [] (sli 1 (List.map u32 r)) [] := by
  unfold m_retrospectref07_Read
  refine fn_of_sq (res := fun (r : (List Nat)) => sli 1 (List.map u32 r)) (mo := fun (r : (List Nat)) => []) Tryz.func40 rfl rfl (by kernel_rfl) rfl ?_
  intro w S0 γ hγ
  refine sseq ?_
  refine sreg ?_
  refine s1 (asg rfl (kLm (k := 1) u32)) ?_
  refine snil ?_
  refine pnm ?_
  refine sseq ?_
  refine sreg ?_
  refine so (bsl (y := 100) (ls := List.map u32 ([] : List Nat)) Tryz.underlying67 ti_107 rfl rfl rfl rfl rfl trivial rfl rfl) ?_
  refine s1 (asg rfl rfl) ?_
  refine snil ?_
  refine pnm ?_
  refine sseq ?_
  refine sseq ?_
  refine sreg ?_
  refine s1 (asg rfl (kI (x := 0) rfl)) ?_
  refine snil ?_
  refine pnm ?_
  refine sblk ?_
  refine frz (id := 100) [(3, sli 1 (List.map u32 ([] : List Nat))), (5, sli 1 (List.map u32 ([] : List Nat)))] [] rfl (ifs_map (f := u32) (fun _ => if_u32) ([] : List Nat)) ⟨⟨_, rfl, fz_own⟩, ⟨_, rfl, fz_own⟩, trivial⟩ trivial ?_
  refine sloopE 0 (fun t => t) (fun (s28 : (List Nat) × Int) => [(0, str x0), (2, sli 1 (List.map u32 ([] : List Nat))), (3, sli 1 (List.map u32 s28.1)), (4, i64 s28.2)]) (fun (s28 : (List Nat) × Int) => []) (fun (t26 : (List Nat)) => [(2, sli 1 (List.map u32 ([] : List Nat))), (3, sli 1 (List.map u32 t26))]) (fun (t26 : (List Nat)) => []) (entR [] rfl (keepS hγ trivial) (by exact trivial) (by exact trivial) ⟨⟨_, rfl, rn_id if_str⟩, ⟨_, rfl, rn_id if_sli⟩, ⟨_, rfl, rn_id if_sli⟩, ⟨_, rfl, rn_id if_i64⟩, trivial⟩) ?_ ?_
  · intro hj27 s28
    refine sseq ?_
    refine sseq ?_
    refine sreg ?_
    refine s1 (mv rfl rfl) ?_
    refine s1 (mv rfl rfl) ?_
    refine s1 (lenS Tryz.underlying9 rfl rfl) ?_
    refine s1 (ltI rfl rfl rfl) ?_
    refine snil ?_
    refine pnm ?_
    refine scond rfl ?_ ?_
    · refine sskip ?_
      refine pnm ?_
      refine sseq ?_
      refine sblk ?_
      refine bd fun r29 h30 => ?_
      refine bd fun y31 h32 => ?_
      refine bd fun r33 h34 => ?_
      refine sdraw [⟨[3], [], [(12, sli 1 (List.map u32 s28.1))], []⟩, ⟨[], [101], [(13, sli 1 (List.map u32 ([10] : List Nat)))], [(101, .gone)]⟩, ⟨[12, 13], [], [(14, sli 1 (List.map u32 r29))], []⟩, ⟨[0], [], [(15, str x0)], []⟩, ⟨[4], [], [(16, i64 s28.2)], []⟩, ⟨[15, 16], [], [(17, u8 y31)], []⟩, ⟨[17], [], [(18, u32 y31)], []⟩, ⟨[18], [], [(19, u32 ((y31 + 4294967296 - 48) % 4294967296))], []⟩, ⟨[19], [102], [(20, sli 1 (List.map u32 ([((y31 + 4294967296 - 48) % 4294967296)] : List Nat)))], [(102, .gone)]⟩, ⟨[14, 20], [], [(21, sli 1 (List.map u32 r33))], []⟩, ⟨[21], [], [(3, sli 1 (List.map u32 r33))], []⟩] fol (by kernel_rfl) ⟨fun st mm ⟨a3, _⟩ _ => og (mv rfl (a3.trans rfl)), fun st mm _ ⟨g101, _⟩ => og (toV (bsl (y := 101) (ls := List.map u32 ([10] : List Nat)) Tryz.underlying67 ti_107 rfl rfl rfl rfl rfl ⟨rfl, (k32 (x := 10) rfl), (by exact rfl), (by exact rfl), trivial⟩ (g101.trans rfl) rfl) (ifs_map (f := u32) (fun _ => if_u32) ([10] : List Nat))), fun st mm ⟨a12, a13, _⟩ _ => og (call0 (c_retrospectref04_Mul _ h30) ⟨⟨_, (a12.trans rfl), rn_id if_sli⟩, ⟨_, (a13.trans rfl), rn_id if_sli⟩, trivial⟩ (if_sli) rfl), fun st mm ⟨a0, _⟩ _ => og (mv rfl (a0.trans rfl)), fun st mm ⟨a4, _⟩ _ => og (mv rfl (a4.trans rfl)), fun st mm ⟨a15, a16, _⟩ _ => og (ixS Tryz.underlying9 h32 rfl (a15.trans rfl) (a16.trans rfl)), fun st mm ⟨a17, _⟩ _ => og (cvUw uk32 uk8 rfl Tryz.underlying5 Tryz.underlying107 rfl (a17.trans rfl)), fun st mm ⟨a18, _⟩ _ => og (subU uk32 rfl (a18.trans rfl) (k32 (x := 48) rfl)), fun st mm ⟨a19, _⟩ ⟨g102, _⟩ => og (toV (bsl (y := 102) (ls := List.map u32 ([((y31 + 4294967296 - 48) % 4294967296)] : List Nat)) Tryz.underlying67 ti_107 rfl rfl rfl rfl rfl ⟨rfl, (a19.trans rfl), (by exact rfl), (by exact rfl), trivial⟩ (g102.trans rfl) rfl) (ifs_map (f := u32) (fun _ => if_u32) ([((y31 + 4294967296 - 48) % 4294967296)] : List Nat))), fun st mm ⟨a14, a20, _⟩ _ => og (call0 (c_retrospectref02_Add _ h34) ⟨⟨_, (a14.trans rfl), rn_id if_sli⟩, ⟨_, (a20.trans rfl), rn_id if_sli⟩, trivial⟩ (if_sli) rfl), fun st mm ⟨a21, _⟩ _ => og (asg rfl (a21.trans rfl)), trivial⟩ ?_
      refine pbn ?_
      refine pnm ?_
      refine sreg ?_
      refine s1 (mv rfl rfl) ?_
      refine s1 (addI rfl rfl (kI (x := 1) rfl)) ?_
      refine s1 (asg rfl rfl) ?_
      refine snil ?_
      exact sgo (entR [] rfl (keepS hγ trivial) (by exact trivial) (by exact trivial) ⟨⟨_, rfl, rn_id if_str⟩, ⟨_, rfl, rn_id if_sli⟩, ⟨_, rfl, rn_id if_sli⟩, ⟨_, rfl, rn_id if_i64⟩, trivial⟩)
    · refine sexit ?_
      refine ptx ?_
      exact sout (fun h => by cases h) (sj (hj27 _) (entI ⟨rfl, rfl, trivial⟩ eqm0))
  · intro t26
    refine sx ?_
    refine pnm ?_
    refine sseq ?_
    refine sreg ?_
    refine s1 (mv rfl rfl) ?_
    refine s1 (asg rfl rfl) ?_
    refine snil ?_
    refine pnm ?_
    refine sret ?_
    exact ret [] [.tmp 2] [_] [_] .ret hγ (.inl rfl) rfl ⟨rfl, trivial⟩ rfl trivial trivial trivial (rns_cons (rn_id if_sli) (rns_nil)) rfl
theorem c_retrospectref08_Norm {n : Nat} {x0 : M_retrospectref08_Whole} : ∀ r, m_retrospectref08_Norm n x0 = some r → FnOk Tryz.prog 39 [L_retrospectref08_Whole x0] [] (L_retrospectref08_Whole r) [] := by
  unfold m_retrospectref08_Norm
  refine fn_of_sq (res := fun (r : M_retrospectref08_Whole) => L_retrospectref08_Whole r) (mo := fun (r : M_retrospectref08_Whole) => []) Tryz.func39 rfl rfl (by kernel_rfl) rfl ?_
  intro w S0 γ hγ
  refine sseq ?_
  refine sreg ?_
  refine so (box (y := 100) (by exact rfl) rfl rfl rfl) ?_
  refine so (al (y := 101) (ly := L_retrospectref08_Whole (⟨false, []⟩ : M_retrospectref08_Whole)) ti_69 zr_retrospectref08_Whole rfl rfl) ?_
  refine snil ?_
  refine pnm ?_
  refine sseq ?_
  refine sreg ?_
  refine s1 (faO rfl fd_69_1 rfl rfl) ?_
  refine s1 (ldB [1] rfl (by exact rfl) sh_67 (by exact rfl) (by exact rfl) rfl rfl (.inl rfl)) ?_
  refine bd fun r1 h2 => ?_
  refine so (callG (em := [(102, .sl 107 1 (List.map u32 r1))]) (res' := .own 102) [] [(102, 50)] [(102, 50)] (c_retrospectref02_Norm _ h2) ⟨⟨_, rfl, rn_id if_sli⟩, trivial⟩ (MiF.get (mi := []) trivial) trivial rfl ⟨rfl, trivial⟩ ⟨.inl rfl, trivial⟩ rfl ⟨.inl ⟨_, _, rfl, rfl, rc_sl (ifs_map (f := u32) (fun _ => if_u32) r1)⟩, trivial⟩ trivial ⟨⟨_, rfl⟩, trivial⟩ (rn_own rfl) rfl) ?_
  refine s1 (asg rfl rfl) ?_
  refine snil ?_
  refine pnm ?_
  refine sjq (fun (s5 : M_retrospectref08_Whole) => [(2, .own 101)]) (fun (s5 : M_retrospectref08_Whole) => [(101, .bx 69 (L_retrospectref08_Whole s5))]) ?_ ?_
  · intro j3 hj4
    refine sreg ?_
    refine s1 (faO rfl fd_69_0 rfl rfl) ?_
    refine s1 (ldB [0] rfl (by exact rfl) sh_4 (by exact rfl) (by exact rfl) rfl rfl (.inl rfl)) ?_
    refine s1 (mv rfl rfl) ?_
    refine sifd 9 rfl ?_ ?_
    · refine sg 9 rfl rfl (mv rfl rfl) ?_
      refine sg 9 rfl rfl (lenO (f := u32) Tryz.underlying67 rfl rfl rfl) ?_
      refine sg 9 rfl rfl (gtI rfl rfl (kI (x := 0) rfl)) ?_
      refine s1 (pickT rfl rfl rfl) ?_
      refine s1 (mv rfl rfl) ?_
      refine frz (id := 102) [(3, sli 1 (List.map u32 r1)), (6, sli 1 (List.map u32 r1)), (10, sli 1 (List.map u32 r1)), (14, sli 1 (List.map u32 r1))] [] rfl (ifs_map (f := u32) (fun _ => if_u32) r1) ⟨⟨_, rfl, fz_own⟩, ⟨_, rfl, fz_own⟩, ⟨_, rfl, fz_own⟩, ⟨_, rfl, fz_own⟩, trivial⟩ trivial ?_
      refine s1 (bld (l := [bl (decide ((0 : Int) < (r1.length : Int))), sli 1 (List.map u32 r1)]) pl_69 ti_69 zr_retrospectref08_Whole ⟨_, _, _, rfl, rfl, rfl, rfl, (szk (k := 1) rfl rfl), ⟨_, _, _, rfl, rfl, rfl, rfl, (szk (k := 1) rfl rfl), rfl⟩⟩ rfl) ?_
      refine so (stB2 (ly2 := L_retrospectref08_Whole (⟨decide ((0 : Int) < (r1.length : Int)), r1⟩ : M_retrospectref08_Whole)) [] (by exact rfl) rfl (by exact rfl) sh_69 (by exact rfl) (by exact rfl) (by exact rfl) rfl (.inr ⟨rfl, rfl, _, _, rfl⟩) rfl) ?_
      refine snil ?_
      refine pnm ?_
      exact sj (hj4 _) (entR [(101, 101)] rfl (keepS hγ trivial) ⟨⟨_, rfl⟩, trivial⟩ ⟨⟨_, _, rfl, rfl, rci (rc_bx (rn_id if_L_retrospectref08_Whole))⟩, trivial⟩ ⟨⟨_, rfl, rn_own rfl⟩, trivial⟩)
    · refine spB 9 rfl rfl rfl ?_
      refine spB 9 rfl rfl rfl ?_
      refine spB 9 rfl rfl rfl ?_
      refine s1 (pickF rfl rfl kB) ?_
      refine s1 (mv rfl rfl) ?_
      refine frz (id := 102) [(3, sli 1 (List.map u32 r1)), (6, sli 1 (List.map u32 r1)), (14, sli 1 (List.map u32 r1))] [] rfl (ifs_map (f := u32) (fun _ => if_u32) r1) ⟨⟨_, rfl, fz_own⟩, ⟨_, rfl, fz_own⟩, ⟨_, rfl, fz_own⟩, trivial⟩ trivial ?_
      refine s1 (bld (l := [bl false, sli 1 (List.map u32 r1)]) pl_69 ti_69 zr_retrospectref08_Whole ⟨_, _, _, rfl, rfl, rfl, rfl, (szk (k := 1) rfl rfl), ⟨_, _, _, rfl, rfl, rfl, rfl, (szk (k := 1) rfl rfl), rfl⟩⟩ rfl) ?_
      refine so (stB2 (ly2 := L_retrospectref08_Whole (⟨false, r1⟩ : M_retrospectref08_Whole)) [] (by exact rfl) rfl (by exact rfl) sh_69 (by exact rfl) (by exact rfl) (by exact rfl) rfl (.inr ⟨rfl, rfl, _, _, rfl⟩) rfl) ?_
      refine snil ?_
      refine pnm ?_
      exact sj (hj4 _) (entR [(101, 101)] rfl (keepS hγ trivial) ⟨⟨_, rfl⟩, trivial⟩ ⟨⟨_, _, rfl, rfl, rci (rc_bx (rn_id if_L_retrospectref08_Whole))⟩, trivial⟩ ⟨⟨_, rfl, rn_own rfl⟩, trivial⟩)
  · intro s5
    refine sret ?_
    exact ret [] [.cell 2 69] [_] [_] .ret hγ (.inl rfl) rfl ⟨⟨101, _, rfl, rfl, sh_69⟩, trivial⟩ rfl trivial trivial trivial (rns_cons (rn_id if_L_retrospectref08_Whole) (rns_nil)) rfl
theorem c_retrospectref08_Read {n : Nat} {x0 : (List UInt8)} : ∀ r, m_retrospectref08_Read n x0 = some r → FnOk Tryz.prog 27 [str x0] [] (.tup [L_retrospectref08_Whole r.1, i64 r.2]) [] := by
  unfold m_retrospectref08_Read
  refine fn_of_sq (res := fun (r : M_retrospectref08_Whole × Int) => .tup [L_retrospectref08_Whole r.1, i64 r.2]) (mo := fun (r : M_retrospectref08_Whole × Int) => []) Tryz.func27 rfl rfl (by kernel_rfl) rfl ?_
  intro w S0 γ hγ
  refine sseq ?_
  refine sreg ?_
  refine so (al (y := 100) (ly := L_retrospectref08_Whole (⟨false, []⟩ : M_retrospectref08_Whole)) ti_69 zr_retrospectref08_Whole rfl rfl) ?_
  refine s1 (asg rfl (kI (x := 0) rfl)) ?_
  refine snil ?_
  refine pnm ?_
  refine sjq (fun (s5 : Bool) => [(0, str x0), (2, .own 100), (3, i64 (0 : Int)), (4, bl s5)]) (fun (s5 : Bool) => [(100, .bx 69 (L_retrospectref08_Whole (⟨false, []⟩ : M_retrospectref08_Whole)))]) ?_ ?_
  · intro j3 hj4
    refine sreg ?_
    refine s1 (mv rfl rfl) ?_
    refine s1 (lenS Tryz.underlying9 rfl rfl) ?_
    refine s1 (gtI rfl rfl (kI (x := 0) rfl)) ?_
    refine s1 (mv rfl rfl) ?_
    refine sifd 10 rfl ?_ ?_
    · refine sg 10 rfl rfl (mv rfl rfl) ?_
      refine bd fun y6 h7 => ?_
      refine sg 10 rfl rfl (ixS Tryz.underlying9 h7 rfl rfl (kI (x := 0) rfl)) ?_
      refine sg 10 rfl rfl (eqU .u8 rfl rfl (k8 (x := 45) rfl)) ?_
      refine s1 (pickT rfl rfl rfl) ?_
      refine s1 (asg rfl rfl) ?_
      refine snil ?_
      refine pnm ?_
      exact sj (hj4 _) (entR [(100, 100)] rfl (keepS hγ trivial) ⟨⟨_, rfl⟩, trivial⟩ ⟨⟨_, _, rfl, rfl, rci (rc_bx (rn_id if_L_retrospectref08_Whole))⟩, trivial⟩ ⟨⟨_, rfl, rn_id if_str⟩, ⟨_, rfl, rn_own rfl⟩, ⟨_, rfl, rn_id if_i64⟩, ⟨_, rfl, rn_id if_bl⟩, trivial⟩)
    · refine spB 10 rfl rfl rfl ?_
      refine spB 10 rfl rfl rfl ?_
      refine spB 10 rfl rfl rfl ?_
      refine s1 (pickF rfl rfl kB) ?_
      refine s1 (asg rfl rfl) ?_
      refine snil ?_
      refine pnm ?_
      exact sj (hj4 _) (entR [(100, 100)] rfl (keepS hγ trivial) ⟨⟨_, rfl⟩, trivial⟩ ⟨⟨_, _, rfl, rfl, rci (rc_bx (rn_id if_L_retrospectref08_Whole))⟩, trivial⟩ ⟨⟨_, rfl, rn_id if_str⟩, ⟨_, rfl, rn_own rfl⟩, ⟨_, rfl, rn_id if_i64⟩, ⟨_, rfl, rn_id if_bl⟩, trivial⟩)
  · intro s5
    refine sseq ?_
    refine sreg ?_
    refine s1 (asg rfl (kI (x := 0) rfl)) ?_
    refine snil ?_
    refine pnm ?_
    refine sjq (fun (s10 : Int) => [(0, str x0), (2, .own 100), (3, i64 (0 : Int)), (4, bl s5), (5, i64 s10)]) (fun (s10 : Int) => [(100, .bx 69 (L_retrospectref08_Whole (⟨false, []⟩ : M_retrospectref08_Whole)))]) ?_ ?_
    · intro j8 hj9
      refine sseq ?_
      refine sreg ?_
      refine s1 (mv rfl rfl) ?_
      refine snil ?_
      refine pnm ?_
      refine scond rfl ?_ ?_
      · refine sreg ?_
        refine s1 (asg rfl (kI (x := 1) rfl)) ?_
        refine snil ?_
        refine pnm ?_
        exact sj (hj9 _) (entR [(100, 100)] rfl (keepS hγ trivial) ⟨⟨_, rfl⟩, trivial⟩ ⟨⟨_, _, rfl, rfl, rci (rc_bx (rn_id if_L_retrospectref08_Whole))⟩, trivial⟩ ⟨⟨_, rfl, rn_id if_str⟩, ⟨_, rfl, rn_own rfl⟩, ⟨_, rfl, rn_id if_i64⟩, ⟨_, rfl, rn_id if_bl⟩, ⟨_, rfl, rn_id if_i64⟩, trivial⟩)
      · refine sskip ?_
        refine pnm ?_
        exact sj (hj9 _) (entR [(100, 100)] rfl (keepS hγ trivial) ⟨⟨_, rfl⟩, trivial⟩ ⟨⟨_, _, rfl, rfl, rci (rc_bx (rn_id if_L_retrospectref08_Whole))⟩, trivial⟩ ⟨⟨_, rfl, rn_id if_str⟩, ⟨_, rfl, rn_own rfl⟩, ⟨_, rfl, rn_id if_i64⟩, ⟨_, rfl, rn_id if_bl⟩, ⟨_, rfl, rn_id if_i64⟩, trivial⟩)
    · intro s10
      refine sseq ?_
      refine sreg ?_
      refine s1 (mv rfl rfl) ?_
      refine s1 (mv rfl rfl) ?_
      refine bd fun y11 h12 => ?_
      refine s1 (slS h12 Tryz.underlying9 rfl rfl (bnd rfl) bnd0) ?_
      refine bd fun r13 h14 => ?_
      refine s1 (call0 (c_retrospectref07_Wrong _ h14) ⟨⟨_, rfl, rn_id if_str⟩, trivial⟩ (if_i64) rfl) ?_
      refine s1 (asg rfl rfl) ?_
      refine snil ?_
      refine pnm ?_
      refine sseq ?_
      refine sseq ?_
      refine sreg ?_
      refine s1 (mv rfl rfl) ?_
      refine s1 (geI rfl rfl (kI (x := 0) rfl)) ?_
      refine snil ?_
      refine pnm ?_
      refine scond rfl ?_ ?_
      · refine sseq ?_
        refine sreg ?_
        refine s1 (bld (l := [bl false, sli 1 (List.map u32 [])]) pl_69 ti_69 zr_retrospectref08_Whole rfl rfl) ?_
        refine s1 (mv rfl rfl) ?_
        refine s1 (mv rfl rfl) ?_
        refine s1 (addI rfl rfl rfl) ?_
        refine so (stB2 (ly2 := L_retrospectref08_Whole (⟨false, []⟩ : M_retrospectref08_Whole)) [] (by exact rfl) rfl (by exact rfl) sh_69 (by exact rfl) (by exact rfl) (by exact rfl) rfl (.inr ⟨rfl, rfl, _, _, rfl⟩) rfl) ?_
        refine s1 (asg rfl rfl) ?_
        refine snil ?_
        refine pnm ?_
        refine sret ?_
        refine pth ?_
        exact ret [] [.cell 2 69, .tmp 3] [_, _] [_, _] .ret hγ (.inl rfl) rfl ⟨⟨100, _, rfl, rfl, sh_69⟩, rfl, trivial⟩ rfl trivial trivial trivial (rns_cons (rn_id if_L_retrospectref08_Whole) (rns_cons (rn_id if_i64) (rns_nil))) rfl
      · refine sskip ?_
        refine pnm ?_
        refine sseq ?_
        refine sreg ?_
        refine s1 (mv rfl rfl) ?_
        refine s1 (mv rfl rfl) ?_
        refine s1 (mv rfl rfl) ?_
        refine bd fun y15 h16 => ?_
        refine s1 (slS h16 Tryz.underlying9 rfl rfl (bnd rfl) bnd0) ?_
        refine bd fun r17 h18 => ?_
        refine s1 (call0 (c_retrospectref07_Read _ h18) ⟨⟨_, rfl, rn_id if_str⟩, trivial⟩ (if_sli) rfl) ?_
        refine s1 (bld (l := [bl s5, sli 1 (List.map u32 r17)]) pl_69 ti_69 zr_retrospectref08_Whole ⟨_, _, _, rfl, rfl, rfl, rfl, (szk (k := 1) rfl rfl), ⟨_, _, _, rfl, rfl, rfl, rfl, (szk (k := 1) rfl rfl), rfl⟩⟩ rfl) ?_
        refine bd fun r19 h20 => ?_
        refine s1 (call0 (c_retrospectref08_Norm _ h20) ⟨⟨_, rfl, rn_id if_L_retrospectref08_Whole⟩, trivial⟩ (if_L_retrospectref08_Whole) rfl) ?_
        refine so (stB2 (ly2 := L_retrospectref08_Whole r19) [] (by exact rfl) rfl (by exact rfl) sh_69 (by exact rfl) (by exact rfl) (by exact rfl) rfl (.inr ⟨rfl, rfl, _, _, rfl⟩) rfl) ?_
        refine s1 (asg rfl (kI (x := (-1)) rfl)) ?_
        refine snil ?_
        refine pnm ?_
        refine sret ?_
        exact ret [] [.cell 2 69, .tmp 3] [_, _] [_, _] .ret hγ (.inl rfl) rfl ⟨⟨100, _, rfl, rfl, sh_69⟩, rfl, trivial⟩ rfl trivial trivial trivial (rns_cons (rn_id if_L_retrospectref08_Whole) (rns_cons (rn_id if_i64) (rns_nil))) rfl
end Go.Proofs.YtiobbiamnjapgaaGreatDoor
