import Derived.Test.YtpomhkkhdojpiaaDoorMod
import Derived.Test.YtpomhkkhdojpiaaDoorSC
import Derived.Test.YtpomhkkhdojpiaaDoorSP
import Derived.Test.YtpomhkkhdojpiaaDoorLib
import Derived.Test.YtpomhkkhdojpiaaDoorChecked
set_option maxRecDepth 100000
set_option maxHeartbeats 4000000
namespace Go.Proofs.YtpomhkkhdojpiaaDoor
open Go Go.RowKit
theorem ownK : ownKnob Tryd.prog.godebug = none := by kernel_rfl
theorem laidOutK : laidOutB Tryd.prog = true := by kernel_rfl
abbrev L_S_u32 (xs : List Nat) : Ly := sli 1 (xs.map u32)
abbrev L_tree_Node (x : M_tree_Node) : Ly := .agg [i64 x.Op, i64 x.I, L_S_u32 x.N]
theorem if_L_tree_Node {a0_ a1_ a2_} : IF (.agg [i64 a0_, i64 a1_, sli 1 a2_]) := if_agg (ifs_cons if_i64 (ifs_cons if_i64 (ifs_cons if_sli (ifs_nil))))
abbrev L_S_tree_Node (xs : List M_tree_Node) : Ly := sli 3 (xs.map L_tree_Node)
abbrev L_tree_Let (x : M_tree_Let) : Ly := .agg [str x.Name, L_S_tree_Node x.Code]
theorem if_L_tree_Let {a0_ a1_} : IF (.agg [str a0_, sli 3 a1_]) := if_agg (ifs_cons if_str (ifs_cons if_sli (ifs_nil)))
abbrev L_S_tree_Let (xs : List M_tree_Let) : Ly := sli 2 (xs.map L_tree_Let)
abbrev L_S_S_tree_Node (xs : List (List M_tree_Node)) : Ly := sli 1 (xs.map L_S_tree_Node)
abbrev L_tree_Field (x : M_tree_Field) : Ly := .agg [L_S_tree_Let x.Lets, L_S_S_tree_Node x.Outs]
theorem if_L_tree_Field {a0_ a1_} : IF (.agg [sli 2 a0_, sli 1 a1_]) := if_agg (ifs_cons if_sli (ifs_cons if_sli (ifs_nil)))
abbrev L_api_Fault (x : M_api_Fault) : Ly := .agg [i64 x.Kind, i64 x.Step, i64 x.Stage, i64 x.At]
theorem if_L_api_Fault {a0_ a1_ a2_ a3_} : IF (.agg [i64 a0_, i64 a1_, i64 a2_, i64 a3_]) := if_agg (ifs_cons if_i64 (ifs_cons if_i64 (ifs_cons if_i64 (ifs_cons if_i64 (ifs_nil)))))
abbrev L_S_string (xs : List (List UInt8)) : Ly := sli 1 (xs.map str)
abbrev L_lex_Word (x : M_lex_Word) : Ly := .agg [i64 x.Kind, str x.Text, i64 x.At]
theorem if_L_lex_Word {a0_ a1_ a2_} : IF (.agg [i64 a0_, str a1_, i64 a2_]) := if_agg (ifs_cons if_i64 (ifs_cons if_str (ifs_cons if_i64 (ifs_nil))))
abbrev L_S_lex_Word (xs : List M_lex_Word) : Ly := sli 3 (xs.map L_lex_Word)
abbrev L_parse_reader (x : M_parse_reader) : Ly := .agg [L_S_lex_Word x.words, i64 x.at_, i64 x.end_, i64 x.deep, L_S_string x.names]
theorem if_L_parse_reader {a0_ a1_ a2_ a3_ a4_} : IF (.agg [sli 3 a0_, i64 a1_, i64 a2_, i64 a3_, sli 1 a4_]) := if_agg (ifs_cons if_sli (ifs_cons if_i64 (ifs_cons if_i64 (ifs_cons if_i64 (ifs_cons if_sli (ifs_nil))))))
abbrev L_tree_plain (x : M_tree_plain) : Ly := .agg [i64 x.op, i64 x.i]
theorem if_L_tree_plain {a0_ a1_} : IF (.agg [i64 a0_, i64 a1_]) := if_agg (ifs_cons if_i64 (ifs_cons if_i64 (ifs_nil)))
instance : CUn Tryd.prog 9 (.string) := ⟨Tryd.underlying9⟩
instance ti_31 : CTy Tryd.prog 31 2 48 (.agg #[.slice none 0 0, .slice none 0 0]) := ⟨tyI (by kernel_rfl)⟩
theorem zr_tree_Field : Zr (L_tree_Field (⟨[], []⟩ : M_tree_Field)) [.slice none 0 0, .slice none 0 0] := zr_agg (zrs_cons (c1 := [.slice none 0 0]) (zr_sli (k := 2)) (zrs_cons (c1 := [.slice none 0 0]) (zr_sli (k := 1)) (zrs_nil)))
instance : CZy Tryd.prog 31 (L_tree_Field (⟨[], []⟩ : M_tree_Field)) := ⟨_, _, _, ti_31.h, zr_tree_Field⟩
instance ti_25 : CTy Tryd.prog 25 4 32 (.agg #[.int .i64 0, .int .i64 0, .int .i64 0, .int .i64 0]) := ⟨tyI (by kernel_rfl)⟩
theorem zr_api_Fault : Zr (L_api_Fault (⟨0, 0, 0, 0⟩ : M_api_Fault)) [.int .i64 0, .int .i64 0, .int .i64 0, .int .i64 0] := zr_agg (zrs_cons (c1 := [.int .i64 0]) zr_i64 (zrs_cons (c1 := [.int .i64 0]) zr_i64 (zrs_cons (c1 := [.int .i64 0]) zr_i64 (zrs_cons (c1 := [.int .i64 0]) zr_i64 (zrs_nil)))))
instance : CZy Tryd.prog 25 (L_api_Fault (⟨0, 0, 0, 0⟩ : M_api_Fault)) := ⟨_, _, _, ti_25.h, zr_api_Fault⟩
instance pl_25 : CPl Tryd.prog 25 [(0, 1), (1, 1), (2, 1), (3, 1)] := ⟨⟨_, Tryd.underlying25, by kernel_rfl⟩⟩
instance sh_25 : CSh Tryd.prog 25 true 4 := ⟨shp Tryd.underlying25 rfl ti_25.h⟩
instance : CUn Tryd.prog 21 (.int .i32) := ⟨Tryd.underlying21⟩
instance : CUn Tryd.prog 5 (.int .u8) := ⟨Tryd.underlying5⟩
instance ti_49 : CTy Tryd.prog 49 3 32 (.agg #[.int .i64 0, .string ⟨#[]⟩, .int .i64 0]) := ⟨tyI (by kernel_rfl)⟩
instance pl_49 : CPl Tryd.prog 49 [(0, 1), (1, 1), (2, 1)] := ⟨⟨_, Tryd.underlying49, by kernel_rfl⟩⟩
theorem zr_lex_Word : Zr (L_lex_Word (⟨0, [], 0⟩ : M_lex_Word)) [.int .i64 0, .string ⟨#[]⟩, .int .i64 0] := zr_agg (zrs_cons (c1 := [.int .i64 0]) zr_i64 (zrs_cons (c1 := [.string ⟨#[]⟩]) zr_str (zrs_cons (c1 := [.int .i64 0]) zr_i64 (zrs_nil))))
instance : CUn Tryd.prog 23 (.slice 49) := ⟨Tryd.underlying23⟩
instance ti_9 : CTy Tryd.prog 9 1 16 (.string ⟨#[]⟩) := ⟨tyI (by kernel_rfl)⟩
instance : CUn Tryd.prog 56 (.slice 9) := ⟨Tryd.underlying56⟩
instance ti_70 : CTy Tryd.prog 70 5 72 (.agg #[.slice none 0 0, .int .i64 0, .int .i64 0, .int .i64 0, .slice none 0 0]) := ⟨tyI (by kernel_rfl)⟩
instance pl_70 : CPl Tryd.prog 70 [(0, 1), (1, 1), (2, 1), (3, 1), (4, 1)] := ⟨⟨_, Tryd.underlying70, by kernel_rfl⟩⟩
theorem zr_parse_reader : Zr (L_parse_reader (⟨[], 0, 0, 0, []⟩ : M_parse_reader)) [.slice none 0 0, .int .i64 0, .int .i64 0, .int .i64 0, .slice none 0 0] := zr_agg (zrs_cons (c1 := [.slice none 0 0]) (zr_sli (k := 3)) (zrs_cons (c1 := [.int .i64 0]) zr_i64 (zrs_cons (c1 := [.int .i64 0]) zr_i64 (zrs_cons (c1 := [.int .i64 0]) zr_i64 (zrs_cons (c1 := [.slice none 0 0]) (zr_sli (k := 1)) (zrs_nil))))))
theorem fol : Tryd.prog.follows .mixedOrders = true := by kernel_rfl
instance ti_3 : CTy Tryd.prog 3 1 8 (.int .i64 0) := ⟨tyI (by kernel_rfl)⟩
instance : CUn Tryd.prog 3 (.int .i64) := ⟨Tryd.underlying3⟩
instance sh_3 : CSh Tryd.prog 3 false 1 := ⟨shp Tryd.underlying3 rfl ti_3.h⟩
theorem eq_25_2 : EqF Tryd.prog 2 25 (fun x : M_api_Fault => .agg [i64 x.Kind, i64 x.Step, i64 x.Stage, i64 x.At]) eqb_api_Fault :=
  eqf_struct Tryd.underlying25 (by kernel_rfl) (eqfs_cons rfl rfl sh_3.h (fun _ => rfl) (fun _ => rfl) (eqf_comp (fun x : M_api_Fault => x.Kind) (eqf_i64 (n := 0) Tryd.underlying3)) (eqfs_cons rfl rfl sh_3.h (fun _ => rfl) (fun _ => rfl) (eqf_comp (fun x : M_api_Fault => x.Step) (eqf_i64 (n := 0) Tryd.underlying3)) (eqfs_cons rfl rfl sh_3.h (fun _ => rfl) (fun _ => rfl) (eqf_comp (fun x : M_api_Fault => x.Stage) (eqf_i64 (n := 0) Tryd.underlying3)) (eqfs_cons rfl rfl sh_3.h (fun _ => rfl) (fun _ => rfl) (eqf_comp (fun x : M_api_Fault => x.At) (eqf_i64 (n := 0) Tryd.underlying3)) (eqfs_nil)))))
theorem eg_25 : Tryd.prog.eqGuardType Tryd.prog.depth 25 = false := by kernel_rfl
instance pl_31 : CPl Tryd.prog 31 [(0, 1), (1, 1)] := ⟨⟨_, Tryd.underlying31, by kernel_rfl⟩⟩
instance sh_31 : CSh Tryd.prog 31 true 2 := ⟨shp Tryd.underlying31 rfl ti_31.h⟩
instance : CZy Tryd.prog 49 (L_lex_Word (⟨0, [], 0⟩ : M_lex_Word)) := ⟨_, _, _, ti_49.h, zr_lex_Word⟩
instance fd_70_1 : CFd Tryd.prog 70 1 1 := ⟨fdA Tryd.underlying70 rfl rfl ti_3.h rfl⟩
instance ti_23 : CTy Tryd.prog 23 1 24 (.slice none 0 0) := ⟨tyI (by kernel_rfl)⟩
instance fd_70_0 : CFd Tryd.prog 70 0 0 := ⟨fdA Tryd.underlying70 rfl rfl ti_23.h rfl⟩
instance sh_23 : CSh Tryd.prog 23 false 1 := ⟨shp Tryd.underlying23 rfl ti_23.h⟩
instance sh_49 : CSh Tryd.prog 49 true 3 := ⟨shp Tryd.underlying49 rfl ti_49.h⟩
instance sh_9 : CSh Tryd.prog 9 false 1 := ⟨shp Tryd.underlying9 rfl ti_9.h⟩
theorem ff_49_1 : ∃ fs F, Tryd.prog.underlying 49 = some (.struct fs) ∧ fs[1]? = some F ∧ F.offset = 1 ∧ Shp Tryd.prog F.type false 1 := ⟨_, _, Tryd.underlying49, rfl, rfl, sh_9.h⟩
instance fd_49_0 : CFd Tryd.prog 49 0 0 := ⟨fdA Tryd.underlying49 rfl rfl ti_3.h rfl⟩
instance fd_49_1 : CFd Tryd.prog 49 1 1 := ⟨fdA Tryd.underlying49 rfl rfl ti_9.h rfl⟩
instance fd_70_2 : CFd Tryd.prog 70 2 2 := ⟨fdA Tryd.underlying70 rfl rfl ti_3.h rfl⟩
instance fd_49_2 : CFd Tryd.prog 49 2 2 := ⟨fdA Tryd.underlying49 rfl rfl ti_3.h rfl⟩
instance ti_28 : CTy Tryd.prog 28 1 24 (.slice none 0 0) := ⟨tyI (by kernel_rfl)⟩
instance fd_31_0 : CFd Tryd.prog 31 0 0 := ⟨fdA Tryd.underlying31 rfl rfl ti_28.h rfl⟩
instance : CUn Tryd.prog 28 (.slice 59) := ⟨Tryd.underlying28⟩
instance sh_28 : CSh Tryd.prog 28 false 1 := ⟨shp Tryd.underlying28 rfl ti_28.h⟩
instance : CUn Tryd.prog 85 (.int .u32) := ⟨Tryd.underlying85⟩
instance : CUn Tryd.prog 42 (.slice 85) := ⟨Tryd.underlying42⟩
instance ti_85 : CTy Tryd.prog 85 1 4 (.int .u32 0) := ⟨tyI (by kernel_rfl)⟩
instance sh_85 : CSh Tryd.prog 85 false 1 := ⟨shp Tryd.underlying85 rfl ti_85.h⟩
instance : CUn Tryd.prog 112 (.int .u64) := ⟨Tryd.underlying112⟩
instance ti_44 : CTy Tryd.prog 44 3 40 (.agg #[.int .i64 0, .int .i64 0, .slice none 0 0]) := ⟨tyI (by kernel_rfl)⟩
instance pl_44 : CPl Tryd.prog 44 [(0, 1), (1, 1), (2, 1)] := ⟨⟨_, Tryd.underlying44, by kernel_rfl⟩⟩
theorem zr_tree_Node : Zr (L_tree_Node (⟨0, 0, []⟩ : M_tree_Node)) [.int .i64 0, .int .i64 0, .slice none 0 0] := zr_agg (zrs_cons (c1 := [.int .i64 0]) zr_i64 (zrs_cons (c1 := [.int .i64 0]) zr_i64 (zrs_cons (c1 := [.slice none 0 0]) (zr_sli (k := 1)) (zrs_nil))))
instance : CUn Tryd.prog 36 (.slice 44) := ⟨Tryd.underlying36⟩
instance fd_70_3 : CFd Tryd.prog 70 3 3 := ⟨fdA Tryd.underlying70 rfl rfl ti_3.h rfl⟩
instance ti_56 : CTy Tryd.prog 56 1 24 (.slice none 0 0) := ⟨tyI (by kernel_rfl)⟩
instance fd_70_4 : CFd Tryd.prog 70 4 4 := ⟨fdA Tryd.underlying70 rfl rfl ti_56.h rfl⟩
instance sh_56 : CSh Tryd.prog 56 false 1 := ⟨shp Tryd.underlying56 rfl ti_56.h⟩
instance ti_59 : CTy Tryd.prog 59 2 40 (.agg #[.string ⟨#[]⟩, .slice none 0 0]) := ⟨tyI (by kernel_rfl)⟩
instance pl_59 : CPl Tryd.prog 59 [(0, 1), (1, 1)] := ⟨⟨_, Tryd.underlying59, by kernel_rfl⟩⟩
theorem zr_tree_Let : Zr (L_tree_Let (⟨[], []⟩ : M_tree_Let)) [.string ⟨#[]⟩, .slice none 0 0] := zr_agg (zrs_cons (c1 := [.string ⟨#[]⟩]) zr_str (zrs_cons (c1 := [.slice none 0 0]) (zr_sli (k := 3)) (zrs_nil)))
instance ti_29 : CTy Tryd.prog 29 1 24 (.slice none 0 0) := ⟨tyI (by kernel_rfl)⟩
instance fd_31_1 : CFd Tryd.prog 31 1 1 := ⟨fdA Tryd.underlying31 rfl rfl ti_29.h rfl⟩
instance : CUn Tryd.prog 29 (.slice 36) := ⟨Tryd.underlying29⟩
instance sh_29 : CSh Tryd.prog 29 false 1 := ⟨shp Tryd.underlying29 rfl ti_29.h⟩
instance ti_36 : CTy Tryd.prog 36 1 24 (.slice none 0 0) := ⟨tyI (by kernel_rfl)⟩
instance sh_36 : CSh Tryd.prog 36 false 1 := ⟨shp Tryd.underlying36 rfl ti_36.h⟩
instance fd_44_0 : CFd Tryd.prog 44 0 0 := ⟨fdA Tryd.underlying44 rfl rfl ti_3.h rfl⟩
instance : CUn Tryd.prog 4 (.bool) := ⟨Tryd.underlying4⟩
instance sh_59 : CSh Tryd.prog 59 true 2 := ⟨shp Tryd.underlying59 rfl ti_59.h⟩
instance : CZy Tryd.prog 59 (L_tree_Let (⟨[], []⟩ : M_tree_Let)) := ⟨_, _, _, ti_59.h, zr_tree_Let⟩
instance fd_59_0 : CFd Tryd.prog 59 0 0 := ⟨fdA Tryd.underlying59 rfl rfl ti_9.h rfl⟩
instance fd_59_1 : CFd Tryd.prog 59 1 1 := ⟨fdA Tryd.underlying59 rfl rfl ti_36.h rfl⟩
instance sh_44 : CSh Tryd.prog 44 true 3 := ⟨shp Tryd.underlying44 rfl ti_44.h⟩
instance : CZy Tryd.prog 44 (L_tree_Node (⟨0, 0, []⟩ : M_tree_Node)) := ⟨_, _, _, ti_44.h, zr_tree_Node⟩
instance fd_44_1 : CFd Tryd.prog 44 1 1 := ⟨fdA Tryd.underlying44 rfl rfl ti_3.h rfl⟩
instance ti_62 : CTy Tryd.prog 62 2 16 (.agg #[.int .i64 0, .int .i64 0]) := ⟨tyI (by kernel_rfl)⟩
instance pl_62 : CPl Tryd.prog 62 [(0, 1), (1, 1)] := ⟨⟨_, Tryd.underlying62, by kernel_rfl⟩⟩
theorem zr_tree_plain : Zr (L_tree_plain (⟨0, 0⟩ : M_tree_plain)) [.int .i64 0, .int .i64 0] := zr_agg (zrs_cons (c1 := [.int .i64 0]) zr_i64 (zrs_cons (c1 := [.int .i64 0]) zr_i64 (zrs_nil)))
theorem eq_62_2 : EqF Tryd.prog 2 62 (fun x : M_tree_plain => .agg [i64 x.op, i64 x.i]) eqb_tree_plain :=
  eqf_struct Tryd.underlying62 (by kernel_rfl) (eqfs_cons rfl rfl sh_3.h (fun _ => rfl) (fun _ => rfl) (eqf_comp (fun x : M_tree_plain => x.op) (eqf_i64 (n := 0) Tryd.underlying3)) (eqfs_cons rfl rfl sh_3.h (fun _ => rfl) (fun _ => rfl) (eqf_comp (fun x : M_tree_plain => x.i) (eqf_i64 (n := 0) Tryd.underlying3)) (eqfs_nil)))
theorem eg_62 : Tryd.prog.eqGuardType Tryd.prog.depth 62 = false := by kernel_rfl
instance ti_42 : CTy Tryd.prog 42 1 24 (.slice none 0 0) := ⟨tyI (by kernel_rfl)⟩
instance fd_44_2 : CFd Tryd.prog 44 2 2 := ⟨fdA Tryd.underlying44 rfl rfl ti_42.h rfl⟩
instance sh_42 : CSh Tryd.prog 42 false 1 := ⟨shp Tryd.underlying42 rfl ti_42.h⟩
instance : CZy Tryd.prog 36 (sli 3 (List.map L_tree_Node [])) := ⟨_, _, _, ti_36.h, (zr_sli (k := 3))⟩
instance fd_25_0 : CFd Tryd.prog 25 0 0 := ⟨fdA Tryd.underlying25 rfl rfl ti_3.h rfl⟩
theorem c_lex_skip {n : Nat} {x0} {x1} : ∀ r, m_lex_skip n x0 x1 = some r → FnOk Tryd.prog 12 [str x0, i64 x1] [] (i64 r) [] := by
 unfold m_lex_skip
 refine fs Tryd.func12 fun w S0 γ hγ => ?_
 apply z [2, 31, 1, 5, 7]
 refine sloopE 0 Lp.go (fun s23 => [(0, str x0), (1, i64 s23), (4, i64 (0 : Int))]) (fun s23 => []) (fun t21 => [(1, i64 t21), (4, i64 (0 : Int))]) (fun t21 => []) eI ?_ ?_
 · intro hj22 s23
   apply z [5, 2, 30, 30, 54, 46, 1]
   refine c ?_ ?_
   · apply z [9, 4, 7, 2, 30, 30]
     refine b fun y24 h25 => ?_
     apply z [90, 1, 7]
     refine sjq (fun s28 => [(0, str x0), (1, i64 s23), (4, i64 (0 : Int)), (14, u8 y24), (16, bl s28)]) (fun s28 => []) ?_ ?_
     · intro j26 hj27
       apply z [2, 66, 31, 1]
       refine c ?_ ?_
       · apply z [9, 4]
         exact sj (hj27 _) eI
       apply z [2, 66, 31, 1]
       refine c ?_ ?_
       · apply z [9, 4]
         exact sj (hj27 _) eI
       apply z [2, 66, 31, 1]
       refine c ?_ ?_
       · apply z [9, 4]
         exact sj (hj27 _) eI
       apply z [6, 66, 31, 1]
       exact sj (hj27 _) eI
     intro s28
     refine c ?_ ?_
     · apply z [6, 30, 40, 31, 3, 11, 11]
       exact sgo eI
     apply z [2, 66, 31, 1]
     refine c ?_ ?_
     · apply z [2, 30, 30]
       refine b fun y29 h30 => ?_
       refine s1 (slS h30 Tryd.underlying9 rfl rfl (bnd rfl) bnd0) ?_
       refine cb (ca c_strings_Cut) fun r31 => ?_
       apply z [30, 35, 35, 35, 31, 31, 31, 1, 6, 30, 30, 54, 40, 31, 3, 11, 11]
       exact sgo eI
     apply z [2, 30, 31, 1, 8, 12, 12]
     refine sU ?_
     apply z [12, 10]
     exact rt []
   apply z [14, 15]
   exact su (sj (hj22 _) eI)
 intro t21
 refine slpk ?_
 apply z [13, 4, 2, 30, 31, 1, 8]
 exact rt []
theorem c_lex_digit {x0} : ∀ r, m_lex_digit x0 = some r → FnOk Tryd.prog 27 [u8 x0] [] (bl r) [] := by
 unfold m_lex_digit
 refine fs Tryd.func27 fun w S0 γ hγ => ?_
 apply z [2, 31, 1]
 refine sjq (fun s3 => [(2, bl s3)]) (fun s3 => []) ?_ ?_
 · intro j1 hj2
   apply z [6, 30, 71, 30]
   refine sifd 5 rfl ?_ ?_
   · apply z [22, 22, 38, 31, 1]
     exact sj (hj2 _) eI
   apply z [23, 23, 37, 31, 1]
   exact sj (hj2 _) eI
 intro s3
 apply z [8]
 exact rt []
theorem c_lex_letter {x0} : ∀ r, m_lex_letter x0 = some r → FnOk Tryd.prog 28 [u8 x0] [] (bl r) [] := by
 unfold m_lex_letter
 refine fs Tryd.func28 fun w S0 γ hγ => ?_
 apply z [2, 31, 1]
 refine sjq (fun s3 => [(2, bl s3)]) (fun s3 => []) ?_ ?_
 · intro j1 hj2
   apply z [6, 30, 71, 30]
   refine sifd 5 rfl ?_ ?_
   · apply z [22, 22, 38, 30]
     refine sifd 9 rfl ?_ ?_
     · apply z [23, 23, 23, 24, 24, 23, 38, 30, 23, 23, 38, 31, 1]
       exact sj (hj2 _) eI
     apply z [22, 22, 22]
     refine sifd 12 rfl ?_ ?_
     · apply z [22, 22, 22, 37, 30]
       refine sifd 17 rfl ?_ ?_
       · apply z [23, 23, 38, 31, 1]
         exact sj (hj2 _) eI
       apply z [22, 22, 37, 31, 1]
       exact sj (hj2 _) eI
     apply z [23, 23, 22, 37, 30, 22, 22, 37, 31, 1]
     exact sj (hj2 _) eI
   apply z [23, 23, 37, 30, 22, 22, 22]
   refine sifd 12 rfl ?_ ?_
   · apply z [22, 22, 22, 37, 30]
     refine sifd 17 rfl ?_ ?_
     · apply z [23, 23, 38, 31, 1]
       exact sj (hj2 _) eI
     apply z [22, 22, 37, 31, 1]
     exact sj (hj2 _) eI
   apply z [23, 23, 22, 37, 30, 22, 22, 37, 31, 1]
   exact sj (hj2 _) eI
 intro s3
 apply z [8]
 exact rt []
theorem c_lex_sign {n : Nat} {x0} : ∀ r, m_lex_sign n x0 = some r → FnOk Tryd.prog 29 [u8 x0] [] (bl r) [] := by
 unfold m_lex_sign
 refine fs Tryd.func29 fun w S0 γ hγ => ?_
 apply z [2, 31, 1, 5, 2]
 refine so (rngS (y := 100) Tryd.underlying9 (kS (s := [43, 45, 42, 47, 94, 40, 41, 91, 93, 44, 59, 61]) rfl) rfl rfl) ?_
 apply z [1, 7]
 refine sloopE 0 Lp.go (fun s9 => [(0, u8 x0), (2, bl false), (5, .own 100)]) (fun s9 => [(100, .ob (sIt ([43, 45, 42, 47, 94, 40, 41, 91, 93, 44, 59, 61] : List UInt8) s9))]) (fun t7 => [(2, bl false)]) (fun t7 => []) (eR [(100, 100)]) ?_ ?_
 · intro hj8 s9
   apply z [2]
   refine sif (fun hb10 => ?_) (fun hb10 => ?_)
   · refine so (nxtT hb10 rfl rfl rfl rfl) ?_
     apply z [35, 1, 5]
     refine scT rfl ?_
     apply z [9, 4, 7, 2, 35]
     refine sbn (F := i32) 8 rfl fun z11 => ?_
     apply z [31, 1, 2, 30, 83, 30, 66, 1]
     refine c ?_ ?_
     · apply z [2, 31, 1, 8, 12]
       refine sU ?_
       apply z [12, 10]
       exact rt []
     apply z [9, 11]
     exact sgo (eR [(100, 100)])
   · refine s1 (nxtF hb10 rfl rfl rfl) ?_
     apply z [35, 1, 5]
     refine scF rfl ?_
     apply z [14, 15]
     exact su (sj (hj8 _) (eR []))
 intro t7
 refine slpk ?_
 apply z [13, 4, 2, 31, 1, 8]
 exact rt []
theorem c_lex_kind {n : Nat} {x0} : ∀ r, m_lex_kind n x0 = some r → FnOk Tryd.prog 13 [u8 x0] [] (i64 r) [] := by
 unfold m_lex_kind
 refine fs Tryd.func13 fun w S0 γ hγ => ?_
 apply z [2, 31, 1, 5, 7, 2, 30]
 refine cb (ca c_lex_digit) fun r1 => ?_
 apply z [31, 1]
 refine c ?_ ?_
 · apply z [2, 31, 1, 8, 12, 10]
   exact rt []
 apply z [2, 30]
 refine cb (ca c_lex_letter) fun r3 => ?_
 apply z [31, 1]
 refine c ?_ ?_
 · apply z [2, 31, 1, 8, 12, 10]
   exact rt []
 apply z [2, 30]
 refine cb (ca c_lex_sign) fun r5 => ?_
 apply z [31, 1]
 refine c ?_ ?_
 · apply z [2, 31, 1, 8, 12, 10]
   exact rt []
 apply z [9, 11, 4, 2, 31, 1, 8]
 exact rt []
theorem c_lex_goes {x0} {x1} : ∀ r, m_lex_goes x0 x1 = some r → FnOk Tryd.prog 30 [i64 x0, u8 x1] [] (bl r) [] := by
 unfold m_lex_goes
 refine fs Tryd.func30 fun w S0 γ hγ => ?_
 apply z [2, 31, 1]
 refine sjq (fun s13 => [(4, bl s13)]) (fun s13 => []) ?_ ?_
 · intro j11 hj12
   apply z [6, 30, 41, 30]
   refine sifd 7 rfl ?_ ?_
   · apply z [22]
     refine b fun r14 h15 => ?_
     refine og' (c0 (c_lex_digit _ h15)) ?_
     apply z [38, 30]
     refine sifd 11 rfl ?_ ?_
     · apply z [23, 23, 23, 24, 24, 24, 24, 24, 24, 23, 38, 31, 1]
       exact sj (hj12 _) eI
     apply z [22, 22, 22]
     refine sifd 14 rfl ?_ ?_
     · apply z [22]
       refine b fun r16 h17 => ?_
       refine og' (c0 (c_lex_letter _ h17)) ?_
       apply z [22]
       refine sifd 17 rfl ?_ ?_
       · apply z [23, 23, 22, 22, 37, 31, 1]
         exact sj (hj12 _) eI
       apply z [22]
       refine b fun r18 h19 => ?_
       refine og' (c0 (c_lex_digit _ h19)) ?_
       apply z [22, 22, 37, 31, 1]
       exact sj (hj12 _) eI
     apply z [23, 23, 23, 24, 24, 23, 22, 37, 31, 1]
     exact sj (hj12 _) eI
   apply z [23, 23, 37, 30, 22, 22, 22]
   refine sifd 14 rfl ?_ ?_
   · apply z [22]
     refine b fun r20 h21 => ?_
     refine og' (c0 (c_lex_letter _ h21)) ?_
     apply z [22]
     refine sifd 17 rfl ?_ ?_
     · apply z [23, 23, 22, 22, 37, 31, 1]
       exact sj (hj12 _) eI
     apply z [22]
     refine b fun r22 h23 => ?_
     refine og' (c0 (c_lex_digit _ h23)) ?_
     apply z [22, 22, 37, 31, 1]
     exact sj (hj12 _) eI
   apply z [23, 23, 23, 24, 24, 23, 22, 37, 31, 1]
   exact sj (hj12 _) eI
 intro s13
 apply z [8]
 exact rt []
theorem c_lex_first {n : Nat} {x0} {x1} : ∀ r, m_lex_first n x0 x1 = some r → FnOk Tryd.prog 14 [str x0, i64 x1] [] (i64 r) [] := by
 unfold m_lex_first
 refine fs Tryd.func14 fun w S0 γ hγ => ?_
 apply z [2, 31, 1, 2, 31, 1, 5, 7]
 refine sloopE 0 (fun t => t) (fun s27 => [(0, str x0), (1, i64 x1), (4, i64 (0 : Int)), (5, i64 s27)]) (fun s27 => []) (fun t25 => [(4, i64 (0 : Int)), (5, i64 t25)]) (fun t25 => []) eI ?_ ?_
 · intro hj26 s27
   apply z [5]
   refine sjq (fun s34 => [(0, str x0), (1, i64 x1), (4, i64 (0 : Int)), (5, i64 s27), (16, bl s34)]) (fun s34 => []) ?_ ?_
   · intro j32 hj33
     apply z [6, 30, 30, 54, 46, 30]
     refine sifd 10 rfl ?_ ?_
     · apply z [22, 22, 22]
       refine b fun y35 h36 => ?_
       apply z [22]
       refine b fun r37 h38 => ?_
       refine og' (c0 (c_lex_goes _ h38)) ?_
       apply z [38, 1]
       exact sj (hj33 _) eI
     apply z [23, 23, 23, 23, 23, 37, 1]
     exact sj (hj33 _) eI
   intro s34
   refine c ?_ ?_
   · apply z [9, 4, 7, 6, 30, 40, 31, 3, 11]
     exact sgo eI
   apply z [14, 15]
   exact su (sj (hj26 _) eI)
 intro t25
 apply z [13, 4, 2, 30, 31, 1, 8]
 exact rt []
theorem c_lex_most {x0} : ∀ r, m_lex_most x0 = some r → FnOk Tryd.prog 15 [i64 x0] [] (i64 r) [] := by
 unfold m_lex_most
 refine fs Tryd.func15 fun w S0 γ hγ => ?_
 apply z [2, 31, 1, 5, 2, 30, 1, 7, 2, 41, 31, 1]
 refine c ?_ ?_
 · apply z [2, 31, 1, 8, 12, 10]
   exact rt []
 apply z [2, 41, 31, 1]
 refine c ?_ ?_
 · apply z [2, 31, 1, 8, 12, 10]
   exact rt []
 apply z [9, 11, 4, 2, 31, 1, 8]
 exact rt []
theorem c_lex_Scan {n : Nat} {x0} : ∀ r, m_lex_Scan n x0 = some r → FnOk Tryd.prog 5 [str x0] [] (.tup [sli 3 (List.map L_lex_Word r.1), L_api_Fault r.2]) [] := by
 unfold m_lex_Scan
 refine fs Tryd.func5 fun w S0 γ hγ => ?_
 apply z [2]
 refine s1 (asg rfl (kLm (k := 3) L_lex_Word)) ?_
 refine o (al' 100) ?_
 apply z [1, 5, 2, 30, 54, 47, 1]
 refine c ?_ ?_
 · apply z [2]
   refine s1 (bld (l := [i64 (1 : Int), i64 0, i64 0, i64 (4000 : Int)]) pl_25.h ti_25.h zr_api_Fault ⟨_, _, _, (kI (x := 1) rfl), rfl, rfl, rfl, (szk (k := 1) rfl rfl), ⟨_, _, _, (kI (x := 4000) rfl), rfl, rfl, rfl, (szk (k := 1) rfl rfl), rfl⟩⟩ rfl) ?_
   refine s1 (asg rfl (kLm (k := 3) L_lex_Word)) ?_
   apply z [34, 1, 8, 10]
   exact rt []
 apply z [9, 4, 2]
 refine so (asgN (y := 101) (E := 49) (k := 3) rfl rfl) ?_
 apply z [1, 5, 2, 30]
 refine cb (ca c_lex_skip) fun r1 => ?_
 apply z [31, 1, 7]
 refine sloopE 0 Lp.go (fun s43 => [(0, str x0), (2, sli 3 (List.map L_lex_Word ([] : List M_lex_Word))), (3, .own 100), (4, .own 101), (5, i64 s43.2)]) (fun s43 => [(100, .bx 25 (L_api_Fault (⟨0, 0, 0, 0⟩ : M_api_Fault))), (101, .sl 49 3 (List.map L_lex_Word s43.1))]) (fun t41 => [(2, sli 3 (List.map L_lex_Word ([] : List M_lex_Word))), (3, .own 100), (4, .own 101)]) (fun t41 => [(100, .bx 25 (L_api_Fault (⟨0, 0, 0, 0⟩ : M_api_Fault))), (101, .sl 49 3 (List.map L_lex_Word t41))]) (eR [(100, 100), (101, 101)]) ?_ ?_
 · intro hj42 s43
   apply z [5, 2, 30, 30, 54, 46, 1]
   refine c ?_ ?_
   · apply z [9, 4, 5, 7, 2, 30, 30]
     refine b fun y44 h45 => ?_
     apply z [90]
     refine cb (ca c_lex_kind) fun r46 => ?_
     apply z [31, 1, 5, 2, 30, 41, 1]
     refine c ?_ ?_
     · apply z [2, 30]
       refine s1 (bld (l := [i64 (1 : Int), i64 0, i64 0, i64 s43.2]) pl_25.h ti_25.h zr_api_Fault ⟨_, _, _, (kI (x := 1) rfl), rfl, rfl, rfl, (szk (k := 1) rfl rfl), ⟨_, _, _, rfl, rfl, rfl, rfl, (szk (k := 1) rfl rfl), rfl⟩⟩ rfl) ?_
       refine s1 (asg rfl (kLm (k := 3) L_lex_Word)) ?_
       apply z [34, 1, 8, 10, 12, 10]
       refine sU ?_
       apply z [12, 10]
       exact rt []
     apply z [9, 4, 2, 30, 30]
     refine b fun y48 h49 => ?_
     refine s1 (slS h49 Tryd.underlying9 rfl rfl (bnd rfl) bnd0) ?_
     apply z [30]
     refine cb (ca c_lex_first) fun r50 => ?_
     apply z [31, 1, 5, 2, 30, 30]
     refine cb (ca c_lex_most) fun r52 => ?_
     apply z [47, 1]
     refine c ?_ ?_
     · apply z [2, 30, 30]
       refine cb (ca c_lex_most) fun r54 => ?_
       apply z [40]
       refine s1 (bld (l := [i64 (1 : Int), i64 0, i64 0, i64 (wrap64 (s43.2 + r54))]) pl_25.h ti_25.h zr_api_Fault ⟨_, _, _, (kI (x := 1) rfl), rfl, rfl, rfl, (szk (k := 1) rfl rfl), ⟨_, _, _, rfl, rfl, rfl, rfl, (szk (k := 1) rfl rfl), rfl⟩⟩ rfl) ?_
       refine s1 (asg rfl (kLm (k := 3) L_lex_Word)) ?_
       apply z [34, 1, 8, 10, 12, 10]
       refine sU ?_
       apply z [12, 10]
       exact rt []
     apply z [9, 4, 2, 30, 30, 30, 30, 30, 30, 40]
     refine b fun y56 h57 => ?_
     refine s1 (slS h57 Tryd.underlying9 rfl rfl (bnd rfl) (bnd rfl)) ?_
     apply z [30]
     refine s1 (bld (l := [i64 r46, str y56, i64 s43.2]) pl_49.h ti_49.h zr_lex_Word ⟨_, _, _, rfl, rfl, rfl, rfl, (szk (k := 1) rfl rfl), ⟨_, _, _, rfl, rfl, rfl, rfl, (szk (k := 1) rfl rfl), ⟨_, _, _, rfl, rfl, rfl, rfl, (szk (k := 1) rfl rfl), rfl⟩⟩⟩ rfl) ?_
     refine so (bsl (y := 102) (ls := List.map L_lex_Word ([(⟨r46, y56, s43.2⟩ : M_lex_Word)] : List M_lex_Word)) Tryd.underlying23 ti_49.h rfl rfl rfl rfl rfl ⟨rfl, rfl, (by exact rfl), (by exact rfl), trivial⟩ rfl rfl) ?_
     refine b fun y58 h59 => ?_
     refine o (app' 103) ?_
     apply z [31, 1, 6, 30, 30, 40, 31, 3, 11, 4, 6, 30, 30]
     refine cb (ca c_lex_skip) fun r60 => ?_
     apply z [31, 3]
     exact sgo (eR [(100, 100), (101, 103)])
   apply z [14, 15]
   exact su (sj (hj42 _) (eR [(100, 100), (101, 101)]))
 intro t41
 refine slpk ?_
 apply z [13, 4, 2, 30]
 refine s1 (bld (l := [i64 0, i64 0, i64 0, i64 0]) pl_25.h ti_25.h zr_api_Fault rfl rfl) ?_
 apply z [31, 34, 1, 8]
 refine fz 101 [2, 4, 58] [] ?_
 exact rt []
theorem c_parse_begin {n : Nat} {x0} {x1} : ∀ r, m_parse_begin n x0 x1 = some r → FnOk Tryd.prog 16 [str x0, sli 1 (List.map str x1)] [] (.tup [.own 50, L_api_Fault r.2.2.2.2.2]) [(50, .bx 70 (.agg [sli 3 (List.map L_lex_Word r.1), i64 r.2.1, i64 r.2.2.1, i64 r.2.2.2.1, .own 70])), (70, .sl 9 1 (List.map str r.2.2.2.2.1))] := by
 unfold m_parse_begin
 refine fs Tryd.func16 fun w S0 γ hγ => ?_
 apply z [2, 31]
 refine o (al' 100) ?_
 apply z [1, 2, 30]
 refine cb (ca c_lex_Scan) fun r1 => ?_
 apply z [30, 35, 35]
 refine o (al' 101) ?_
 apply z [31, 34, 1, 5]
 refine b fun y3 h4 => ?_
 refine sd ?_
 apply zd [[], [], [], []]
 refine dx [16] [102] (fun st mm ⟨a16, _⟩ ⟨g102, _⟩ => og (appN (y := 102) (f := str) h4 Tryd.underlying56 ti_9.h rfl rfl (a16.trans rfl) (.inl rfl) (g102.trans rfl) rfl)) ?_
 refine dx [17, 13, 15] [] (fun st mm ⟨a17, a13, a15, _⟩ _ => og (bld (l := [sli 3 (List.map L_lex_Word r1.1), i64 0, i64 (x0.length : Int), i64 0, .own 102]) pl_70.h ti_70.h zr_parse_reader ⟨_, _, _, (a13.trans rfl), rfl, rfl, rfl, (szk (k := 1) rfl rfl), ⟨_, _, _, (a15.trans rfl), rfl, rfl, rfl, (szk (k := 1) rfl rfl), ⟨_, _, _, (a17.trans rfl), rfl, rfl, rfl, (szk (k := 1) rfl rfl), rfl⟩⟩⟩ rfl)) ?_
 refine dd [103] (fun _ _ _ _ => bx' 103) ?_
 apply zd [[101], [], [100]]
 refine de fol ?_
 apply z [4, 8]
 exact rt [(50, 103), (70, 102)]
theorem c___parse_reader__next {x0_words} {x0_at_} {x0_end_} {x0_deep} {x0_names} : ∀ r, m___parse_reader__next x0_words x0_at_ x0_end_ x0_deep x0_names = some r → FnOk Tryd.prog 43 [.own 0] [(0, .bx 70 (.agg [sli 3 (List.map L_lex_Word x0_words), i64 x0_at_, i64 x0_end_, i64 x0_deep, .own 1])), (1, .sl 9 1 (List.map str x0_names))] (L_lex_Word r) [(0, .bx 70 (.agg [sli 3 (List.map L_lex_Word x0_words), i64 x0_at_, i64 x0_end_, i64 x0_deep, .own 1])), (1, .sl 9 1 (List.map str x0_names))] := by
 unfold m___parse_reader__next
 refine fs Tryd.func43 fun w S0 γ hγ => ?_
 apply z [2]
 refine o (al' 100) ?_
 apply z [1, 5, 5]
 refine sd ?_
 apply zd [[], [0], [0], [0], [], [0], [0], [0], [], []]
 refine de fol ?_
 apply z [4]
 refine c ?_ ?_
 · apply z [5]
   refine b fun y1 h2 => ?_
   refine sd ?_
   apply zd [[], [0], [0], [0], [], [0], [0], [0], [], [], [100]]
   refine de fol ?_
   apply z [4, 8, 10]
   exact rt [(0, 0), (1, 1)]
 apply z [9, 4, 2]
 refine s1 (bld (l := [i64 0, str [], i64 0]) pl_49.h ti_49.h zr_lex_Word rfl rfl) ?_
 apply z [34, 1, 8]
 exact rt [(0, 0), (1, 1)]
theorem c___parse_reader__has {x0_words} {x0_at_} {x0_end_} {x0_deep} {x0_names} {x1} : ∀ r, m___parse_reader__has x0_words x0_at_ x0_end_ x0_deep x0_names x1 = some r → FnOk Tryd.prog 31 [.own 0, str x1] [(0, .bx 70 (.agg [sli 3 (List.map L_lex_Word x0_words), i64 x0_at_, i64 x0_end_, i64 x0_deep, .own 1])), (1, .sl 9 1 (List.map str x0_names))] (bl r.1) [(0, .bx 70 (.agg [sli 3 (List.map L_lex_Word r.2.1), i64 r.2.2.1, i64 r.2.2.2.1, i64 r.2.2.2.2, .own 1])), (1, .sl 9 1 (List.map str x0_names))] := by
 unfold m___parse_reader__has
 refine fs Tryd.func31 fun w S0 γ hγ => ?_
 apply z [2, 31, 1, 5, 2, 30]
 refine b fun r1 h2 => ?_
 refine o (cG (c___parse_reader__next _ h2) [0, 1] [] [0, 1]) ?_
 refine s1 (fld ff_49_1 (by exact rfl) (by exact rfl) (by exact rfl) rfl rfl) ?_
 apply z [30, 73, 1]
 refine c ?_ ?_
 · apply z [2, 31, 1, 8, 10]
   exact rt [(0, 0), (1, 1)]
 apply z [9, 4, 2, 30, 48, 33, 36, 40, 48, 33]
 refine o (stP (.agg [sli 3 (List.map L_lex_Word x0_words), i64 (wrap64 (x0_at_ + (1 : Int))), i64 x0_end_, i64 x0_deep, .own 1]) [1]) ?_
 apply z [1, 2, 31, 1, 8]
 exact rt [(0, 0), (1, 1)]
theorem c_parse_reserved {x0} : ∀ r, m_parse_reserved x0 = some r → FnOk Tryd.prog 44 [str x0] [] (bl r) [] := by
 unfold m_parse_reserved
 refine fs Tryd.func44 fun w S0 γ hγ => ?_
 apply z [2, 31, 1]
 refine sjq (fun s3 => [(2, bl s3)]) (fun s3 => []) ?_ ?_
 · intro j1 hj2
   apply z [6, 30, 72, 30]
   refine sifd 5 rfl ?_ ?_
   · apply z [23, 23, 38, 30, 23, 23, 38, 30, 23, 23, 38, 31, 1]
     exact sj (hj2 _) eI
   apply z [22, 22, 37, 30]
   refine sifd 9 rfl ?_ ?_
   · apply z [23, 23, 38, 30, 23, 23, 38, 31, 1]
     exact sj (hj2 _) eI
   apply z [22, 22, 37, 30]
   refine sifd 13 rfl ?_ ?_
   · apply z [23, 23, 38, 31, 1]
     exact sj (hj2 _) eI
   apply z [22, 22, 37, 31, 1]
   exact sj (hj2 _) eI
 intro s3
 apply z [8]
 exact rt []
theorem c___parse_reader__fail {x0_words} {x0_at_} {x0_end_} {x0_deep} {x0_names} : ∀ r, m___parse_reader__fail x0_words x0_at_ x0_end_ x0_deep x0_names = some r → FnR Tryd.prog 34 [.own 0] [(0, .bx 70 (.agg [sli 3 (List.map L_lex_Word x0_words), i64 x0_at_, i64 x0_end_, i64 x0_deep, .own 1])), (1, .sl 9 1 (List.map str x0_names))] 25 L_api_Fault (fun r => .tup []) (fun r => [(0, .bx 70 (.agg [sli 3 (List.map L_lex_Word x0_words), i64 x0_at_, i64 x0_end_, i64 x0_deep, .own 1])), (1, .sl 9 1 (List.map str x0_names))]) r := by
 unfold m___parse_reader__fail
 refine fsP Tryd.func34 fun w S0 γ hγ => ?_
 apply z [2, 30, 48, 33, 36, 31, 1]
 refine sjq (fun s5 => [(2, i64 s5)]) (fun s5 => [(0, .bx 70 (.agg [sli 3 (List.map L_lex_Word x0_words), i64 x0_at_, i64 x0_end_, i64 x0_deep, .own 1])), (1, .sl 9 1 (List.map str x0_names))]) ?_ ?_
 · intro j3 hj4
   apply z [5]
   refine sd ?_
   apply zd [[], [0], [0], [0], [], [0], [0], [0], [], []]
   refine de fol ?_
   apply z [4]
   refine c ?_ ?_
   · refine b fun y6 h7 => ?_
     refine sd ?_
     apply zd [[], [0], [0], [0], [], [0], [0], [0], [], [], [], []]
     refine de fol ?_
     apply z [4]
     exact sj (hj4 _) (eR [(0, 0), (1, 1)])
   apply z [9, 4]
   exact sj (hj4 _) (eR [(0, 0), (1, 1)])
 intro s5
 apply z [6, 30]
 refine s1 (bld (l := [i64 (1 : Int), i64 0, i64 0, i64 s5]) pl_25.h ti_25.h zr_api_Fault ⟨_, _, _, (kI (x := 1) rfl), rfl, rfl, rfl, (szk (k := 1) rfl rfl), ⟨_, _, _, rfl, rfl, rfl, rfl, (szk (k := 1) rfl rfl), rfl⟩⟩ rfl) ?_
 refine s1 (mkIf Tryd.underlying25 rfl rfl) ?_
 exact opPan rfl (fun _ _ _ _ h _ _ _ => h)
theorem c___parse_reader__name {x0_words} {x0_at_} {x0_end_} {x0_deep} {x0_names} : ∀ r, m___parse_reader__name x0_words x0_at_ x0_end_ x0_deep x0_names = some r → FnR Tryd.prog 32 [.own 0] [(0, .bx 70 (.agg [sli 3 (List.map L_lex_Word x0_words), i64 x0_at_, i64 x0_end_, i64 x0_deep, .own 1])), (1, .sl 9 1 (List.map str x0_names))] 25 L_api_Fault (fun r => str r.1) (fun r => [(0, .bx 70 (.agg [sli 3 (List.map L_lex_Word r.2.1), i64 r.2.2.1, i64 r.2.2.2.1, i64 r.2.2.2.2, .own 1])), (1, .sl 9 1 (List.map str x0_names))]) r := by
 unfold m___parse_reader__name
 refine fsP Tryd.func32 fun w S0 γ hγ => ?_
 apply z [2, 31, 1, 2, 30]
 refine b fun r1 h2 => ?_
 refine o (cG (c___parse_reader__next _ h2) [0, 1] [] [0, 1]) ?_
 refine o (al' 100) ?_
 apply z [34, 1]
 refine sjq (fun s14 => [(0, .own 0), (2, str ([] : List UInt8)), (3, .own 100)]) (fun s14 => [(0, .bx 70 (.agg [sli 3 (List.map L_lex_Word x0_words), i64 x0_at_, i64 x0_end_, i64 x0_deep, .own 1])), (1, .sl 9 1 (List.map str x0_names)), (100, .bx 49 (L_lex_Word r1))]) ?_ ?_
 · intro j12 hj13
   refine sjq (fun s19 => [(0, .own 0), (2, str ([] : List UInt8)), (3, .own 100), (13, bl s19)]) (fun s19 => [(0, .bx 70 (.agg [sli 3 (List.map L_lex_Word x0_words), i64 x0_at_, i64 x0_end_, i64 x0_deep, .own 1])), (1, .sl 9 1 (List.map str x0_names)), (100, .bx 49 (L_lex_Word r1))]) ?_ ?_
   · intro j17 hj18
     apply z [6, 33, 36, 56, 30]
     refine sifd 9 rfl ?_ ?_
     · apply z [23, 23, 23, 38, 1]
       exact sj (hj18 _) (eR [(0, 0), (1, 1), (100, 100)])
     apply z [22, 22]
     refine b fun r20 h21 => ?_
     refine og' (c0 (c_parse_reserved _ h21)) ?_
     apply z [37, 1]
     exact sj (hj18 _) (eR [(0, 0), (1, 1), (100, 100)])
   intro s19
   refine c ?_ ?_
   · apply z [6, 30]
     refine bP [0, 1] c___parse_reader__fail fun r22 h23 => ?_
     refine o (cG (h23) [0, 1] [] [0, 1]) ?_
     apply z [1]
     exact sj (hj13 _) (eR [(0, 0), (1, 1), (100, 100)])
   apply z [9, 4]
   exact sj (hj13 _) (eR [(0, 0), (1, 1), (100, 100)])
 intro s14
 apply z [2, 30, 48, 33, 36, 40, 48, 33]
 refine o (stP (.agg [sli 3 (List.map L_lex_Word x0_words), i64 (wrap64 (x0_at_ + (1 : Int))), i64 x0_end_, i64 x0_deep, .own 1]) [1]) ?_
 apply z [1, 2, 33, 36, 31, 1, 8]
 exact rtR (rt [(0, 0), (1, 1)])
theorem c___parse_reader__need {x0_words} {x0_at_} {x0_end_} {x0_deep} {x0_names} {x1} : ∀ r, m___parse_reader__need x0_words x0_at_ x0_end_ x0_deep x0_names x1 = some r → FnR Tryd.prog 33 [.own 0, str x1] [(0, .bx 70 (.agg [sli 3 (List.map L_lex_Word x0_words), i64 x0_at_, i64 x0_end_, i64 x0_deep, .own 1])), (1, .sl 9 1 (List.map str x0_names))] 25 L_api_Fault (fun r => .tup []) (fun r => [(0, .bx 70 (.agg [sli 3 (List.map L_lex_Word r.1), i64 r.2.1, i64 r.2.2.1, i64 r.2.2.2, .own 1])), (1, .sl 9 1 (List.map str x0_names))]) r := by
 unfold m___parse_reader__need
 refine fsP Tryd.func33 fun w S0 γ hγ => ?_
 apply z [2, 30, 30]
 refine b fun r1 h2 => ?_
 refine o (cG (c___parse_reader__has _ h2) [0, 1] [] [1]) ?_
 apply z [44, 1]
 refine c ?_ ?_
 · apply z [6, 30]
   refine bP [0, 1] c___parse_reader__fail fun r3 h4 => ?_
   refine o (cG (h4) [0, 1] [] [0, 1]) ?_
   apply z [3]
   exact rtR (rt [(0, 0), (1, 1)])
 apply z [9]
 exact rtR (rt [(0, 0), (1, 1)])
theorem c_digits_wrong {n : Nat} {x0} : ∀ r, m_digits_wrong n x0 = some r → FnOk Tryd.prog 66 [str x0] [] (i64 r) [] := by
 unfold m_digits_wrong
 refine fs Tryd.func66 fun w S0 γ hγ => ?_
 apply z [2, 31, 1, 5, 2, 30, 54, 30, 1, 7]
 refine sloopE 0 Lp.go (fun s27 => [(0, str x0), (2, i64 (0 : Int)), (5, i64 (x0.length : Int)), (6, i64 s27)]) (fun s27 => []) (fun t25 => [(0, str x0), (2, i64 (0 : Int))]) (fun t25 => []) eI ?_ ?_
 · intro hj26 s27
   apply z [2, 46, 1, 5]
   refine c ?_ ?_
   · apply z [9, 4, 5, 7, 2, 30, 31, 1]
     refine sjq (fun s34 => [(0, str x0), (2, i64 (0 : Int)), (3, i64 s27), (5, i64 (x0.length : Int)), (6, i64 s27), (22, bl s34)]) (fun s34 => []) ?_ ?_
     · intro j32 hj33
       apply z [6, 30, 30]
       refine b fun y35 h36 => ?_
       apply z [90, 68, 30]
       refine sifd 13 rfl ?_ ?_
       · apply z [23, 23, 23, 23, 38, 30, 23, 23, 38, 1]
         exact sj (hj33 _) eI
       apply z [22, 22]
       refine b fun y37 h38 => ?_
       apply z [22, 22, 37, 30]
       refine sifd 19 rfl ?_ ?_
       · apply z [23, 23, 38, 1]
         exact sj (hj33 _) eI
       apply z [22, 22, 37, 1]
       exact sj (hj33 _) eI
     intro s34
     refine c ?_ ?_
     · apply z [2, 30, 31, 1, 8, 12, 10]
       refine sU ?_
       apply z [12, 10]
       exact rt []
     apply z [9, 11, 4, 6, 40, 30, 3]
     exact sgo eI
   apply z [14, 15]
   exact su (sj (hj26 _) eI)
 intro t25
 refine slpk ?_
 apply z [13, 4, 5, 2, 30, 72, 1]
 refine c ?_ ?_
 · apply z [2, 31, 1, 8, 10]
   exact rt []
 apply z [9, 4, 2, 31, 1, 8]
 exact rt []
theorem c_limb_Mul {x0} {x1} {x2} {x3} : ∀ r, m_limb_Mul x0 x1 x2 x3 = some r → FnOk Tryd.prog 77 [u32 x0, u32 x1, u32 x2, u32 x3] [] (.tup [u32 r.1, u32 r.2]) [] := by
 unfold m_limb_Mul
 refine fs Tryd.func77 fun w S0 γ hγ => ?_
 apply z [2, 31, 31, 1, 2, 30, 59, 30, 59, 63, 30, 59, 61, 30, 59, 61]
 refine sbn (F := u64) 21 rfl fun z1 => ?_
 apply z [31, 1, 2, 30]
 refine s1 (shrU uk64 rfl rfl rfl (k64 (x := 32) rfl)) ?_
 apply z [60, 30, 60, 31, 31, 1, 8]
 exact rt []
theorem c_prod_row {x0} {x1} {x2} {x3} {x4} : ∀ r, m_prod_row x0 x1 x2 x3 x4 = some r → FnOk Tryd.prog 71 [.own 0, i64 x1, sli 1 (List.map u32 x2), u32 x3, u32 x4] [(0, .sl 85 1 (List.map u32 x0))] (.tup []) [(0, .sl 85 1 (List.map u32 r))] := by
 unfold m_prod_row
 refine fs Tryd.func71 fun w S0 γ hγ => ?_
 apply z [5, 2, 30, 39, 30, 1, 7]
 refine srN (fun s22 => [(0, .own 0), (1, i64 x1), (2, sli 1 (List.map u32 x2)), (3, u32 x3), (4, u32 s22.2), (12, sli 1 (List.map u32 x2))]) (fun s22 => [(0, .sl 85 1 (List.map u32 s22.1))]) (rE (eR [(0, 0)])) ?_ ?_
 · intro i23 x24 s22 hx25
   apply z [7, 2, 30, 43, 42, 31, 31, 1, 6, 30, 30, 30, 40, 30, 30, 30, 30, 30, 40]
   refine b fun y26 h27 => ?_
   apply z [50, 51, 30]
   refine cb (ca c_limb_Mul) fun r28 => ?_
   apply z [30, 35, 35, 31]
   refine b fun y30 h31 => ?_
   apply z [50, 53, 3, 11]
   exact sgo (eR [(0, 0)])
 intro s32
 apply z [13, 4, 6, 30, 30, 30, 39, 40, 30]
 refine b fun y33 h34 => ?_
 apply z [50, 53, 3]
 exact rt [(0, 0)]
theorem c_nat_trim {n : Nat} {x0} : ∀ r, m_nat_trim n x0 = some r → FnOk Tryd.prog 40 [sli 1 (List.map u32 x0)] [] (sli 1 (List.map u32 r)) [] := by
 unfold m_nat_trim
 refine fs Tryd.func40 fun w S0 γ hγ => ?_
 apply z [2]
 refine s1 (asg rfl (kLm (k := 1) u32)) ?_
 apply z [1, 2, 30, 39, 31, 1, 5, 7]
 refine sloopE 0 (fun t => t) (fun s19 => [(0, sli 1 (List.map u32 x0)), (2, sli 1 (List.map u32 ([] : List Nat))), (3, i64 s19)]) (fun s19 => []) (fun t17 => [(0, sli 1 (List.map u32 x0)), (2, sli 1 (List.map u32 ([] : List Nat))), (3, i64 t17)]) (fun t17 => []) eI ?_ ?_
 · intro hj18 s19
   apply z [5]
   refine sjq (fun s24 => [(0, sli 1 (List.map u32 x0)), (2, sli 1 (List.map u32 ([] : List Nat))), (3, i64 s19), (15, bl s24)]) (fun s24 => []) ?_ ?_
   · intro j22 hj23
     apply z [6, 30, 47, 30]
     refine sifd 8 rfl ?_ ?_
     · apply z [22, 22, 22]
       refine b fun y25 h26 => ?_
       apply z [22, 22, 22, 38, 1]
       exact sj (hj23 _) eI
     apply z [23, 23, 23, 23, 23, 23, 37, 1]
     exact sj (hj23 _) eI
   intro s24
   refine c ?_ ?_
   · apply z [9, 4, 7, 6, 30, 49, 31, 3, 11]
     exact sgo eI
   apply z [14, 15]
   exact su (sj (hj18 _) eI)
 intro t17
 apply z [13, 4, 2, 30, 30]
 refine b fun y27 h28 => ?_
 refine s1 (slR (f := u32) h28 Tryd.underlying42 ti_85.h rfl rfl bnd0 (bnd rfl)) ?_
 apply z [31, 1, 8]
 exact rt []
end Go.Proofs.YtpomhkkhdojpiaaDoor
