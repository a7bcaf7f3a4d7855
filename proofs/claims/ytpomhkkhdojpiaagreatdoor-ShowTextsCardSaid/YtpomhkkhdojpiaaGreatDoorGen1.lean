import Derived.Test.YtpomhkkhdojpiaaGreatDoorMod
import Derived.Test.YtpomhkkhdojpiaaGreatDoorSC
import Derived.Test.YtpomhkkhdojpiaaGreatDoorSP
import Derived.Test.YtpomhkkhdojpiaaGreatDoorBld
import Derived.Test.YtpomhkkhdojpiaaGreatDoorLib
import Derived.Test.YtpomhkkhdojpiaaGreatDoorChecked
set_option maxRecDepth 100000
set_option maxHeartbeats 4000000
namespace Go.Proofs.YtpomhkkhdojpiaaGreatDoor
open Go Go.RowKit
theorem ownK : ownKnob Tryz.prog.godebug = none := by kernel_rfl
theorem laidOutK : laidOutB Tryz.prog = true := by kernel_rfl
abbrev L_S_u32 (xs : List Nat) : Ly := sli 1 (xs.map u32)
abbrev L_retrospectref17_Node (x : M_retrospectref17_Node) : Ly := .agg [i64 x.Op, i64 x.I, L_S_u32 x.N]
theorem if_L_retrospectref17_Node {a0_ a1_ a2_} : IF (.agg [i64 a0_, i64 a1_, sli 1 a2_]) := if_agg (ifs_cons if_i64 (ifs_cons if_i64 (ifs_cons if_sli (ifs_nil))))
abbrev L_S_retrospectref17_Node (xs : List M_retrospectref17_Node) : Ly := sli 3 (xs.map L_retrospectref17_Node)
abbrev L_retrospectref17_Let (x : M_retrospectref17_Let) : Ly := .agg [str x.Name, L_S_retrospectref17_Node x.Code]
theorem if_L_retrospectref17_Let {a0_ a1_} : IF (.agg [str a0_, sli 3 a1_]) := if_agg (ifs_cons if_str (ifs_cons if_sli (ifs_nil)))
abbrev L_S_retrospectref17_Let (xs : List M_retrospectref17_Let) : Ly := sli 2 (xs.map L_retrospectref17_Let)
abbrev L_S_S_retrospectref17_Node (xs : List (List M_retrospectref17_Node)) : Ly := sli 1 (xs.map L_S_retrospectref17_Node)
abbrev L_retrospectref17_Field (x : M_retrospectref17_Field) : Ly := .agg [L_S_retrospectref17_Let x.Lets, L_S_S_retrospectref17_Node x.Outs]
theorem if_L_retrospectref17_Field {a0_ a1_} : IF (.agg [sli 2 a0_, sli 1 a1_]) := if_agg (ifs_cons if_sli (ifs_cons if_sli (ifs_nil)))
abbrev L_S_string (xs : List (List UInt8)) : Ly := sli 1 (xs.map str)
abbrev L_tree_Node (x : M_tree_Node) : Ly := .agg [i64 x.Op, i64 x.I, L_S_u32 x.N]
theorem if_L_tree_Node {a0_ a1_ a2_} : IF (.agg [i64 a0_, i64 a1_, sli 1 a2_]) := if_agg (ifs_cons if_i64 (ifs_cons if_i64 (ifs_cons if_sli (ifs_nil))))
abbrev L_S_tree_Node (xs : List M_tree_Node) : Ly := sli 3 (xs.map L_tree_Node)
abbrev L_api_Fault (x : M_api_Fault) : Ly := .agg [i64 x.Kind, i64 x.Step, i64 x.Stage, i64 x.At]
theorem if_L_api_Fault {a0_ a1_ a2_ a3_} : IF (.agg [i64 a0_, i64 a1_, i64 a2_, i64 a3_]) := if_agg (ifs_cons if_i64 (ifs_cons if_i64 (ifs_cons if_i64 (ifs_cons if_i64 (ifs_nil)))))
abbrev L_lex_Word (x : M_lex_Word) : Ly := .agg [i64 x.Kind, str x.Text, i64 x.At]
theorem if_L_lex_Word {a0_ a1_ a2_} : IF (.agg [i64 a0_, str a1_, i64 a2_]) := if_agg (ifs_cons if_i64 (ifs_cons if_str (ifs_cons if_i64 (ifs_nil))))
abbrev L_S_lex_Word (xs : List M_lex_Word) : Ly := sli 3 (xs.map L_lex_Word)
abbrev L_parse_reader (x : M_parse_reader) : Ly := .agg [L_S_lex_Word x.words, i64 x.at_, i64 x.end_, i64 x.deep, L_S_string x.names]
theorem if_L_parse_reader {a0_ a1_ a2_ a3_ a4_} : IF (.agg [sli 3 a0_, i64 a1_, i64 a2_, i64 a3_, sli 1 a4_]) := if_agg (ifs_cons if_sli (ifs_cons if_i64 (ifs_cons if_i64 (ifs_cons if_i64 (ifs_cons if_sli (ifs_nil))))))
abbrev L_A9_u8 (x : M_A9_u8) : Ly := .agg [u8 x.a0, u8 x.a1, u8 x.a2, u8 x.a3, u8 x.a4, u8 x.a5, u8 x.a6, u8 x.a7, u8 x.a8]
theorem if_L_A9_u8 {a0_ a1_ a2_ a3_ a4_ a5_ a6_ a7_ a8_} : IF (.agg [u8 a0_, u8 a1_, u8 a2_, u8 a3_, u8 a4_, u8 a5_, u8 a6_, u8 a7_, u8 a8_]) := if_agg (ifs_cons if_u8 (ifs_cons if_u8 (ifs_cons if_u8 (ifs_cons if_u8 (ifs_cons if_u8 (ifs_cons if_u8 (ifs_cons if_u8 (ifs_cons if_u8 (ifs_cons if_u8 (ifs_nil))))))))))
abbrev L_show_piece (x : M_show_piece) : Ly := .agg [str x.text, i64 x.rank]
theorem if_L_show_piece {a0_ a1_} : IF (.agg [str a0_, i64 a1_]) := if_agg (ifs_cons if_str (ifs_cons if_i64 (ifs_nil)))
abbrev L_S_show_piece (xs : List M_show_piece) : Ly := sli 2 (xs.map L_show_piece)
abbrev L_tree_Let (x : M_tree_Let) : Ly := .agg [str x.Name, L_S_tree_Node x.Code]
theorem if_L_tree_Let {a0_ a1_} : IF (.agg [str a0_, sli 3 a1_]) := if_agg (ifs_cons if_str (ifs_cons if_sli (ifs_nil)))
abbrev L_S_tree_Let (xs : List M_tree_Let) : Ly := sli 2 (xs.map L_tree_Let)
abbrev L_S_S_tree_Node (xs : List (List M_tree_Node)) : Ly := sli 1 (xs.map L_S_tree_Node)
abbrev L_tree_Field (x : M_tree_Field) : Ly := .agg [L_S_tree_Let x.Lets, L_S_S_tree_Node x.Outs]
theorem if_L_tree_Field {a0_ a1_} : IF (.agg [sli 2 a0_, sli 1 a1_]) := if_agg (ifs_cons if_sli (ifs_cons if_sli (ifs_nil)))
abbrev L_S_i64 (xs : List Int) : Ly := sli 1 (xs.map i64)
abbrev L_tree_plain (x : M_tree_plain) : Ly := .agg [i64 x.op, i64 x.i]
theorem if_L_tree_plain {a0_ a1_} : IF (.agg [i64 a0_, i64 a1_]) := if_agg (ifs_cons if_i64 (ifs_cons if_i64 (ifs_nil)))
instance ti_34 : CTy Tryz.prog 34 2 48 (.agg #[.slice none 0 0, .slice none 0 0]) := ⟨tyI (by kernel_rfl)⟩
instance sh_34 : CSh Tryz.prog 34 true 2 := ⟨shp Tryz.underlying34 rfl ti_34.h⟩
instance ti_31 : CTy Tryz.prog 31 1 24 (.slice none 0 0) := ⟨tyI (by kernel_rfl)⟩
instance fd_34_0 : CFd Tryz.prog 34 0 0 := ⟨fdA Tryz.underlying34 rfl rfl ti_31.h rfl⟩
instance : CUn Tryz.prog 31 (.slice 82) := ⟨Tryz.underlying31⟩
instance sh_31 : CSh Tryz.prog 31 false 1 := ⟨shp Tryz.underlying31 rfl ti_31.h⟩
instance ti_32 : CTy Tryz.prog 32 1 24 (.slice none 0 0) := ⟨tyI (by kernel_rfl)⟩
instance fd_34_1 : CFd Tryz.prog 34 1 1 := ⟨fdA Tryz.underlying34 rfl rfl ti_32.h rfl⟩
instance : CUn Tryz.prog 32 (.slice 45) := ⟨Tryz.underlying32⟩
instance sh_32 : CSh Tryz.prog 32 false 1 := ⟨shp Tryz.underlying32 rfl ti_32.h⟩
instance ti_82 : CTy Tryz.prog 82 2 40 (.agg #[.string ⟨#[]⟩, .slice none 0 0]) := ⟨tyI (by kernel_rfl)⟩
instance ti_9 : CTy Tryz.prog 9 1 16 (.string ⟨#[]⟩) := ⟨tyI (by kernel_rfl)⟩
instance fd_82_0 : CFd Tryz.prog 82 0 0 := ⟨fdA Tryz.underlying82 rfl rfl ti_9.h rfl⟩
instance : CUn Tryz.prog 9 (.string) := ⟨Tryz.underlying9⟩
instance sh_9 : CSh Tryz.prog 9 false 1 := ⟨shp Tryz.underlying9 rfl ti_9.h⟩
instance ti_45 : CTy Tryz.prog 45 1 24 (.slice none 0 0) := ⟨tyI (by kernel_rfl)⟩
instance fd_82_1 : CFd Tryz.prog 82 1 1 := ⟨fdA Tryz.underlying82 rfl rfl ti_45.h rfl⟩
instance : CUn Tryz.prog 45 (.slice 88) := ⟨Tryz.underlying45⟩
instance sh_45 : CSh Tryz.prog 45 false 1 := ⟨shp Tryz.underlying45 rfl ti_45.h⟩
instance ti_88 : CTy Tryz.prog 88 3 40 (.agg #[.int .i64 0, .int .i64 0, .slice none 0 0]) := ⟨tyI (by kernel_rfl)⟩
instance ti_67 : CTy Tryz.prog 67 1 24 (.slice none 0 0) := ⟨tyI (by kernel_rfl)⟩
instance fd_88_2 : CFd Tryz.prog 88 2 2 := ⟨fdA Tryz.underlying88 rfl rfl ti_67.h rfl⟩
instance : CUn Tryz.prog 67 (.slice 127) := ⟨Tryz.underlying67⟩
instance sh_67 : CSh Tryz.prog 67 false 1 := ⟨shp Tryz.underlying67 rfl ti_67.h⟩
instance ti_42 : CTy Tryz.prog 42 1 24 (.slice none 0 0) := ⟨tyI (by kernel_rfl)⟩
instance : CZy Tryz.prog 42 (sli 3 (List.map L_tree_Node [])) := ⟨_, _, _, ti_42.h, (zr_sli (k := 3))⟩
instance ti_28 : CTy Tryz.prog 28 4 32 (.agg #[.int .i64 0, .int .i64 0, .int .i64 0, .int .i64 0]) := ⟨tyI (by kernel_rfl)⟩
theorem zr_api_Fault : Zr (L_api_Fault (⟨0, 0, 0, 0⟩ : M_api_Fault)) [.int .i64 0, .int .i64 0, .int .i64 0, .int .i64 0] := zr_agg (zrs_cons (c1 := [.int .i64 0]) zr_i64 (zrs_cons (c1 := [.int .i64 0]) zr_i64 (zrs_cons (c1 := [.int .i64 0]) zr_i64 (zrs_cons (c1 := [.int .i64 0]) zr_i64 (zrs_nil)))))
instance : CZy Tryz.prog 28 (L_api_Fault (⟨0, 0, 0, 0⟩ : M_api_Fault)) := ⟨_, _, _, ti_28.h, zr_api_Fault⟩
instance pl_28 : CPl Tryz.prog 28 [(0, 1), (1, 1), (2, 1), (3, 1)] := ⟨⟨_, Tryz.underlying28, by kernel_rfl⟩⟩
instance sh_28 : CSh Tryz.prog 28 true 4 := ⟨shp Tryz.underlying28 rfl ti_28.h⟩
instance : CUn Tryz.prog 21 (.int .i32) := ⟨Tryz.underlying21⟩
instance : CUn Tryz.prog 5 (.int .u8) := ⟨Tryz.underlying5⟩
instance ti_156 : CTy Tryz.prog 156 3 32 (.agg #[.int .i64 0, .string ⟨#[]⟩, .int .i64 0]) := ⟨tyI (by kernel_rfl)⟩
instance pl_156 : CPl Tryz.prog 156 [(0, 1), (1, 1), (2, 1)] := ⟨⟨_, Tryz.underlying156, by kernel_rfl⟩⟩
theorem zr_lex_Word : Zr (L_lex_Word (⟨0, [], 0⟩ : M_lex_Word)) [.int .i64 0, .string ⟨#[]⟩, .int .i64 0] := zr_agg (zrs_cons (c1 := [.int .i64 0]) zr_i64 (zrs_cons (c1 := [.string ⟨#[]⟩]) zr_str (zrs_cons (c1 := [.int .i64 0]) zr_i64 (zrs_nil))))
instance : CUn Tryz.prog 114 (.slice 156) := ⟨Tryz.underlying114⟩
instance : CUn Tryz.prog 41 (.slice 9) := ⟨Tryz.underlying41⟩
instance ti_118 : CTy Tryz.prog 118 5 72 (.agg #[.slice none 0 0, .int .i64 0, .int .i64 0, .int .i64 0, .slice none 0 0]) := ⟨tyI (by kernel_rfl)⟩
instance pl_118 : CPl Tryz.prog 118 [(0, 1), (1, 1), (2, 1), (3, 1), (4, 1)] := ⟨⟨_, Tryz.underlying118, by kernel_rfl⟩⟩
theorem zr_parse_reader : Zr (L_parse_reader (⟨[], 0, 0, 0, []⟩ : M_parse_reader)) [.slice none 0 0, .int .i64 0, .int .i64 0, .int .i64 0, .slice none 0 0] := zr_agg (zrs_cons (c1 := [.slice none 0 0]) (zr_sli (k := 3)) (zrs_cons (c1 := [.int .i64 0]) zr_i64 (zrs_cons (c1 := [.int .i64 0]) zr_i64 (zrs_cons (c1 := [.int .i64 0]) zr_i64 (zrs_cons (c1 := [.slice none 0 0]) (zr_sli (k := 1)) (zrs_nil))))))
theorem fol : Tryz.prog.follows .mixedOrders = true := by kernel_rfl
instance ti_3 : CTy Tryz.prog 3 1 8 (.int .i64 0) := ⟨tyI (by kernel_rfl)⟩
instance : CUn Tryz.prog 3 (.int .i64) := ⟨Tryz.underlying3⟩
instance sh_3 : CSh Tryz.prog 3 false 1 := ⟨shp Tryz.underlying3 rfl ti_3.h⟩
theorem eq_28_2 : EqF Tryz.prog 2 28 (fun x : M_api_Fault => .agg [i64 x.Kind, i64 x.Step, i64 x.Stage, i64 x.At]) eqb_api_Fault :=
  eqf_struct Tryz.underlying28 (by kernel_rfl) (eqfs_cons rfl rfl sh_3.h (fun _ => rfl) (fun _ => rfl) (eqf_comp (fun x : M_api_Fault => x.Kind) (eqf_i64 (n := 0) Tryz.underlying3)) (eqfs_cons rfl rfl sh_3.h (fun _ => rfl) (fun _ => rfl) (eqf_comp (fun x : M_api_Fault => x.Step) (eqf_i64 (n := 0) Tryz.underlying3)) (eqfs_cons rfl rfl sh_3.h (fun _ => rfl) (fun _ => rfl) (eqf_comp (fun x : M_api_Fault => x.Stage) (eqf_i64 (n := 0) Tryz.underlying3)) (eqfs_cons rfl rfl sh_3.h (fun _ => rfl) (fun _ => rfl) (eqf_comp (fun x : M_api_Fault => x.At) (eqf_i64 (n := 0) Tryz.underlying3)) (eqfs_nil)))))
theorem eg_28 : Tryz.prog.eqGuardType Tryz.prog.depth 28 = false := by kernel_rfl
instance : CUn Tryz.prog 42 (.slice 69) := ⟨Tryz.underlying42⟩
instance sh_42 : CSh Tryz.prog 42 false 1 := ⟨shp Tryz.underlying42 rfl ti_42.h⟩
instance : CZy Tryz.prog 156 (L_lex_Word (⟨0, [], 0⟩ : M_lex_Word)) := ⟨_, _, _, ti_156.h, zr_lex_Word⟩
instance fd_118_1 : CFd Tryz.prog 118 1 1 := ⟨fdA Tryz.underlying118 rfl rfl ti_3.h rfl⟩
instance ti_114 : CTy Tryz.prog 114 1 24 (.slice none 0 0) := ⟨tyI (by kernel_rfl)⟩
instance fd_118_0 : CFd Tryz.prog 118 0 0 := ⟨fdA Tryz.underlying118 rfl rfl ti_114.h rfl⟩
instance sh_114 : CSh Tryz.prog 114 false 1 := ⟨shp Tryz.underlying114 rfl ti_114.h⟩
instance sh_156 : CSh Tryz.prog 156 true 3 := ⟨shp Tryz.underlying156 rfl ti_156.h⟩
theorem ff_156_1 : ∃ fs F, Tryz.prog.underlying 156 = some (.struct fs) ∧ fs[1]? = some F ∧ F.offset = 1 ∧ Shp Tryz.prog F.type false 1 := ⟨_, _, Tryz.underlying156, rfl, rfl, sh_9.h⟩
instance fd_156_0 : CFd Tryz.prog 156 0 0 := ⟨fdA Tryz.underlying156 rfl rfl ti_3.h rfl⟩
instance fd_156_1 : CFd Tryz.prog 156 1 1 := ⟨fdA Tryz.underlying156 rfl rfl ti_9.h rfl⟩
instance : CUn Tryz.prog 127 (.int .u32) := ⟨Tryz.underlying127⟩
instance ti_127 : CTy Tryz.prog 127 1 4 (.int .u32 0) := ⟨tyI (by kernel_rfl)⟩
instance sh_127 : CSh Tryz.prog 127 false 1 := ⟨shp Tryz.underlying127 rfl ti_127.h⟩
instance : CUn Tryz.prog 138 (.int .u64) := ⟨Tryz.underlying138⟩
instance ti_69 : CTy Tryz.prog 69 3 40 (.agg #[.int .i64 0, .int .i64 0, .slice none 0 0]) := ⟨tyI (by kernel_rfl)⟩
instance pl_69 : CPl Tryz.prog 69 [(0, 1), (1, 1), (2, 1)] := ⟨⟨_, Tryz.underlying69, by kernel_rfl⟩⟩
theorem zr_tree_Node : Zr (L_tree_Node (⟨0, 0, []⟩ : M_tree_Node)) [.int .i64 0, .int .i64 0, .slice none 0 0] := zr_agg (zrs_cons (c1 := [.int .i64 0]) zr_i64 (zrs_cons (c1 := [.int .i64 0]) zr_i64 (zrs_cons (c1 := [.slice none 0 0]) (zr_sli (k := 1)) (zrs_nil))))
instance fd_118_2 : CFd Tryz.prog 118 2 2 := ⟨fdA Tryz.underlying118 rfl rfl ti_3.h rfl⟩
instance fd_156_2 : CFd Tryz.prog 156 2 2 := ⟨fdA Tryz.underlying156 rfl rfl ti_3.h rfl⟩
instance fd_118_3 : CFd Tryz.prog 118 3 3 := ⟨fdA Tryz.underlying118 rfl rfl ti_3.h rfl⟩
instance ti_41 : CTy Tryz.prog 41 1 24 (.slice none 0 0) := ⟨tyI (by kernel_rfl)⟩
instance fd_118_4 : CFd Tryz.prog 118 4 4 := ⟨fdA Tryz.underlying118 rfl rfl ti_41.h rfl⟩
instance sh_41 : CSh Tryz.prog 41 false 1 := ⟨shp Tryz.underlying41 rfl ti_41.h⟩
instance sh_69 : CSh Tryz.prog 69 true 3 := ⟨shp Tryz.underlying69 rfl ti_69.h⟩
instance : CZy Tryz.prog 69 (L_tree_Node (⟨0, 0, []⟩ : M_tree_Node)) := ⟨_, _, _, ti_69.h, zr_tree_Node⟩
instance fd_69_0 : CFd Tryz.prog 69 0 0 := ⟨fdA Tryz.underlying69 rfl rfl ti_3.h rfl⟩
instance fd_69_2 : CFd Tryz.prog 69 2 2 := ⟨fdA Tryz.underlying69 rfl rfl ti_67.h rfl⟩
instance fd_69_1 : CFd Tryz.prog 69 1 1 := ⟨fdA Tryz.underlying69 rfl rfl ti_3.h rfl⟩
instance ti_191 : CTy Tryz.prog 191 9 9 (.agg #[.int .u8 0, .int .u8 0, .int .u8 0, .int .u8 0, .int .u8 0, .int .u8 0, .int .u8 0, .int .u8 0, .int .u8 0]) := ⟨tyI (by kernel_rfl)⟩
theorem zr_A9_u8 : Zr (L_A9_u8 (⟨0, 0, 0, 0, 0, 0, 0, 0, 0⟩ : M_A9_u8)) [.int .u8 0, .int .u8 0, .int .u8 0, .int .u8 0, .int .u8 0, .int .u8 0, .int .u8 0, .int .u8 0, .int .u8 0] := zr_agg (zrs_cons (c1 := [.int .u8 0]) zr_u8 (zrs_cons (c1 := [.int .u8 0]) zr_u8 (zrs_cons (c1 := [.int .u8 0]) zr_u8 (zrs_cons (c1 := [.int .u8 0]) zr_u8 (zrs_cons (c1 := [.int .u8 0]) zr_u8 (zrs_cons (c1 := [.int .u8 0]) zr_u8 (zrs_cons (c1 := [.int .u8 0]) zr_u8 (zrs_cons (c1 := [.int .u8 0]) zr_u8 (zrs_cons (c1 := [.int .u8 0]) zr_u8 (zrs_nil))))))))))
instance : CZy Tryz.prog 191 (L_A9_u8 (⟨0, 0, 0, 0, 0, 0, 0, 0, 0⟩ : M_A9_u8)) := ⟨_, _, _, ti_191.h, zr_A9_u8⟩
instance ti_5 : CTy Tryz.prog 5 1 1 (.int .u8 0) := ⟨tyI (by kernel_rfl)⟩
instance : CUn Tryz.prog 191 (.array 9 5) := ⟨Tryz.underlying191⟩
instance sh_5 : CSh Tryz.prog 5 false 1 := ⟨shp Tryz.underlying5 rfl ti_5.h⟩
theorem ofl_ok_A9_u8 : ∀ l : List Nat, l.length = 9 → (.agg (l.map u8) : Ly) = L_A9_u8 (ofl_A9_u8 l)
  | [a0, a1, a2, a3, a4, a5, a6, a7, a8], _ => rfl
  | [], h => by simp at h
  | [_], h => by simp at h
  | [_, _], h => by simp at h
  | [_, _, _], h => by simp at h
  | [_, _, _, _], h => by simp at h
  | [_, _, _, _, _], h => by simp at h
  | [_, _, _, _, _, _], h => by simp at h
  | [_, _, _, _, _, _, _], h => by simp at h
  | [_, _, _, _, _, _, _, _], h => by simp at h
  | _ :: _ :: _ :: _ :: _ :: _ :: _ :: _ :: _ :: _ :: _, h => by simp at h
instance : CUn Tryz.prog 100 (.slice 5) := ⟨Tryz.underlying100⟩
instance ti_102 : CTy Tryz.prog 102 2 32 (.agg #[.pointer none, .slice none 0 0]) := ⟨tyI (by kernel_rfl)⟩
instance : CUn Tryz.prog 130 (.slice 133) := ⟨Tryz.underlying130⟩
instance ti_133 : CTy Tryz.prog 133 2 24 (.agg #[.string ⟨#[]⟩, .int .i64 0]) := ⟨tyI (by kernel_rfl)⟩
instance sh_133 : CSh Tryz.prog 133 true 2 := ⟨shp Tryz.underlying133 rfl ti_133.h⟩
instance fd_133_1 : CFd Tryz.prog 133 1 1 := ⟨fdA Tryz.underlying133 rfl rfl ti_3.h rfl⟩
instance fd_133_0 : CFd Tryz.prog 133 0 0 := ⟨fdA Tryz.underlying133 rfl rfl ti_9.h rfl⟩
instance pl_133 : CPl Tryz.prog 133 [(0, 1), (1, 1)] := ⟨⟨_, Tryz.underlying133, by kernel_rfl⟩⟩
theorem zr_show_piece : Zr (L_show_piece (⟨[], 0⟩ : M_show_piece)) [.string ⟨#[]⟩, .int .i64 0] := zr_agg (zrs_cons (c1 := [.string ⟨#[]⟩]) zr_str (zrs_cons (c1 := [.int .i64 0]) zr_i64 (zrs_nil)))
instance ti_26 : CTy Tryz.prog 26 2 48 (.agg #[.slice none 0 0, .slice none 0 0]) := ⟨tyI (by kernel_rfl)⟩
theorem zr_tree_Field : Zr (L_tree_Field (⟨[], []⟩ : M_tree_Field)) [.slice none 0 0, .slice none 0 0] := zr_agg (zrs_cons (c1 := [.slice none 0 0]) (zr_sli (k := 2)) (zrs_cons (c1 := [.slice none 0 0]) (zr_sli (k := 1)) (zrs_nil)))
instance : CZy Tryz.prog 26 (L_tree_Field (⟨[], []⟩ : M_tree_Field)) := ⟨_, _, _, ti_26.h, zr_tree_Field⟩
instance ti_23 : CTy Tryz.prog 23 1 24 (.slice none 0 0) := ⟨tyI (by kernel_rfl)⟩
instance fd_26_0 : CFd Tryz.prog 26 0 0 := ⟨fdA Tryz.underlying26 rfl rfl ti_23.h rfl⟩
instance : CUn Tryz.prog 23 (.slice 85) := ⟨Tryz.underlying23⟩
instance sh_23 : CSh Tryz.prog 23 false 1 := ⟨shp Tryz.underlying23 rfl ti_23.h⟩
instance fd_88_0 : CFd Tryz.prog 88 0 0 := ⟨fdA Tryz.underlying88 rfl rfl ti_3.h rfl⟩
instance fd_88_1 : CFd Tryz.prog 88 1 1 := ⟨fdA Tryz.underlying88 rfl rfl ti_3.h rfl⟩
instance ti_85 : CTy Tryz.prog 85 2 40 (.agg #[.string ⟨#[]⟩, .slice none 0 0]) := ⟨tyI (by kernel_rfl)⟩
instance pl_85 : CPl Tryz.prog 85 [(0, 1), (1, 1)] := ⟨⟨_, Tryz.underlying85, by kernel_rfl⟩⟩
theorem zr_tree_Let : Zr (L_tree_Let (⟨[], []⟩ : M_tree_Let)) [.string ⟨#[]⟩, .slice none 0 0] := zr_agg (zrs_cons (c1 := [.string ⟨#[]⟩]) zr_str (zrs_cons (c1 := [.slice none 0 0]) (zr_sli (k := 3)) (zrs_nil)))
instance ti_24 : CTy Tryz.prog 24 1 24 (.slice none 0 0) := ⟨tyI (by kernel_rfl)⟩
instance fd_26_1 : CFd Tryz.prog 26 1 1 := ⟨fdA Tryz.underlying26 rfl rfl ti_24.h rfl⟩
instance : CUn Tryz.prog 24 (.slice 42) := ⟨Tryz.underlying24⟩
instance sh_24 : CSh Tryz.prog 24 false 1 := ⟨shp Tryz.underlying24 rfl ti_24.h⟩
instance sh_26 : CSh Tryz.prog 26 true 2 := ⟨shp Tryz.underlying26 rfl ti_26.h⟩
instance sh_85 : CSh Tryz.prog 85 true 2 := ⟨shp Tryz.underlying85 rfl ti_85.h⟩
instance : CZy Tryz.prog 85 (L_tree_Let (⟨[], []⟩ : M_tree_Let)) := ⟨_, _, _, ti_85.h, zr_tree_Let⟩
instance fd_85_1 : CFd Tryz.prog 85 1 1 := ⟨fdA Tryz.underlying85 rfl rfl ti_42.h rfl⟩
instance fd_85_0 : CFd Tryz.prog 85 0 0 := ⟨fdA Tryz.underlying85 rfl rfl ti_9.h rfl⟩
instance : CUn Tryz.prog 172 (.slice 3) := ⟨Tryz.underlying172⟩
instance pl_26 : CPl Tryz.prog 26 [(0, 1), (1, 1)] := ⟨⟨_, Tryz.underlying26, by kernel_rfl⟩⟩
instance ti_153 : CTy Tryz.prog 153 2 16 (.agg #[.int .i64 0, .int .i64 0]) := ⟨tyI (by kernel_rfl)⟩
instance pl_153 : CPl Tryz.prog 153 [(0, 1), (1, 1)] := ⟨⟨_, Tryz.underlying153, by kernel_rfl⟩⟩
theorem zr_tree_plain : Zr (L_tree_plain (⟨0, 0⟩ : M_tree_plain)) [.int .i64 0, .int .i64 0] := zr_agg (zrs_cons (c1 := [.int .i64 0]) zr_i64 (zrs_cons (c1 := [.int .i64 0]) zr_i64 (zrs_nil)))
theorem eq_153_2 : EqF Tryz.prog 2 153 (fun x : M_tree_plain => .agg [i64 x.op, i64 x.i]) eqb_tree_plain :=
  eqf_struct Tryz.underlying153 (by kernel_rfl) (eqfs_cons rfl rfl sh_3.h (fun _ => rfl) (fun _ => rfl) (eqf_comp (fun x : M_tree_plain => x.op) (eqf_i64 (n := 0) Tryz.underlying3)) (eqfs_cons rfl rfl sh_3.h (fun _ => rfl) (fun _ => rfl) (eqf_comp (fun x : M_tree_plain => x.i) (eqf_i64 (n := 0) Tryz.underlying3)) (eqfs_nil)))
theorem eg_153 : Tryz.prog.eqGuardType Tryz.prog.depth 153 = false := by kernel_rfl
theorem c_retrospectref17_Long {n : Nat} {x0} {x1} {x2} : ∀ r, m_retrospectref17_Long n x0 x1 x2 = some r → FnOk Tryz.prog 19 [sli 3 (List.map L_retrospectref17_Node x0), i64 x1, i64 x2] [] (bl r) [] := by
 unfold m_retrospectref17_Long
 refine fs Tryz.func19 fun w S0 γ hγ => ?_
 apply z [2, 31, 1, 5, 2, 31, 1, 7]
 refine sloopE 0 Lp.go (fun s15 => [(0, sli 3 (List.map L_retrospectref17_Node x0)), (1, i64 x1), (2, i64 x2), (6, bl false), (7, i64 s15)]) (fun s15 => []) (fun t13 => [(0, sli 3 (List.map L_retrospectref17_Node x0)), (1, i64 x1), (6, bl false)]) (fun t13 => []) eI ?_ ?_
 · intro hj14 s15
   apply z [5]
   refine sjq (fun s18 => [(0, sli 3 (List.map L_retrospectref17_Node x0)), (1, i64 x1), (2, i64 x2), (6, bl false), (7, i64 s15), (16, bl s18)]) (fun s18 => []) ?_ ?_
   · intro j16 hj17
     apply z [6, 30, 30, 39, 46, 30]
     refine sifd 12 rfl ?_ ?_
     · apply z [22, 22, 22, 38, 1]
       exact sj (hj17 _) eI
     apply z [23, 23, 23, 37, 1]
     exact sj (hj17 _) eI
   intro s18
   refine c ?_ ?_
   · apply z [9, 4, 5, 7, 2, 30, 30]
     refine b fun y19 h20 => ?_
     apply z [43, 92, 42, 39, 30, 47, 1]
     refine c ?_ ?_
     · apply z [2, 31, 1, 8, 12, 10]
       refine sU ?_
       apply z [12, 10]
       exact rt []
     apply z [9, 11, 4, 6, 30, 40, 31, 3]
     exact sgo eI
   apply z [14, 15]
   exact su (sj (hj14 _) eI)
 intro t13
 refine slpk ?_
 apply z [13, 4, 2, 30, 39, 30, 47, 31, 1, 8]
 exact rt []
theorem c_retrospectref17_LongField {n : Nat} {x0} {x1} {x2} {x3} : ∀ r, m_retrospectref17_LongField n x0 x1 x2 x3 = some r → FnOk Tryz.prog 27 [L_retrospectref17_Field x0, i64 x1, i64 x2, i64 x3] [] (bl r) [] := by
 unfold m_retrospectref17_LongField
 refine fs Tryz.func27 fun w S0 γ hγ => ?_
 apply z [2]
 refine o (bx' 100) ?_
 apply z [31, 1, 5]
 refine sjq (fun s3 => [(2, i64 x2), (3, i64 x3), (4, .own 100), (8, bl false), (22, bl s3)]) (fun s3 => [(100, .bx 34 (L_retrospectref17_Field x0))]) ?_ ?_
 · intro j1 hj2
   apply z [6, 33, 36, 39, 30, 47, 30]
   refine sifd 16 rfl ?_ ?_
   · apply z [23, 23, 23, 23, 23, 38, 1]
     exact sj (hj2 _) (eR [(100, 100)])
   apply z [22, 22, 22, 22, 22, 37, 1]
   exact sj (hj2 _) (eR [(100, 100)])
 intro s3
 refine c ?_ ?_
 · apply z [2, 31, 1, 8, 10]
   exact rt []
 apply z [9, 4, 5, 2, 31, 1, 7]
 refine sloopE 0 Lp.go (fun s38 => [(2, i64 x2), (3, i64 x3), (4, .own 100), (8, bl false), (9, i64 s38)]) (fun s38 => [(100, .bx 34 (L_retrospectref17_Field x0))]) (fun t36 => [(2, i64 x2), (3, i64 x3), (4, .own 100), (8, bl false)]) (fun t36 => [(100, .bx 34 (L_retrospectref17_Field x0))]) (eR [(100, 100)]) ?_ ?_
 · intro hj37 s38
   apply z [5, 2, 30, 33, 36, 39, 46, 1]
   refine c ?_ ?_
   · apply z [9, 4, 5, 7]
     refine sjq (fun s47 => [(2, i64 x2), (3, i64 x3), (4, .own 100), (8, bl false), (9, i64 s38), (48, bl s47)]) (fun s47 => [(100, .bx 34 (L_retrospectref17_Field x0))]) ?_ ?_
     · intro j45 hj46
       apply z [6, 33, 36, 30]
       refine b fun y48 h49 => ?_
       apply z [43, 92, 42, 54, 47, 30]
       refine sifd 38 rfl ?_ ?_
       · apply z [23, 23, 23, 23, 23, 23, 23, 23, 23, 38, 1]
         exact sj (hj46 _) (eR [(100, 100)])
       apply z [22, 22, 22]
       refine b fun y50 h51 => ?_
       apply z [22, 22, 22, 22, 22]
       refine b fun r52 h53 => ?_
       refine og' (c0 (c_retrospectref17_Long _ h53)) ?_
       apply z [37, 1]
       exact sj (hj46 _) (eR [(100, 100)])
     intro s47
     refine c ?_ ?_
     · apply z [2, 31, 1, 8, 12, 10]
       refine sU ?_
       apply z [12, 10]
       exact rt []
     apply z [9, 11, 4, 6, 30, 40, 31, 3]
     exact sgo (eR [(100, 100)])
   apply z [14, 15]
   exact su (sj (hj37 _) (eR [(100, 100)]))
 intro t36
 refine slpk ?_
 apply z [13, 4, 5, 2, 31, 1, 7]
 refine sloopE 2 Lp.go (fun s66 => [(2, i64 x2), (3, i64 x3), (4, .own 100), (8, bl false), (10, i64 s66)]) (fun s66 => [(100, .bx 34 (L_retrospectref17_Field x0))]) (fun t64 => [(8, bl false)]) (fun t64 => []) (eR [(100, 100)]) ?_ ?_
 · intro hj65 s66
   apply z [5, 2, 30, 33, 36, 39, 46, 1]
   refine c ?_ ?_
   · apply z [9, 4, 5, 7, 2, 33, 36, 30]
     refine b fun y67 h68 => ?_
     apply z [43, 42, 30, 30]
     refine cb (ca c_retrospectref17_Long) fun r69 => ?_
     apply z [1]
     refine c ?_ ?_
     · apply z [2, 31, 1, 8, 12, 10]
       refine sU ?_
       apply z [12, 10]
       exact rt []
     apply z [9, 11, 4, 6, 30, 40, 31, 3]
     exact sgo (eR [(100, 100)])
   apply z [14, 15]
   exact su (sj (hj65 _) (eR []))
 intro t64
 refine slpk ?_
 apply z [13, 4, 2, 31, 1, 8]
 exact rt []
theorem c_lex_skip {n : Nat} {x0} {x1} : ∀ r, m_lex_skip n x0 x1 = some r → FnOk Tryz.prog 102 [str x0, i64 x1] [] (i64 r) [] := by
 unfold m_lex_skip
 refine fs Tryz.func102 fun w S0 γ hγ => ?_
 apply z [2, 31, 1, 5, 7]
 refine sloopE 0 Lp.go (fun s23 => [(0, str x0), (1, i64 s23), (4, i64 (0 : Int))]) (fun s23 => []) (fun t21 => [(1, i64 t21), (4, i64 (0 : Int))]) (fun t21 => []) eI ?_ ?_
 · intro hj22 s23
   apply z [5, 2, 30, 30, 54, 46, 1]
   refine c ?_ ?_
   · apply z [9, 4, 7, 2, 30, 30]
     refine b fun y24 h25 => ?_
     apply z [90, 1, 7]
     refine sjq (fun s28 => [(0, str x0), (1, i64 s23), (4, i64 (0 : Int)), (14, u8 y24), (16, bl s28)]) (fun s28 => []) ?_ ?_
     · intro j26 hj27
       apply z [2, 66, 31, 1]
       refine c ?_ ?_
       · apply z [9, 4]
         exact sj (hj27 _) eI
       apply z [2, 66, 31, 1]
       refine c ?_ ?_
       · apply z [9, 4]
         exact sj (hj27 _) eI
       apply z [2, 66, 31, 1]
       refine c ?_ ?_
       · apply z [9, 4]
         exact sj (hj27 _) eI
       apply z [6, 66, 31, 1]
       exact sj (hj27 _) eI
     intro s28
     refine c ?_ ?_
     · apply z [6, 30, 40, 31, 3, 11, 11]
       exact sgo eI
     apply z [2, 66, 31, 1]
     refine c ?_ ?_
     · apply z [2, 30, 30]
       refine b fun y29 h30 => ?_
       refine s1 (slS h30 Tryz.underlying9 rfl rfl (bnd rfl) bnd0) ?_
       refine cb (ca c_strings_Cut) fun r31 => ?_
       apply z [30, 35, 35, 35, 31, 31, 31, 1, 6, 30, 30, 54, 40, 31, 3, 11, 11]
       exact sgo eI
     apply z [2, 30, 31, 1, 8, 12, 12]
     refine sU ?_
     apply z [12, 10]
     exact rt []
   apply z [14, 15]
   exact su (sj (hj22 _) eI)
 intro t21
 refine slpk ?_
 apply z [13, 4, 2, 30, 31, 1, 8]
 exact rt []
theorem c_lex_digit {x0} : ∀ r, m_lex_digit x0 = some r → FnOk Tryz.prog 130 [u8 x0] [] (bl r) [] := by
 unfold m_lex_digit
 refine fs Tryz.func130 fun w S0 γ hγ => ?_
 apply z [2, 31, 1]
 refine sjq (fun s3 => [(2, bl s3)]) (fun s3 => []) ?_ ?_
 · intro j1 hj2
   apply z [6, 30, 71, 30]
   refine sifd 5 rfl ?_ ?_
   · apply z [22, 22, 38, 31, 1]
     exact sj (hj2 _) eI
   apply z [23, 23, 37, 31, 1]
   exact sj (hj2 _) eI
 intro s3
 apply z [8]
 exact rt []
theorem c_lex_letter {x0} : ∀ r, m_lex_letter x0 = some r → FnOk Tryz.prog 131 [u8 x0] [] (bl r) [] := by
 unfold m_lex_letter
 refine fs Tryz.func131 fun w S0 γ hγ => ?_
 apply z [2, 31, 1]
 refine sjq (fun s3 => [(2, bl s3)]) (fun s3 => []) ?_ ?_
 · intro j1 hj2
   apply z [6, 30, 71, 30]
   refine sifd 5 rfl ?_ ?_
   · apply z [22, 22, 38, 30]
     refine sifd 9 rfl ?_ ?_
     · apply z [23, 23, 23, 24, 24, 23, 38, 30, 23, 23, 38, 31, 1]
       exact sj (hj2 _) eI
     apply z [22, 22, 22]
     refine sifd 12 rfl ?_ ?_
     · apply z [22, 22, 22, 37, 30]
       refine sifd 17 rfl ?_ ?_
       · apply z [23, 23, 38, 31, 1]
         exact sj (hj2 _) eI
       apply z [22, 22, 37, 31, 1]
       exact sj (hj2 _) eI
     apply z [23, 23, 22, 37, 30, 22, 22, 37, 31, 1]
     exact sj (hj2 _) eI
   apply z [23, 23, 37, 30, 22, 22, 22]
   refine sifd 12 rfl ?_ ?_
   · apply z [22, 22, 22, 37, 30]
     refine sifd 17 rfl ?_ ?_
     · apply z [23, 23, 38, 31, 1]
       exact sj (hj2 _) eI
     apply z [22, 22, 37, 31, 1]
     exact sj (hj2 _) eI
   apply z [23, 23, 22, 37, 30, 22, 22, 37, 31, 1]
   exact sj (hj2 _) eI
 intro s3
 apply z [8]
 exact rt []
theorem c_lex_sign {n : Nat} {x0} : ∀ r, m_lex_sign n x0 = some r → FnOk Tryz.prog 132 [u8 x0] [] (bl r) [] := by
 unfold m_lex_sign
 refine fs Tryz.func132 fun w S0 γ hγ => ?_
 apply z [2, 31, 1, 5, 2]
 refine so (rngS (y := 100) Tryz.underlying9 (kS (s := [43, 45, 42, 47, 94, 40, 41, 91, 93, 44, 59, 61]) rfl) rfl rfl) ?_
 apply z [1, 7]
 refine sloopE 0 Lp.go (fun s9 => [(0, u8 x0), (2, bl false), (5, .own 100)]) (fun s9 => [(100, .ob (sIt ([43, 45, 42, 47, 94, 40, 41, 91, 93, 44, 59, 61] : List UInt8) s9))]) (fun t7 => [(2, bl false)]) (fun t7 => []) (eR [(100, 100)]) ?_ ?_
 · intro hj8 s9
   apply z [2]
   refine sif (fun hb10 => ?_) (fun hb10 => ?_)
   · refine so (nxtT hb10 rfl rfl rfl rfl) ?_
     apply z [35, 1, 5]
     refine scT rfl ?_
     apply z [9, 4, 7, 2, 35]
     refine sbn (F := i32) 8 rfl fun z11 => ?_
     apply z [31, 1, 2, 30, 83, 30, 66, 1]
     refine c ?_ ?_
     · apply z [2, 31, 1, 8, 12]
       refine sU ?_
       apply z [12, 10]
       exact rt []
     apply z [9, 11]
     exact sgo (eR [(100, 100)])
   · refine s1 (nxtF hb10 rfl rfl rfl) ?_
     apply z [35, 1, 5]
     refine scF rfl ?_
     apply z [14, 15]
     exact su (sj (hj8 _) (eR []))
 intro t7
 refine slpk ?_
 apply z [13, 4, 2, 31, 1, 8]
 exact rt []
theorem c_lex_kind {n : Nat} {x0} : ∀ r, m_lex_kind n x0 = some r → FnOk Tryz.prog 103 [u8 x0] [] (i64 r) [] := by
 unfold m_lex_kind
 refine fs Tryz.func103 fun w S0 γ hγ => ?_
 apply z [2, 31, 1, 5, 7, 2, 30]
 refine cb (ca c_lex_digit) fun r1 => ?_
 apply z [31, 1]
 refine c ?_ ?_
 · apply z [2, 31, 1, 8, 12, 10]
   exact rt []
 apply z [2, 30]
 refine cb (ca c_lex_letter) fun r3 => ?_
 apply z [31, 1]
 refine c ?_ ?_
 · apply z [2, 31, 1, 8, 12, 10]
   exact rt []
 apply z [2, 30]
 refine cb (ca c_lex_sign) fun r5 => ?_
 apply z [31, 1]
 refine c ?_ ?_
 · apply z [2, 31, 1, 8, 12, 10]
   exact rt []
 apply z [9, 11, 4, 2, 31, 1, 8]
 exact rt []
theorem c_lex_goes {x0} {x1} : ∀ r, m_lex_goes x0 x1 = some r → FnOk Tryz.prog 133 [i64 x0, u8 x1] [] (bl r) [] := by
 unfold m_lex_goes
 refine fs Tryz.func133 fun w S0 γ hγ => ?_
 apply z [2, 31, 1]
 refine sjq (fun s13 => [(4, bl s13)]) (fun s13 => []) ?_ ?_
 · intro j11 hj12
   apply z [6, 30, 41, 30]
   refine sifd 7 rfl ?_ ?_
   · apply z [22]
     refine b fun r14 h15 => ?_
     refine og' (c0 (c_lex_digit _ h15)) ?_
     apply z [38, 30]
     refine sifd 11 rfl ?_ ?_
     · apply z [23, 23, 23, 24, 24, 24, 24, 24, 24, 23, 38, 31, 1]
       exact sj (hj12 _) eI
     apply z [22, 22, 22]
     refine sifd 14 rfl ?_ ?_
     · apply z [22]
       refine b fun r16 h17 => ?_
       refine og' (c0 (c_lex_letter _ h17)) ?_
       apply z [22]
       refine sifd 17 rfl ?_ ?_
       · apply z [23, 23, 22, 22, 37, 31, 1]
         exact sj (hj12 _) eI
       apply z [22]
       refine b fun r18 h19 => ?_
       refine og' (c0 (c_lex_digit _ h19)) ?_
       apply z [22, 22, 37, 31, 1]
       exact sj (hj12 _) eI
     apply z [23, 23, 23, 24, 24, 23, 22, 37, 31, 1]
     exact sj (hj12 _) eI
   apply z [23, 23, 37, 30, 22, 22, 22]
   refine sifd 14 rfl ?_ ?_
   · apply z [22]
     refine b fun r20 h21 => ?_
     refine og' (c0 (c_lex_letter _ h21)) ?_
     apply z [22]
     refine sifd 17 rfl ?_ ?_
     · apply z [23, 23, 22, 22, 37, 31, 1]
       exact sj (hj12 _) eI
     apply z [22]
     refine b fun r22 h23 => ?_
     refine og' (c0 (c_lex_digit _ h23)) ?_
     apply z [22, 22, 37, 31, 1]
     exact sj (hj12 _) eI
   apply z [23, 23, 23, 24, 24, 23, 22, 37, 31, 1]
   exact sj (hj12 _) eI
 intro s13
 apply z [8]
 exact rt []
theorem c_lex_first {n : Nat} {x0} {x1} : ∀ r, m_lex_first n x0 x1 = some r → FnOk Tryz.prog 104 [str x0, i64 x1] [] (i64 r) [] := by
 unfold m_lex_first
 refine fs Tryz.func104 fun w S0 γ hγ => ?_
 apply z [2, 31, 1, 2, 31, 1, 5, 7]
 refine sloopE 0 (fun t => t) (fun s27 => [(0, str x0), (1, i64 x1), (4, i64 (0 : Int)), (5, i64 s27)]) (fun s27 => []) (fun t25 => [(4, i64 (0 : Int)), (5, i64 t25)]) (fun t25 => []) eI ?_ ?_
 · intro hj26 s27
   apply z [5]
   refine sjq (fun s34 => [(0, str x0), (1, i64 x1), (4, i64 (0 : Int)), (5, i64 s27), (16, bl s34)]) (fun s34 => []) ?_ ?_
   · intro j32 hj33
     apply z [6, 30, 30, 54, 46, 30]
     refine sifd 10 rfl ?_ ?_
     · apply z [22, 22, 22]
       refine b fun y35 h36 => ?_
       apply z [22]
       refine b fun r37 h38 => ?_
       refine og' (c0 (c_lex_goes _ h38)) ?_
       apply z [38, 1]
       exact sj (hj33 _) eI
     apply z [23, 23, 23, 23, 23, 37, 1]
     exact sj (hj33 _) eI
   intro s34
   refine c ?_ ?_
   · apply z [9, 4, 7, 6, 30, 40, 31, 3, 11]
     exact sgo eI
   apply z [14, 15]
   exact su (sj (hj26 _) eI)
 intro t25
 apply z [13, 4, 2, 30, 31, 1, 8]
 exact rt []
theorem c_lex_most {x0} : ∀ r, m_lex_most x0 = some r → FnOk Tryz.prog 105 [i64 x0] [] (i64 r) [] := by
 unfold m_lex_most
 refine fs Tryz.func105 fun w S0 γ hγ => ?_
 apply z [2, 31, 1, 5, 2, 30, 1, 7, 2, 41, 31, 1]
 refine c ?_ ?_
 · apply z [2, 31, 1, 8, 12, 10]
   exact rt []
 apply z [2, 41, 31, 1]
 refine c ?_ ?_
 · apply z [2, 31, 1, 8, 12, 10]
   exact rt []
 apply z [9, 11, 4, 2, 31, 1, 8]
 exact rt []
theorem c_lex_Scan {n : Nat} {x0} : ∀ r, m_lex_Scan n x0 = some r → FnOk Tryz.prog 66 [str x0] [] (.tup [sli 3 (List.map L_lex_Word r.1), L_api_Fault r.2]) [] := by
 unfold m_lex_Scan
 refine fs Tryz.func66 fun w S0 γ hγ => ?_
 apply z [2]
 refine s1 (asg rfl (kLm (k := 3) L_lex_Word)) ?_
 refine o (al' 100) ?_
 apply z [1, 5, 2, 30, 54, 47, 1]
 refine c ?_ ?_
 · apply z [2]
   refine s1 (bld (l := [i64 (1 : Int), i64 0, i64 0, i64 (4000 : Int)]) pl_28.h ti_28.h zr_api_Fault ⟨_, _, _, (kI (x := 1) rfl), rfl, rfl, rfl, (szk (k := 1) rfl rfl), ⟨_, _, _, (kI (x := 4000) rfl), rfl, rfl, rfl, (szk (k := 1) rfl rfl), rfl⟩⟩ rfl) ?_
   refine s1 (asg rfl (kLm (k := 3) L_lex_Word)) ?_
   apply z [34, 1, 8, 10]
   exact rt []
 apply z [9, 4, 2]
 refine so (asgN (y := 101) (E := 156) (k := 3) rfl rfl) ?_
 apply z [1, 5, 2, 30]
 refine cb (ca c_lex_skip) fun r1 => ?_
 apply z [31, 1, 7]
 refine sloopE 0 Lp.go (fun s43 => [(0, str x0), (2, sli 3 (List.map L_lex_Word ([] : List M_lex_Word))), (3, .own 100), (4, .own 101), (5, i64 s43.2)]) (fun s43 => [(100, .bx 28 (L_api_Fault (⟨0, 0, 0, 0⟩ : M_api_Fault))), (101, .sl 156 3 (List.map L_lex_Word s43.1))]) (fun t41 => [(2, sli 3 (List.map L_lex_Word ([] : List M_lex_Word))), (3, .own 100), (4, .own 101)]) (fun t41 => [(100, .bx 28 (L_api_Fault (⟨0, 0, 0, 0⟩ : M_api_Fault))), (101, .sl 156 3 (List.map L_lex_Word t41))]) (eR [(100, 100), (101, 101)]) ?_ ?_
 · intro hj42 s43
   apply z [5, 2, 30, 30, 54, 46, 1]
   refine c ?_ ?_
   · apply z [9, 4, 5, 7, 2, 30, 30]
     refine b fun y44 h45 => ?_
     apply z [90]
     refine cb (ca c_lex_kind) fun r46 => ?_
     apply z [31, 1, 5, 2, 30, 41, 1]
     refine c ?_ ?_
     · apply z [2, 30]
       refine s1 (bld (l := [i64 (1 : Int), i64 0, i64 0, i64 s43.2]) pl_28.h ti_28.h zr_api_Fault ⟨_, _, _, (kI (x := 1) rfl), rfl, rfl, rfl, (szk (k := 1) rfl rfl), ⟨_, _, _, rfl, rfl, rfl, rfl, (szk (k := 1) rfl rfl), rfl⟩⟩ rfl) ?_
       refine s1 (asg rfl (kLm (k := 3) L_lex_Word)) ?_
       apply z [34, 1, 8, 10, 12, 10]
       refine sU ?_
       apply z [12, 10]
       exact rt []
     apply z [9, 4, 2, 30, 30]
     refine b fun y48 h49 => ?_
     refine s1 (slS h49 Tryz.underlying9 rfl rfl (bnd rfl) bnd0) ?_
     apply z [30]
     refine cb (ca c_lex_first) fun r50 => ?_
     apply z [31, 1, 5, 2, 30, 30]
     refine cb (ca c_lex_most) fun r52 => ?_
     apply z [47, 1]
     refine c ?_ ?_
     · apply z [2, 30, 30]
       refine cb (ca c_lex_most) fun r54 => ?_
       apply z [40]
       refine s1 (bld (l := [i64 (1 : Int), i64 0, i64 0, i64 (wrap64 (s43.2 + r54))]) pl_28.h ti_28.h zr_api_Fault ⟨_, _, _, (kI (x := 1) rfl), rfl, rfl, rfl, (szk (k := 1) rfl rfl), ⟨_, _, _, rfl, rfl, rfl, rfl, (szk (k := 1) rfl rfl), rfl⟩⟩ rfl) ?_
       refine s1 (asg rfl (kLm (k := 3) L_lex_Word)) ?_
       apply z [34, 1, 8, 10, 12, 10]
       refine sU ?_
       apply z [12, 10]
       exact rt []
     apply z [9, 4, 2, 30, 30, 30, 30, 30, 30, 40]
     refine b fun y56 h57 => ?_
     refine s1 (slS h57 Tryz.underlying9 rfl rfl (bnd rfl) (bnd rfl)) ?_
     apply z [30]
     refine s1 (bld (l := [i64 r46, str y56, i64 s43.2]) pl_156.h ti_156.h zr_lex_Word ⟨_, _, _, rfl, rfl, rfl, rfl, (szk (k := 1) rfl rfl), ⟨_, _, _, rfl, rfl, rfl, rfl, (szk (k := 1) rfl rfl), ⟨_, _, _, rfl, rfl, rfl, rfl, (szk (k := 1) rfl rfl), rfl⟩⟩⟩ rfl) ?_
     refine so (bsl (y := 102) (ls := List.map L_lex_Word ([(⟨r46, y56, s43.2⟩ : M_lex_Word)] : List M_lex_Word)) Tryz.underlying114 ti_156.h rfl rfl rfl rfl rfl ⟨rfl, rfl, (by exact rfl), (by exact rfl), trivial⟩ rfl rfl) ?_
     refine b fun y58 h59 => ?_
     refine o (app' 103) ?_
     apply z [31, 1, 6, 30, 30, 40, 31, 3, 11, 4, 6, 30, 30]
     refine cb (ca c_lex_skip) fun r60 => ?_
     apply z [31, 3]
     exact sgo (eR [(100, 100), (101, 103)])
   apply z [14, 15]
   exact su (sj (hj42 _) (eR [(100, 100), (101, 101)]))
 intro t41
 refine slpk ?_
 apply z [13, 4, 2, 30]
 refine s1 (bld (l := [i64 0, i64 0, i64 0, i64 0]) pl_28.h ti_28.h zr_api_Fault rfl rfl) ?_
 apply z [31, 34, 1, 8]
 refine fz 101 [2, 4, 58] [] ?_
 exact rt []
theorem c_parse_begin {n : Nat} {x0} {x1} : ∀ r, m_parse_begin n x0 x1 = some r → FnOk Tryz.prog 34 [str x0, sli 1 (List.map str x1)] [] (.tup [.own 50, L_api_Fault r.2.2.2.2.2]) [(50, .bx 118 (.agg [sli 3 (List.map L_lex_Word r.1), i64 r.2.1, i64 r.2.2.1, i64 r.2.2.2.1, .own 70])), (70, .sl 9 1 (List.map str r.2.2.2.2.1))] := by
 unfold m_parse_begin
 refine fs Tryz.func34 fun w S0 γ hγ => ?_
 apply z [2, 31]
 refine o (al' 100) ?_
 apply z [1, 2, 30]
 refine cb (ca c_lex_Scan) fun r1 => ?_
 apply z [30, 35, 35]
 refine o (al' 101) ?_
 apply z [31, 34, 1, 5]
 refine b fun y3 h4 => ?_
 refine sd ?_
 apply zd [[], [], [], []]
 refine dx [16] [102] (fun st mm ⟨a16, _⟩ ⟨g102, _⟩ => og (appN (y := 102) (f := str) h4 Tryz.underlying41 ti_9.h rfl rfl (a16.trans rfl) (.inl rfl) (g102.trans rfl) rfl)) ?_
 refine dx [17, 13, 15] [] (fun st mm ⟨a17, a13, a15, _⟩ _ => og (bld (l := [sli 3 (List.map L_lex_Word r1.1), i64 0, i64 (x0.length : Int), i64 0, .own 102]) pl_118.h ti_118.h zr_parse_reader ⟨_, _, _, (a13.trans rfl), rfl, rfl, rfl, (szk (k := 1) rfl rfl), ⟨_, _, _, (a15.trans rfl), rfl, rfl, rfl, (szk (k := 1) rfl rfl), ⟨_, _, _, (a17.trans rfl), rfl, rfl, rfl, (szk (k := 1) rfl rfl), rfl⟩⟩⟩ rfl)) ?_
 refine dd [103] (fun _ _ _ _ => bx' 103) ?_
 apply zd [[101], [], [100]]
 refine de fol ?_
 apply z [4, 8]
 exact rt [(50, 103), (70, 102)]
theorem c___parse_reader__next {x0_words} {x0_at_} {x0_end_} {x0_deep} {x0_names} : ∀ r, m___parse_reader__next x0_words x0_at_ x0_end_ x0_deep x0_names = some r → FnOk Tryz.prog 106 [.own 0] [(0, .bx 118 (.agg [sli 3 (List.map L_lex_Word x0_words), i64 x0_at_, i64 x0_end_, i64 x0_deep, .own 1])), (1, .sl 9 1 (List.map str x0_names))] (L_lex_Word r) [(0, .bx 118 (.agg [sli 3 (List.map L_lex_Word x0_words), i64 x0_at_, i64 x0_end_, i64 x0_deep, .own 1])), (1, .sl 9 1 (List.map str x0_names))] := by
 unfold m___parse_reader__next
 refine fs Tryz.func106 fun w S0 γ hγ => ?_
 apply z [2]
 refine o (al' 100) ?_
 apply z [1, 5, 5]
 refine sd ?_
 apply zd [[], [0], [0], [0], [], [0], [0], [0], [], []]
 refine de fol ?_
 apply z [4]
 refine c ?_ ?_
 · apply z [5]
   refine b fun y1 h2 => ?_
   refine sd ?_
   apply zd [[], [0], [0], [0], [], [0], [0], [0], [], [], [100]]
   refine de fol ?_
   apply z [4, 8, 10]
   exact rt [(0, 0), (1, 1)]
 apply z [9, 4, 2]
 refine s1 (bld (l := [i64 0, str [], i64 0]) pl_156.h ti_156.h zr_lex_Word rfl rfl) ?_
 apply z [34, 1, 8]
 exact rt [(0, 0), (1, 1)]
theorem c___parse_reader__has {x0_words} {x0_at_} {x0_end_} {x0_deep} {x0_names} {x1} : ∀ r, m___parse_reader__has x0_words x0_at_ x0_end_ x0_deep x0_names x1 = some r → FnOk Tryz.prog 67 [.own 0, str x1] [(0, .bx 118 (.agg [sli 3 (List.map L_lex_Word x0_words), i64 x0_at_, i64 x0_end_, i64 x0_deep, .own 1])), (1, .sl 9 1 (List.map str x0_names))] (bl r.1) [(0, .bx 118 (.agg [sli 3 (List.map L_lex_Word r.2.1), i64 r.2.2.1, i64 r.2.2.2.1, i64 r.2.2.2.2, .own 1])), (1, .sl 9 1 (List.map str x0_names))] := by
 unfold m___parse_reader__has
 refine fs Tryz.func67 fun w S0 γ hγ => ?_
 apply z [2, 31, 1, 5, 2, 30]
 refine b fun r1 h2 => ?_
 refine o (cG (c___parse_reader__next _ h2) [0, 1] [] [0, 1]) ?_
 refine s1 (fld ff_156_1 (by exact rfl) (by exact rfl) (by exact rfl) rfl rfl) ?_
 apply z [30, 73, 1]
 refine c ?_ ?_
 · apply z [2, 31, 1, 8, 10]
   exact rt [(0, 0), (1, 1)]
 apply z [9, 4, 2, 30, 48, 33, 36, 40, 48, 33]
 refine o (stP (.agg [sli 3 (List.map L_lex_Word x0_words), i64 (wrap64 (x0_at_ + (1 : Int))), i64 x0_end_, i64 x0_deep, .own 1]) [1]) ?_
 apply z [1, 2, 31, 1, 8]
 exact rt [(0, 0), (1, 1)]
theorem c_digits_wrong {n : Nat} {x0} : ∀ r, m_digits_wrong n x0 = some r → FnOk Tryz.prog 196 [str x0] [] (i64 r) [] := by
 unfold m_digits_wrong
 refine fs Tryz.func196 fun w S0 γ hγ => ?_
 apply z [2, 31, 1, 5, 2, 30, 54, 30, 1, 7]
 refine sloopE 0 Lp.go (fun s27 => [(0, str x0), (2, i64 (0 : Int)), (5, i64 (x0.length : Int)), (6, i64 s27)]) (fun s27 => []) (fun t25 => [(0, str x0), (2, i64 (0 : Int))]) (fun t25 => []) eI ?_ ?_
 · intro hj26 s27
   apply z [2, 46, 1, 5]
   refine c ?_ ?_
   · apply z [9, 4, 5, 7, 2, 30, 31, 1]
     refine sjq (fun s34 => [(0, str x0), (2, i64 (0 : Int)), (3, i64 s27), (5, i64 (x0.length : Int)), (6, i64 s27), (22, bl s34)]) (fun s34 => []) ?_ ?_
     · intro j32 hj33
       apply z [6, 30, 30]
       refine b fun y35 h36 => ?_
       apply z [90, 68, 30]
       refine sifd 13 rfl ?_ ?_
       · apply z [23, 23, 23, 23, 38, 30, 23, 23, 38, 1]
         exact sj (hj33 _) eI
       apply z [22, 22]
       refine b fun y37 h38 => ?_
       apply z [22, 22, 37, 30]
       refine sifd 19 rfl ?_ ?_
       · apply z [23, 23, 38, 1]
         exact sj (hj33 _) eI
       apply z [22, 22, 37, 1]
       exact sj (hj33 _) eI
     intro s34
     refine c ?_ ?_
     · apply z [2, 30, 31, 1, 8, 12, 10]
       refine sU ?_
       apply z [12, 10]
       exact rt []
     apply z [9, 11, 4, 6, 40, 30, 3]
     exact sgo eI
   apply z [14, 15]
   exact su (sj (hj26 _) eI)
 intro t25
 refine slpk ?_
 apply z [13, 4, 5, 2, 30, 72, 1]
 refine c ?_ ?_
 · apply z [2, 31, 1, 8, 10]
   exact rt []
 apply z [9, 4, 2, 31, 1, 8]
 exact rt []
theorem c_limb_Mul {x0} {x1} {x2} {x3} : ∀ r, m_limb_Mul x0 x1 x2 x3 = some r → FnOk Tryz.prog 215 [u32 x0, u32 x1, u32 x2, u32 x3] [] (.tup [u32 r.1, u32 r.2]) [] := by
 unfold m_limb_Mul
 refine fs Tryz.func215 fun w S0 γ hγ => ?_
 apply z [2, 31, 31, 1, 2, 30, 59, 30, 59, 63, 30, 59, 61, 30, 59, 61]
 refine sbn (F := u64) 21 rfl fun z1 => ?_
 apply z [31, 1, 2, 30]
 refine s1 (shrU uk64 rfl rfl rfl (k64 (x := 32) rfl)) ?_
 apply z [60, 30, 60, 31, 31, 1, 8]
 exact rt []
theorem c_prod_row {x0} {x1} {x2} {x3} {x4} : ∀ r, m_prod_row x0 x1 x2 x3 x4 = some r → FnOk Tryz.prog 207 [.own 0, i64 x1, sli 1 (List.map u32 x2), u32 x3, u32 x4] [(0, .sl 127 1 (List.map u32 x0))] (.tup []) [(0, .sl 127 1 (List.map u32 r))] := by
 unfold m_prod_row
 refine fs Tryz.func207 fun w S0 γ hγ => ?_
 apply z [5, 2, 30, 39, 30, 1, 7]
 refine srN (fun s22 => [(0, .own 0), (1, i64 x1), (2, sli 1 (List.map u32 x2)), (3, u32 x3), (4, u32 s22.2), (12, sli 1 (List.map u32 x2))]) (fun s22 => [(0, .sl 127 1 (List.map u32 s22.1))]) (rE (eR [(0, 0)])) ?_ ?_
 · intro i23 x24 s22 hx25
   apply z [7, 2, 30, 43, 42, 31, 31, 1, 6, 30, 30, 30, 40, 30, 30, 30, 30, 30, 40]
   refine b fun y26 h27 => ?_
   apply z [50, 51, 30]
   refine cb (ca c_limb_Mul) fun r28 => ?_
   apply z [30, 35, 35, 31]
   refine b fun y30 h31 => ?_
   apply z [50, 53, 3, 11]
   exact sgo (eR [(0, 0)])
 intro s32
 apply z [13, 4, 6, 30, 30, 30, 39, 40, 30]
 refine b fun y33 h34 => ?_
 apply z [50, 53, 3]
 exact rt [(0, 0)]
theorem c_nat_trim {n : Nat} {x0} : ∀ r, m_nat_trim n x0 = some r → FnOk Tryz.prog 127 [sli 1 (List.map u32 x0)] [] (sli 1 (List.map u32 r)) [] := by
 unfold m_nat_trim
 refine fs Tryz.func127 fun w S0 γ hγ => ?_
 apply z [2]
 refine s1 (asg rfl (kLm (k := 1) u32)) ?_
 apply z [1, 2, 30, 39, 31, 1, 5, 7]
 refine sloopE 0 (fun t => t) (fun s19 => [(0, sli 1 (List.map u32 x0)), (2, sli 1 (List.map u32 ([] : List Nat))), (3, i64 s19)]) (fun s19 => []) (fun t17 => [(0, sli 1 (List.map u32 x0)), (2, sli 1 (List.map u32 ([] : List Nat))), (3, i64 t17)]) (fun t17 => []) eI ?_ ?_
 · intro hj18 s19
   apply z [5]
   refine sjq (fun s24 => [(0, sli 1 (List.map u32 x0)), (2, sli 1 (List.map u32 ([] : List Nat))), (3, i64 s19), (15, bl s24)]) (fun s24 => []) ?_ ?_
   · intro j22 hj23
     apply z [6, 30, 47, 30]
     refine sifd 8 rfl ?_ ?_
     · apply z [22, 22, 22]
       refine b fun y25 h26 => ?_
       apply z [22, 22, 22, 38, 1]
       exact sj (hj23 _) eI
     apply z [23, 23, 23, 23, 23, 23, 37, 1]
     exact sj (hj23 _) eI
   intro s24
   refine c ?_ ?_
   · apply z [9, 4, 7, 6, 30, 49, 31, 3, 11]
     exact sgo eI
   apply z [14, 15]
   exact su (sj (hj18 _) eI)
 intro t17
 apply z [13, 4, 2, 30, 30]
 refine b fun y27 h28 => ?_
 refine s1 (slR (f := u32) h28 Tryz.underlying67 ti_127.h rfl rfl bnd0 (bnd rfl)) ?_
 apply z [31, 1, 8]
 exact rt []
theorem c_nat_fresh {x0} {x1} : ∀ r, m_nat_fresh x0 x1 = some r → FnOk Tryz.prog 160 [sli 1 (List.map u32 x0), i64 x1] [] (.own 50) [(50, .sl 127 1 (List.map u32 r))] := by
 unfold m_nat_fresh
 refine fs Tryz.func160 fun w S0 γ hγ => ?_
 apply z [2]
 refine s1 (asg rfl (kLm (k := 1) u32)) ?_
 apply z [1, 2, 30, 39, 30, 40]
 refine b fun y1 h2 => ?_
 refine so (mks (y := 100) (f := u32) h2 Tryz.underlying67 ti_127.h zr_u32 rfl rfl rfl rfl rfl rfl) ?_
 apply z [31, 1, 2, 30, 30]
 refine so (cpy (f := u32) rfl Tryz.underlying67 ti_127.h rfl rfl (.inl rfl) rfl) ?_
 apply z [1, 2, 30, 31, 1, 8]
 exact rt [(50, 100)]
end Go.Proofs.YtpomhkkhdojpiaaGreatDoor
