import Derived.Test.YtpomhkkhdojpiaaGreatDoorGen3
set_option maxRecDepth 100000
set_option maxHeartbeats 4000000
namespace Go.Proofs.YtpomhkkhdojpiaaGreatDoor
open Go Go.RowKit
theorem c___retrospectref18_P__factor {me___retrospectref18_P__Expr : (List M_retrospectref16_Word) → Int → Int → Int → (List (List UInt8)) → Int → Option ((List M_retrospectref17_Node) × (List M_retrospectref16_Word) × Int × Int × Int × Int × (List (List UInt8)))} (he___retrospectref18_P__Expr : ∀ {x0_W : (List M_retrospectref16_Word)} {x0_I : Int} {x0_End : Int} {x0_Deep : Int} {x0_Names : (List (List UInt8))} {x0_Bad : Int}, ∀ r, me___retrospectref18_P__Expr x0_W x0_I x0_End x0_Deep x0_Names x0_Bad = some r → FnOk Tryz.prog 45 [.own 0] [(0, .bx 78 (.agg [sli 3 (List.map L_retrospectref16_Word x0_W), i64 x0_I, i64 x0_End, i64 x0_Deep, .own 1, i64 x0_Bad])), (1, .sl 9 1 (List.map str x0_Names))] (.own 50) [(0, .bx 78 (.agg [sli 3 (List.map L_retrospectref16_Word r.2.1), i64 r.2.2.1, i64 r.2.2.2.1, i64 r.2.2.2.2.1, .own 61, i64 r.2.2.2.2.2.1])), (1, .gone), (50, .sl 88 3 (List.map L_retrospectref17_Node r.1)), (61, .sl 9 1 (List.map str r.2.2.2.2.2.2))]) : ∀ {n : Nat} {x0_W} {x0_I} {x0_End} {x0_Deep} {x0_Names} {x0_Bad}, ∀ r, m___retrospectref18_P__factor me___retrospectref18_P__Expr n x0_W x0_I x0_End x0_Deep x0_Names x0_Bad = some r → FnOk Tryz.prog 113 [.own 0] [(0, .bx 78 (.agg [sli 3 (List.map L_retrospectref16_Word x0_W), i64 x0_I, i64 x0_End, i64 x0_Deep, .own 1, i64 x0_Bad])), (1, .sl 9 1 (List.map str x0_Names))] (.own 50) [(0, .bx 78 (.agg [sli 3 (List.map L_retrospectref16_Word r.2.1), i64 r.2.2.1, i64 r.2.2.2.1, i64 r.2.2.2.2.1, .own 61, i64 r.2.2.2.2.2.1])), (1, .gone), (50, .sl 88 3 (List.map L_retrospectref17_Node r.1)), (61, .sl 9 1 (List.map str r.2.2.2.2.2.2))] := by
  intro n
  induction n with
  | zero => intro x0_W x0_I x0_End x0_Deep x0_Names x0_Bad r h; exact absurd h (by simp [m___retrospectref18_P__factor])
  | succ n ih =>
    intro x0_W x0_I x0_End x0_Deep x0_Names x0_Bad
    unfold m___retrospectref18_P__factor
    refine fs Tryz.func113 fun w S0 γ hγ => ?_
    apply z [2]
    refine s1 (asg rfl (kLm (k := 3) L_retrospectref17_Node)) ?_
    apply z [1, 5, 2, 30]
    refine b fun r1 h2 => ?_
    refine o (cG (c___retrospectref18_P__sees _ h2) [0, 1] [] [0, 1]) ?_
    apply z [1]
    refine c ?_ ?_
    · apply z [2, 30]
      refine b fun r3 h4 => ?_
      refine o (cG (c___retrospectref18_P__level _ h4) [0, 1] [] [1]) ?_
      apply z [1, 2]
      refine so (bsl (y := 100) (ls := List.map L_retrospectref17_Node ([] : List M_retrospectref17_Node)) Tryz.underlying45 ti_88.h rfl rfl rfl rfl rfl trivial rfl rfl) ?_
      apply z [31, 1]
      refine sjq (fun s9 => [(0, .own 0), (2, sli 3 (List.map L_retrospectref17_Node ([] : List M_retrospectref17_Node))), (3, .own 101)]) (fun s9 => [(1, .gone), (0, .bx 78 (.agg [sli 3 (List.map L_retrospectref16_Word s9.1), i64 s9.2.1, i64 s9.2.2.1, i64 s9.2.2.2.1, .own 102, i64 s9.2.2.2.2.2.1])), (102, .sl 9 1 (List.map str s9.2.2.2.2.1)), (101, .sl 88 3 (List.map L_retrospectref17_Node s9.2.2.2.2.2.2))]) ?_ ?_
      · intro j7 hj8
        apply z [2, 30, 48, 33, 36, 46, 1]
        refine c ?_ ?_
        · apply z [6, 30]
          refine b fun r10 h11 => ?_
          refine o (cG (ih _ h11) [0, 1] [(101, 50), (102, 61)] []) ?_
          apply z [31, 1]
          exact sj (hj8 _) (eR [(1, 1), (0, 0), (102, 102), (101, 101)])
        apply z [9, 4]
        exact sj (hj8 _) (eR [(1, 1), (0, 0), (102, 1), (101, 100)])
      intro s9
      apply z [2, 30, 48, 33, 36, 49, 48, 33]
      refine o (stP (.agg [sli 3 (List.map L_retrospectref16_Word s9.1), i64 s9.2.1, i64 s9.2.2.1, i64 (wrap64 (s9.2.2.2.1 - (1 : Int))), .own 102, i64 s9.2.2.2.2.2.1]) [3]) ?_
      apply z [1, 2, 30]
      refine s1 (bld (l := [i64 (6 : Int), i64 0, sli 1 (List.map u32 [])]) pl_88.h ti_88.h zr_retrospectref17_Node ⟨_, _, _, (kI (x := 6) rfl), rfl, rfl, rfl, (szk (k := 1) rfl rfl), rfl⟩ rfl) ?_
      refine so (bsl (y := 103) (ls := List.map L_retrospectref17_Node ([(⟨(6 : Int), 0, []⟩ : M_retrospectref17_Node)] : List M_retrospectref17_Node)) Tryz.underlying45 ti_88.h rfl rfl rfl rfl rfl ⟨rfl, rfl, (by exact rfl), (by exact rfl), trivial⟩ rfl rfl) ?_
      refine sbm (C := fun x => .sl 88 3 (List.map L_retrospectref17_Node x)) 103 rfl fun z12 => ?_
      refine b fun y13 h14 => ?_
      refine o (app' 104) ?_
      apply z [31, 1, 8, 10]
      exact rt [(0, 0), (1, 1), (50, 104), (61, 102)]
    apply z [9, 4, 2, 30]
    refine b fun r15 h16 => ?_
    refine o (cG (c___retrospectref18_P__atom @he___retrospectref18_P__Expr _ h16) [0, 1] [(100, 50), (101, 61)] []) ?_
    apply z [31, 1]
    refine sjq (fun s33 => [(2, sli 3 (List.map L_retrospectref17_Node ([] : List M_retrospectref17_Node))), (4, .own 103)]) (fun s33 => [(1, .gone), (0, .bx 78 (.agg [sli 3 (List.map L_retrospectref16_Word s33.1), i64 s33.2.1, i64 s33.2.2.1, i64 s33.2.2.2.1, .own 101, i64 s33.2.2.2.2.1])), (101, .sl 9 1 (List.map str r15.2.2.2.2.2.2)), (103, .sl 88 3 (List.map L_retrospectref17_Node s33.2.2.2.2.2))]) ?_ ?_
    · intro j31 hj32
      apply z [2, 30]
      refine b fun r34 h35 => ?_
      refine o (cG (c___retrospectref18_P__sees _ h35) [0, 101] [] [0, 101]) ?_
      apply z [1]
      refine c ?_ ?_
      · apply z [2, 30, 48, 33, 36, 40, 48, 33]
        refine o (stP (.agg [sli 3 (List.map L_retrospectref16_Word r15.2.1), i64 (wrap64 (r15.2.2.1 + (1 : Int))), i64 r15.2.2.2.1, i64 r15.2.2.2.2.1, .own 101, i64 r15.2.2.2.2.2.1]) [1]) ?_
        apply z [1, 2, 31, 1]
        refine sjq (fun s40 => [(0, .own 0), (2, sli 3 (List.map L_retrospectref17_Node ([] : List M_retrospectref17_Node))), (4, .own 100), (5, i64 s40.2)]) (fun s40 => [(1, .gone), (0, .bx 78 (.agg [sli 3 (List.map L_retrospectref16_Word r15.2.1), i64 s40.1, i64 r15.2.2.2.1, i64 r15.2.2.2.2.1, .own 101, i64 r15.2.2.2.2.2.1])), (101, .sl 9 1 (List.map str r15.2.2.2.2.2.2)), (100, .sl 88 3 (List.map L_retrospectref17_Node r15.1))]) ?_ ?_
        · intro j38 hj39
          apply z [2, 30]
          refine b fun r41 h42 => ?_
          refine o (cG (c___retrospectref18_P__sees _ h42) [0, 101] [] [0, 101]) ?_
          apply z [1]
          refine c ?_ ?_
          · apply z [2, 30, 48, 33, 36, 40, 48, 33]
            refine o (stP (.agg [sli 3 (List.map L_retrospectref16_Word r15.2.1), i64 (wrap64 ((wrap64 (r15.2.2.1 + (1 : Int))) + (1 : Int))), i64 r15.2.2.2.1, i64 r15.2.2.2.2.1, .own 101, i64 r15.2.2.2.2.2.1]) [1]) ?_
            apply z [1, 6, 31, 1]
            exact sj (hj39 _) (eR [(1, 1), (0, 0), (101, 101), (100, 100)])
          apply z [9, 4]
          exact sj (hj39 _) (eR [(1, 1), (0, 0), (101, 101), (100, 100)])
        intro s40
        apply z [6, 30, 30, 30]
        refine b fun r43 h44 => ?_
        refine o (cG (c___retrospectref18_P__small _ h44) [0, 101] [] [101]) ?_
        apply z [76]
        refine s1 (bld (l := [i64 (11 : Int), i64 (wrap64 (s40.2 * r43.1)), sli 1 (List.map u32 [])]) pl_88.h ti_88.h zr_retrospectref17_Node ⟨_, _, _, (kI (x := 11) rfl), rfl, rfl, rfl, (szk (k := 1) rfl rfl), ⟨_, _, _, rfl, rfl, rfl, rfl, (szk (k := 1) rfl rfl), rfl⟩⟩ rfl) ?_
        refine so (bsl (y := 102) (ls := List.map L_retrospectref17_Node ([(⟨(11 : Int), wrap64 (s40.2 * r43.1), []⟩ : M_retrospectref17_Node)] : List M_retrospectref17_Node)) Tryz.underlying45 ti_88.h rfl rfl rfl rfl rfl ⟨rfl, rfl, (by exact rfl), (by exact rfl), trivial⟩ rfl rfl) ?_
        refine sbm (C := fun x => .sl 88 3 (List.map L_retrospectref17_Node x)) 102 rfl fun z45 => ?_
        refine b fun y46 h47 => ?_
        refine o (app' 103) ?_
        apply z [31, 1]
        exact sj (hj32 _) (eR [(1, 1), (0, 0), (101, 101), (103, 103)])
      apply z [9, 4]
      exact sj (hj32 _) (eR [(1, 1), (0, 0), (101, 101), (103, 100)])
    intro s33
    apply z [2, 30, 31, 1, 8]
    exact rt [(0, 0), (1, 1), (50, 103), (61, 101)]
theorem c___retrospectref18_P__term {me___retrospectref18_P__Expr : (List M_retrospectref16_Word) → Int → Int → Int → (List (List UInt8)) → Int → Option ((List M_retrospectref17_Node) × (List M_retrospectref16_Word) × Int × Int × Int × Int × (List (List UInt8)))} (he___retrospectref18_P__Expr : ∀ {x0_W : (List M_retrospectref16_Word)} {x0_I : Int} {x0_End : Int} {x0_Deep : Int} {x0_Names : (List (List UInt8))} {x0_Bad : Int}, ∀ r, me___retrospectref18_P__Expr x0_W x0_I x0_End x0_Deep x0_Names x0_Bad = some r → FnOk Tryz.prog 45 [.own 0] [(0, .bx 78 (.agg [sli 3 (List.map L_retrospectref16_Word x0_W), i64 x0_I, i64 x0_End, i64 x0_Deep, .own 1, i64 x0_Bad])), (1, .sl 9 1 (List.map str x0_Names))] (.own 50) [(0, .bx 78 (.agg [sli 3 (List.map L_retrospectref16_Word r.2.1), i64 r.2.2.1, i64 r.2.2.2.1, i64 r.2.2.2.2.1, .own 61, i64 r.2.2.2.2.2.1])), (1, .gone), (50, .sl 88 3 (List.map L_retrospectref17_Node r.1)), (61, .sl 9 1 (List.map str r.2.2.2.2.2.2))]) {n : Nat} {x0_W} {x0_I} {x0_End} {x0_Deep} {x0_Names} {x0_Bad} : ∀ r, m___retrospectref18_P__term me___retrospectref18_P__Expr n x0_W x0_I x0_End x0_Deep x0_Names x0_Bad = some r → FnOk Tryz.prog 78 [.own 0] [(0, .bx 78 (.agg [sli 3 (List.map L_retrospectref16_Word x0_W), i64 x0_I, i64 x0_End, i64 x0_Deep, .own 1, i64 x0_Bad])), (1, .sl 9 1 (List.map str x0_Names))] (.own 50) [(0, .bx 78 (.agg [sli 3 (List.map L_retrospectref16_Word r.2.1), i64 r.2.2.1, i64 r.2.2.2.1, i64 r.2.2.2.2.1, .own 61, i64 r.2.2.2.2.2.1])), (1, .gone), (50, .sl 88 3 (List.map L_retrospectref17_Node r.1)), (61, .sl 9 1 (List.map str r.2.2.2.2.2.2))] := by
 unfold m___retrospectref18_P__term
 refine fs Tryz.func78 fun w S0 γ hγ => ?_
 apply z [2]
 refine s1 (asg rfl (kLm (k := 3) L_retrospectref17_Node)) ?_
 apply z [1, 2, 30]
 refine b fun r1 h2 => ?_
 refine o (cG (c___retrospectref18_P__factor @he___retrospectref18_P__Expr _ h2) [0, 1] [(100, 50), (101, 61)] []) ?_
 apply z [31, 1, 5, 7]
 refine sloopE 0 (fun t => t) (fun s57 => [(0, .own 0), (2, sli 3 (List.map L_retrospectref17_Node ([] : List M_retrospectref17_Node))), (3, .own 100)]) (fun s57 => [(1, .gone), (0, .bx 78 (.agg [sli 3 (List.map L_retrospectref16_Word s57.1), i64 s57.2.1, i64 s57.2.2.1, i64 s57.2.2.2.1, .own 101, i64 s57.2.2.2.2.2.1])), (101, .sl 9 1 (List.map str s57.2.2.2.2.1)), (100, .sl 88 3 (List.map L_retrospectref17_Node s57.2.2.2.2.2.2))]) (fun t55 => [(2, sli 3 (List.map L_retrospectref17_Node ([] : List M_retrospectref17_Node))), (3, .own 100)]) (fun t55 => [(1, .gone), (0, .bx 78 (.agg [sli 3 (List.map L_retrospectref16_Word t55.1), i64 t55.2.1, i64 t55.2.2.1, i64 t55.2.2.2.1, .own 101, i64 t55.2.2.2.2.2.1])), (101, .sl 9 1 (List.map str t55.2.2.2.2.1)), (100, .sl 88 3 (List.map L_retrospectref17_Node t55.2.2.2.2.2.2))]) (eR [(1, 1), (0, 0), (101, 101), (100, 100)]) ?_ ?_
 · intro hj56 s57
   apply z [5]
   refine sjq (fun s64 => [(0, .own 0), (2, sli 3 (List.map L_retrospectref17_Node ([] : List M_retrospectref17_Node))), (3, .own 100), (12, bl s64)]) (fun s64 => [(1, .gone), (0, .bx 78 (.agg [sli 3 (List.map L_retrospectref16_Word s57.1), i64 s57.2.1, i64 s57.2.2.1, i64 s57.2.2.2.1, .own 101, i64 s57.2.2.2.2.2.1])), (101, .sl 9 1 (List.map str s57.2.2.2.2.1)), (100, .sl 88 3 (List.map L_retrospectref17_Node s57.2.2.2.2.2.2))]) ?_ ?_
   · intro j62 hj63
     apply z [6, 30]
     refine b fun r65 h66 => ?_
     refine o (cG (c___retrospectref18_P__sees _ h66) [0, 101] [] [0, 101]) ?_
     apply z [30]
     refine sifd 9 rfl ?_ ?_
     · apply z [23, 23, 38, 1]
       exact sj (hj63 _) (eR [(1, 1), (0, 0), (101, 101), (100, 100)])
     apply z [22]
     refine b fun r67 h68 => ?_
     refine og' (cG (c___retrospectref18_P__sees _ h68) [0, 101] [] [0, 101]) ?_
     apply z [37, 1]
     exact sj (hj63 _) (eR [(1, 1), (0, 0), (101, 101), (100, 100)])
   intro s64
   refine c ?_ ?_
   · apply z [9, 4, 7, 2, 31, 1]
     refine sjq (fun s73 => [(0, .own 0), (2, sli 3 (List.map L_retrospectref17_Node ([] : List M_retrospectref17_Node))), (3, .own 100), (4, i64 s73)]) (fun s73 => [(1, .gone), (0, .bx 78 (.agg [sli 3 (List.map L_retrospectref16_Word s57.1), i64 s57.2.1, i64 s57.2.2.1, i64 s57.2.2.2.1, .own 101, i64 s57.2.2.2.2.2.1])), (101, .sl 9 1 (List.map str s57.2.2.2.2.1)), (100, .sl 88 3 (List.map L_retrospectref17_Node s57.2.2.2.2.2.2))]) ?_ ?_
     · intro j71 hj72
       apply z [2, 30]
       refine b fun r74 h75 => ?_
       refine o (cG (c___retrospectref18_P__sees _ h75) [0, 101] [] [0, 101]) ?_
       apply z [1]
       refine c ?_ ?_
       · apply z [6, 31, 1]
         exact sj (hj72 _) (eR [(1, 1), (0, 0), (101, 101), (100, 100)])
       apply z [9, 4]
       exact sj (hj72 _) (eR [(1, 1), (0, 0), (101, 101), (100, 100)])
     intro s73
     apply z [2, 30, 48, 33, 36, 40, 48, 33]
     refine o (stP (.agg [sli 3 (List.map L_retrospectref16_Word s57.1), i64 (wrap64 (s57.2.1 + (1 : Int))), i64 s57.2.2.1, i64 s57.2.2.2.1, .own 101, i64 s57.2.2.2.2.2.1]) [1]) ?_
     apply z [1, 6, 30, 30]
     refine b fun r76 h77 => ?_
     refine o (cG (c___retrospectref18_P__factor @he___retrospectref18_P__Expr _ h77) [0, 101] [(102, 50), (103, 61)] []) ?_
     refine b fun y78 h79 => ?_
     refine o (app' 104) ?_
     apply z [30]
     refine s1 (bld (l := [i64 s73, i64 0, sli 1 (List.map u32 [])]) pl_88.h ti_88.h zr_retrospectref17_Node ⟨_, _, _, rfl, rfl, rfl, rfl, (szk (k := 1) rfl rfl), rfl⟩ rfl) ?_
     refine so (bsl (y := 105) (ls := List.map L_retrospectref17_Node ([(⟨s73, 0, []⟩ : M_retrospectref17_Node)] : List M_retrospectref17_Node)) Tryz.underlying45 ti_88.h rfl rfl rfl rfl rfl ⟨rfl, rfl, (by exact rfl), (by exact rfl), trivial⟩ rfl rfl) ?_
     refine sbm (C := fun x => .sl 88 3 (List.map L_retrospectref17_Node x)) 105 rfl fun z80 => ?_
     refine b fun y81 h82 => ?_
     refine o (app' 106) ?_
     apply z [31, 3, 11]
     exact sgo (eR [(1, 1), (0, 0), (101, 103), (100, 106)])
   apply z [14, 15]
   exact su (sj (hj56 _) (eR [(1, 1), (0, 0), (101, 101), (100, 100)]))
 intro t55
 apply z [13, 4, 2, 30, 31, 1, 8]
 exact rt [(0, 0), (1, 1), (50, 100), (61, 101)]
theorem c___retrospectref18_P__Expr : ∀ {n : Nat} {x0_W} {x0_I} {x0_End} {x0_Deep} {x0_Names} {x0_Bad}, ∀ r, m___retrospectref18_P__Expr n x0_W x0_I x0_End x0_Deep x0_Names x0_Bad = some r → FnOk Tryz.prog 45 [.own 0] [(0, .bx 78 (.agg [sli 3 (List.map L_retrospectref16_Word x0_W), i64 x0_I, i64 x0_End, i64 x0_Deep, .own 1, i64 x0_Bad])), (1, .sl 9 1 (List.map str x0_Names))] (.own 50) [(0, .bx 78 (.agg [sli 3 (List.map L_retrospectref16_Word r.2.1), i64 r.2.2.1, i64 r.2.2.2.1, i64 r.2.2.2.2.1, .own 61, i64 r.2.2.2.2.2.1])), (1, .gone), (50, .sl 88 3 (List.map L_retrospectref17_Node r.1)), (61, .sl 9 1 (List.map str r.2.2.2.2.2.2))] := by
  intro n
  induction n with
  | zero => intro x0_W x0_I x0_End x0_Deep x0_Names x0_Bad r h; exact absurd h (by simp [m___retrospectref18_P__Expr])
  | succ n ih =>
    intro x0_W x0_I x0_End x0_Deep x0_Names x0_Bad
    unfold m___retrospectref18_P__Expr
    refine fs Tryz.func45 fun w S0 γ hγ => ?_
    apply z [2]
    refine s1 (asg rfl (kLm (k := 3) L_retrospectref17_Node)) ?_
    apply z [1, 5, 2, 30, 48, 33, 36, 57, 1]
    refine c ?_ ?_
    · apply z [2]
      refine so (bsl (y := 100) (ls := List.map L_retrospectref17_Node ([] : List M_retrospectref17_Node)) Tryz.underlying45 ti_88.h rfl rfl rfl rfl rfl trivial rfl rfl) ?_
      apply z [31, 1, 8, 10]
      exact rt [(0, 0), (1, 1), (50, 100), (61, 1)]
    apply z [9, 4, 2, 30]
    refine b fun r1 h2 => ?_
    refine o (cG (c___retrospectref18_P__term @ih _ h2) [0, 1] [(100, 50), (101, 61)] []) ?_
    apply z [31, 1, 5, 7]
    refine sloopE 0 (fun t => t) (fun s57 => [(0, .own 0), (2, sli 3 (List.map L_retrospectref17_Node ([] : List M_retrospectref17_Node))), (3, .own 100)]) (fun s57 => [(1, .gone), (0, .bx 78 (.agg [sli 3 (List.map L_retrospectref16_Word s57.1), i64 s57.2.1, i64 s57.2.2.1, i64 s57.2.2.2.1, .own 101, i64 s57.2.2.2.2.2.1])), (101, .sl 9 1 (List.map str s57.2.2.2.2.1)), (100, .sl 88 3 (List.map L_retrospectref17_Node s57.2.2.2.2.2.2))]) (fun t55 => [(2, sli 3 (List.map L_retrospectref17_Node ([] : List M_retrospectref17_Node))), (3, .own 100)]) (fun t55 => [(1, .gone), (0, .bx 78 (.agg [sli 3 (List.map L_retrospectref16_Word t55.1), i64 t55.2.1, i64 t55.2.2.1, i64 t55.2.2.2.1, .own 101, i64 t55.2.2.2.2.2.1])), (101, .sl 9 1 (List.map str t55.2.2.2.2.1)), (100, .sl 88 3 (List.map L_retrospectref17_Node t55.2.2.2.2.2.2))]) (eR [(1, 1), (0, 0), (101, 101), (100, 100)]) ?_ ?_
    · intro hj56 s57
      apply z [5]
      refine sjq (fun s64 => [(0, .own 0), (2, sli 3 (List.map L_retrospectref17_Node ([] : List M_retrospectref17_Node))), (3, .own 100), (18, bl s64)]) (fun s64 => [(1, .gone), (0, .bx 78 (.agg [sli 3 (List.map L_retrospectref16_Word s57.1), i64 s57.2.1, i64 s57.2.2.1, i64 s57.2.2.2.1, .own 101, i64 s57.2.2.2.2.2.1])), (101, .sl 9 1 (List.map str s57.2.2.2.2.1)), (100, .sl 88 3 (List.map L_retrospectref17_Node s57.2.2.2.2.2.2))]) ?_ ?_
      · intro j62 hj63
        apply z [6, 30]
        refine b fun r65 h66 => ?_
        refine o (cG (c___retrospectref18_P__sees _ h66) [0, 101] [] [0, 101]) ?_
        apply z [30]
        refine sifd 15 rfl ?_ ?_
        · apply z [23, 23, 38, 1]
          exact sj (hj63 _) (eR [(1, 1), (0, 0), (101, 101), (100, 100)])
        apply z [22]
        refine b fun r67 h68 => ?_
        refine og' (cG (c___retrospectref18_P__sees _ h68) [0, 101] [] [0, 101]) ?_
        apply z [37, 1]
        exact sj (hj63 _) (eR [(1, 1), (0, 0), (101, 101), (100, 100)])
      intro s64
      refine c ?_ ?_
      · apply z [9, 4, 7, 2, 31, 1]
        refine sjq (fun s73 => [(0, .own 0), (2, sli 3 (List.map L_retrospectref17_Node ([] : List M_retrospectref17_Node))), (3, .own 100), (4, i64 s73)]) (fun s73 => [(1, .gone), (0, .bx 78 (.agg [sli 3 (List.map L_retrospectref16_Word s57.1), i64 s57.2.1, i64 s57.2.2.1, i64 s57.2.2.2.1, .own 101, i64 s57.2.2.2.2.2.1])), (101, .sl 9 1 (List.map str s57.2.2.2.2.1)), (100, .sl 88 3 (List.map L_retrospectref17_Node s57.2.2.2.2.2.2))]) ?_ ?_
        · intro j71 hj72
          apply z [2, 30]
          refine b fun r74 h75 => ?_
          refine o (cG (c___retrospectref18_P__sees _ h75) [0, 101] [] [0, 101]) ?_
          apply z [1]
          refine c ?_ ?_
          · apply z [6, 31, 1]
            exact sj (hj72 _) (eR [(1, 1), (0, 0), (101, 101), (100, 100)])
          apply z [9, 4]
          exact sj (hj72 _) (eR [(1, 1), (0, 0), (101, 101), (100, 100)])
        intro s73
        apply z [2, 30, 48, 33, 36, 40, 48, 33]
        refine o (stP (.agg [sli 3 (List.map L_retrospectref16_Word s57.1), i64 (wrap64 (s57.2.1 + (1 : Int))), i64 s57.2.2.1, i64 s57.2.2.2.1, .own 101, i64 s57.2.2.2.2.2.1]) [1]) ?_
        apply z [1, 6, 30, 30]
        refine b fun r76 h77 => ?_
        refine o (cG (c___retrospectref18_P__term @ih _ h77) [0, 101] [(102, 50), (103, 61)] []) ?_
        refine b fun y78 h79 => ?_
        refine o (app' 104) ?_
        apply z [30]
        refine s1 (bld (l := [i64 s73, i64 0, sli 1 (List.map u32 [])]) pl_88.h ti_88.h zr_retrospectref17_Node ⟨_, _, _, rfl, rfl, rfl, rfl, (szk (k := 1) rfl rfl), rfl⟩ rfl) ?_
        refine so (bsl (y := 105) (ls := List.map L_retrospectref17_Node ([(⟨s73, 0, []⟩ : M_retrospectref17_Node)] : List M_retrospectref17_Node)) Tryz.underlying45 ti_88.h rfl rfl rfl rfl rfl ⟨rfl, rfl, (by exact rfl), (by exact rfl), trivial⟩ rfl rfl) ?_
        refine sbm (C := fun x => .sl 88 3 (List.map L_retrospectref17_Node x)) 105 rfl fun z80 => ?_
        refine b fun y81 h82 => ?_
        refine o (app' 106) ?_
        apply z [31, 3, 11]
        exact sgo (eR [(1, 1), (0, 0), (101, 103), (100, 106)])
      apply z [14, 15]
      exact su (sj (hj56 _) (eR [(1, 1), (0, 0), (101, 101), (100, 100)]))
    intro t55
    apply z [13, 4, 2, 30, 31, 1, 8]
    exact rt [(0, 0), (1, 1), (50, 100), (61, 101)]
theorem c___retrospectref18_P__field {n : Nat} {x0_W} {x0_I} {x0_End} {x0_Deep} {x0_Names} {x0_Bad} : ∀ r, m___retrospectref18_P__field n x0_W x0_I x0_End x0_Deep x0_Names x0_Bad = some r → FnOk Tryz.prog 40 [.own 0] [(0, .bx 78 (.agg [sli 3 (List.map L_retrospectref16_Word x0_W), i64 x0_I, i64 x0_End, i64 x0_Deep, .own 1, i64 x0_Bad])), (1, .sl 9 1 (List.map str x0_Names))] (L_retrospectref17_Field r.1) [(0, .bx 78 (.agg [sli 3 (List.map L_retrospectref16_Word r.2.1), i64 r.2.2.1, i64 r.2.2.2.1, i64 r.2.2.2.2.1, .own 61, i64 r.2.2.2.2.2.1])), (1, .gone), (61, .sl 9 1 (List.map str r.2.2.2.2.2.2))] := by
 unfold m___retrospectref18_P__field
 refine fs Tryz.func40 fun w S0 γ hγ => ?_
 apply z [2]
 refine o (al' 100) ?_
 apply z [1, 2]
 refine so (alOw (y := 101) (ly := .agg [.own 102, .own 103]) [(102, 82, 2), (103, 45, 1)] ti_34.h (zo_agg (zos_cons (c1 := [.slice none 0 0]) (zo_own rfl) (zos_cons (c1 := [.slice none 0 0]) (zo_own rfl) (zos_nil)))) ⟨rfl, rfl, trivial⟩ rfl rfl rfl) ?_
 apply z [1, 5, 7]
 refine sloopE 0 Lp.go (fun s22 => [(0, .own 0), (2, .own 100), (3, .own 101)]) (fun s22 => [(1, .gone), (0, .bx 78 (.agg [sli 3 (List.map L_retrospectref16_Word s22.1), i64 s22.2.1, i64 s22.2.2.1, i64 s22.2.2.2.1, .own 104, i64 s22.2.2.2.2.2.1])), (104, .sl 9 1 (List.map str s22.2.2.2.2.1)), (100, .bx 34 (L_retrospectref17_Field (⟨[], []⟩ : M_retrospectref17_Field))), (101, .bx 34 (.agg [.own 102, .own 103])), (102, .sl 82 2 (List.map L_retrospectref17_Let s22.2.2.2.2.2.2)), (103, .sl 45 1 (List.map L_S_retrospectref17_Node ([] : List (List M_retrospectref17_Node))))]) (fun t20 => [(0, .own 0), (2, .own 100), (3, .own 101)]) (fun t20 => [(1, .gone), (0, .bx 78 (.agg [sli 3 (List.map L_retrospectref16_Word t20.1), i64 t20.2.1, i64 t20.2.2.1, i64 t20.2.2.2.1, .own 104, i64 t20.2.2.2.2.2.1])), (104, .sl 9 1 (List.map str t20.2.2.2.2.1)), (100, .bx 34 (L_retrospectref17_Field (⟨[], []⟩ : M_retrospectref17_Field))), (101, .bx 34 (.agg [.own 102, .own 103])), (102, .sl 82 2 (List.map L_retrospectref17_Let t20.2.2.2.2.2.2)), (103, .sl 45 1 (List.map L_S_retrospectref17_Node ([] : List (List M_retrospectref17_Node))))]) (eR [(1, 1), (0, 0), (104, 1), (100, 100), (101, 101), (102, 102), (103, 103)]) ?_ ?_
 · intro hj21 s22
   apply z [5, 2, 30]
   refine b fun r23 h24 => ?_
   refine o (cG (c___retrospectref18_P__sees _ h24) [0, 104] [] [0, 104]) ?_
   apply z [1]
   refine c ?_ ?_
   · apply z [9, 4, 7, 2, 30, 48, 33, 36, 40, 48, 33]
     refine o (stP (.agg [sli 3 (List.map L_retrospectref16_Word s22.1), i64 (wrap64 (s22.2.1 + (1 : Int))), i64 s22.2.2.1, i64 s22.2.2.2.1, .own 104, i64 s22.2.2.2.2.2.1]) [1]) ?_
     apply z [1, 5, 2, 30]
     refine b fun r25 h26 => ?_
     refine o (cG (c___retrospectref18_P__free _ h26) [0, 104] [] [0, 104]) ?_
     apply z [44, 1]
     refine c ?_ ?_
     · apply z [2, 30]
       refine b fun r27 h28 => ?_
       refine o (cG (c___retrospectref18_P__bad _ h28) [0, 104] [] [104]) ?_
       apply z [1, 2, 32, 34, 1, 8, 10, 12]
       refine sU ?_
       apply z [12, 10]
       refine fz 102 [19] [100, 101] ?_
       refine fz 103 [19] [100, 101] ?_
       exact rt [(0, 0), (1, 1), (61, 104)]
     apply z [9, 4, 5]
     refine b fun y29 h30 => ?_
     refine sd ?_
     apply zd [[], [0], [0], [0], [], [0], [0], [0], [], [], [], []]
     refine de fol ?_
     apply z [4, 2, 30, 48, 33, 36, 40, 48, 33]
     refine o (stP (.agg [sli 3 (List.map L_retrospectref16_Word s22.1), i64 (wrap64 ((wrap64 (s22.2.1 + (1 : Int))) + (1 : Int))), i64 s22.2.2.1, i64 s22.2.2.2.1, .own 104, i64 s22.2.2.2.2.2.1]) [1]) ?_
     apply z [1, 2, 30]
     refine b fun r31 h32 => ?_
     refine o (cG (c___retrospectref18_P__must _ h32) [0, 104] [] [104]) ?_
     apply z [1, 5]
     refine b fun r33 h34 => ?_
     refine b fun y35 h36 => ?_
     refine sd ?_
     apply zd [[101], [101], [], []]
     refine dd [0, 104, 105, 106] (fun _ _ _ _ => tV (cG (c___retrospectref18_P__Expr _ h34) [0, 104] [(105, 50), (106, 61)] [])) ?_
     refine dx [42, 44] [] (fun st mm ⟨a42, a44, _⟩ _ => og (bld (l := [str y29.Text, sli 3 (List.map L_retrospectref17_Node r33.1)]) pl_82.h ti_82.h zr_retrospectref17_Let ⟨_, _, _, (a42.trans rfl), rfl, rfl, rfl, (szk (k := 1) rfl rfl), ⟨_, _, _, (a44.trans rfl), rfl, rfl, rfl, (szk (k := 1) rfl rfl), rfl⟩⟩ rfl)) ?_
     refine dx [45] [107] (fun st mm ⟨a45, _⟩ ⟨g107, _⟩ => og (bsl (y := 107) (ls := List.map L_retrospectref17_Let ([(⟨y29.Text, r33.1⟩ : M_retrospectref17_Let)] : List M_retrospectref17_Let)) Tryz.underlying31 ti_82.h rfl rfl rfl rfl rfl ⟨rfl, (a45.trans rfl), (by exact rfl), (by exact rfl), trivial⟩ (g107.trans rfl) rfl)) ?_
     refine dd [102, 107, 108] (fun _ _ _ _ => app' 108) ?_
     apply zd [[101]]
     refine dd [101] (fun _ _ _ _ => stP (.agg [.own 108, .own 103]) [0]) ?_
     refine de fol ?_
     apply z [4, 2, 30]
     refine b fun r37 h38 => ?_
     refine o (cG (c___retrospectref18_P__must _ h38) [0, 106] [] [106]) ?_
     apply z [1, 6, 30, 30, 48, 33, 36, 30]
     refine so (bsl (y := 109) (ls := List.map str ([y29.Text] : List (List UInt8))) Tryz.underlying41 ti_9.h rfl rfl rfl rfl rfl ⟨rfl, rfl, (by exact rfl), (by exact rfl), trivial⟩ rfl rfl) ?_
     refine b fun y39 h40 => ?_
     refine o (app' 110) ?_
     apply z [48, 33]
     refine o (stP (.agg [sli 3 (List.map L_retrospectref16_Word r37.1), i64 r37.2.1, i64 r37.2.2.1, i64 r37.2.2.2.1, .own 110, i64 r37.2.2.2.2]) [4]) ?_
     apply z [3, 11]
     exact sgo (eR [(1, 1), (0, 0), (104, 110), (100, 100), (101, 101), (102, 108), (103, 103)])
   apply z [14, 15]
   exact su (sj (hj21 _) (eR [(1, 1), (0, 0), (104, 104), (100, 100), (101, 101), (102, 102), (103, 103)]))
 intro t20
 refine slpk ?_
 apply z [13, 4, 2, 30]
 refine b fun r41 h42 => ?_
 refine o (cG (c___retrospectref18_P__must _ h42) [0, 104] [] [104]) ?_
 apply z [1, 5]
 refine b fun r43 h44 => ?_
 refine b fun y45 h46 => ?_
 refine sd ?_
 apply zd [[101], [101], []]
 refine dd [0, 104, 105, 106] (fun _ _ _ _ => tV (cG (c___retrospectref18_P__Expr _ h44) [0, 104] [(105, 50), (106, 61)] [])) ?_
 refine dx [66] [107] (fun st mm ⟨a66, _⟩ ⟨g107, _⟩ => og (bsl (y := 107) (ls := List.map L_S_retrospectref17_Node ([r43.1] : List (List M_retrospectref17_Node))) Tryz.underlying32 ti_45.h rfl rfl rfl rfl rfl ⟨rfl, (a66.trans rfl), (by exact rfl), (by exact rfl), trivial⟩ (g107.trans rfl) rfl)) ?_
 refine dd [103, 107, 108] (fun _ _ _ _ => app' 108) ?_
 apply zd [[101]]
 refine dd [101] (fun _ _ _ _ => stP (.agg [.own 102, .own 108]) [1]) ?_
 refine de fol ?_
 apply z [4, 5, 7]
 refine sloopE 2 (fun t => t) (fun s65 => [(0, .own 0), (2, .own 100), (3, .own 101)]) (fun s65 => [(1, .gone), (0, .bx 78 (.agg [sli 3 (List.map L_retrospectref16_Word s65.1), i64 s65.2.1, i64 s65.2.2.1, i64 s65.2.2.2.1, .own 106, i64 s65.2.2.2.2.2.1])), (106, .sl 9 1 (List.map str s65.2.2.2.2.1)), (100, .bx 34 (L_retrospectref17_Field (⟨[], []⟩ : M_retrospectref17_Field))), (101, .bx 34 (.agg [.own 102, .own 108])), (102, .sl 82 2 (List.map L_retrospectref17_Let t20.2.2.2.2.2.2)), (108, .sl 45 1 (List.map L_S_retrospectref17_Node s65.2.2.2.2.2.2))]) (fun t63 => [(0, .own 0), (2, .own 100), (3, .own 101)]) (fun t63 => [(1, .gone), (0, .bx 78 (.agg [sli 3 (List.map L_retrospectref16_Word t63.1), i64 t63.2.1, i64 t63.2.2.1, i64 t63.2.2.2.1, .own 106, i64 t63.2.2.2.2.2.1])), (106, .sl 9 1 (List.map str t63.2.2.2.2.1)), (100, .bx 34 (L_retrospectref17_Field (⟨[], []⟩ : M_retrospectref17_Field))), (101, .bx 34 (.agg [.own 102, .own 108])), (102, .sl 82 2 (List.map L_retrospectref17_Let t20.2.2.2.2.2.2)), (108, .sl 45 1 (List.map L_S_retrospectref17_Node t63.2.2.2.2.2.2))]) (eR [(1, 1), (0, 0), (106, 106), (100, 100), (101, 101), (102, 102), (108, 108)]) ?_ ?_
 · intro hj64 s65
   apply z [5, 2, 30]
   refine b fun r66 h67 => ?_
   refine o (cG (c___retrospectref18_P__sees _ h67) [0, 106] [] [0, 106]) ?_
   apply z [1]
   refine c ?_ ?_
   · apply z [9, 4, 7, 2, 30, 48, 33, 36, 40, 48, 33]
     refine o (stP (.agg [sli 3 (List.map L_retrospectref16_Word s65.1), i64 (wrap64 (s65.2.1 + (1 : Int))), i64 s65.2.2.1, i64 s65.2.2.2.1, .own 106, i64 s65.2.2.2.2.2.1]) [1]) ?_
     apply z [1]
     refine b fun r68 h69 => ?_
     refine b fun y70 h71 => ?_
     refine sd ?_
     apply zd [[101], [101], []]
     refine dd [0, 106, 109, 110] (fun _ _ _ _ => tV (cG (c___retrospectref18_P__Expr _ h69) [0, 106] [(109, 50), (110, 61)] [])) ?_
     refine dx [82] [111] (fun st mm ⟨a82, _⟩ ⟨g111, _⟩ => og (bsl (y := 111) (ls := List.map L_S_retrospectref17_Node ([r68.1] : List (List M_retrospectref17_Node))) Tryz.underlying32 ti_45.h rfl rfl rfl rfl rfl ⟨rfl, (a82.trans rfl), (by exact rfl), (by exact rfl), trivial⟩ (g111.trans rfl) rfl)) ?_
     refine dd [108, 111, 112] (fun _ _ _ _ => app' 112) ?_
     apply zd [[101]]
     refine dd [101] (fun _ _ _ _ => stP (.agg [.own 102, .own 112]) [1]) ?_
     refine de fol ?_
     apply z [11]
     exact sgo (eR [(1, 1), (0, 0), (106, 110), (100, 100), (101, 101), (102, 102), (108, 112)])
   apply z [14, 15]
   exact su (sj (hj64 _) (eR [(1, 1), (0, 0), (106, 106), (100, 100), (101, 101), (102, 102), (108, 108)]))
 intro t63
 apply z [13, 4, 2, 30]
 refine b fun r72 h73 => ?_
 refine o (cG (c___retrospectref18_P__must _ h73) [0, 106] [] [106]) ?_
 apply z [1, 2, 32, 34, 1, 8]
 refine fz 102 [88] [100, 101] ?_
 refine fz 108 [88] [100, 101] ?_
 exact rt [(0, 0), (1, 1), (61, 106)]
theorem c___retrospectref18_P__over {x0_W} {x0_I} {x0_End} {x0_Deep} {x0_Names} {x0_Bad} : ∀ r, m___retrospectref18_P__over x0_W x0_I x0_End x0_Deep x0_Names x0_Bad = some r → FnOk Tryz.prog 41 [.own 0] [(0, .bx 78 (.agg [sli 3 (List.map L_retrospectref16_Word x0_W), i64 x0_I, i64 x0_End, i64 x0_Deep, .own 1, i64 x0_Bad])), (1, .sl 9 1 (List.map str x0_Names))] (.tup []) [(0, .bx 78 (.agg [sli 3 (List.map L_retrospectref16_Word r.1), i64 r.2.1, i64 r.2.2.1, i64 r.2.2.2.1, .own 1, i64 r.2.2.2.2])), (1, .sl 9 1 (List.map str x0_Names))] := by
 unfold m___retrospectref18_P__over
 refine fs Tryz.func41 fun w S0 γ hγ => ?_
 refine sjq (fun s4 => [(0, .own 0), (18, bl s4)]) (fun s4 => [(0, .bx 78 (.agg [sli 3 (List.map L_retrospectref16_Word x0_W), i64 x0_I, i64 x0_End, i64 x0_Deep, .own 1, i64 x0_Bad])), (1, .sl 9 1 (List.map str x0_Names))]) ?_ ?_
 · intro j2 hj3
   refine sif (fun hb5 => ?_) (fun hb5 => ?_)
   · refine sd ?_
     apply zd [[], [0], [0], [0], []]
     refine dd [] (fun _ _ _ _ => obk hb5 ops) ?_
     apply zd [[], [0], [0], [0], [], [0], [0], [0], [], [], []]
     refine de fol ?_
     apply z [4]
     exact sj (hj3 _) (eR [(0, 0), (1, 1)])
   refine sd ?_
   apply zd [[], [0], [0], [0], []]
   refine dd [] (fun _ _ _ _ => obk hb5 ops) ?_
   apply zd [[], [], [], [], [], [], [], [], [], [], []]
   refine de fol ?_
   apply z [4]
   exact sj (hj3 _) (eR [(0, 0), (1, 1)])
 intro s4
 refine c ?_ ?_
 · apply z [6, 30]
   refine b fun r6 h7 => ?_
   refine o (cG (c___retrospectref18_P__bad _ h7) [0, 1] [] [1]) ?_
   apply z [3]
   exact rt [(0, 0), (1, 1)]
 apply z [9]
 exact rt [(0, 0), (1, 1)]
theorem c_retrospectref18_Parse {n : Nat} {x0} : ∀ r, m_retrospectref18_Parse n x0 = some r → FnOk Tryz.prog 11 [str x0] [] (.tup [L_retrospectref17_Field r.1, i64 r.2]) [] := by
 unfold m_retrospectref18_Parse
 refine fs Tryz.func11 fun w S0 γ hγ => ?_
 apply z [2]
 refine o (al' 100) ?_
 apply z [31, 1, 2, 30]
 refine so (bsl (y := 101) (ls := List.map str ([] : List (List UInt8))) Tryz.underlying41 ti_9.h rfl rfl rfl rfl rfl trivial rfl rfl) ?_
 refine fz 101 [7] [] ?_
 refine b fun r1 h2 => ?_
 refine o (cG (c_retrospectref18_Begin _ h2) [] [(102, 70)] []) ?_
 refine o (al' 103) ?_
 apply z [34, 1, 5, 2, 33, 36, 57, 1]
 refine c ?_ ?_
 · apply z [5]
   refine sd ?_
   refine dx [] [] (fun st mm _ _ => og (bld (l := [sli 2 (List.map L_retrospectref17_Let []), sli 1 (List.map L_S_retrospectref17_Node [])]) pl_34.h ti_34.h zr_retrospectref17_Field rfl rfl)) ?_
   apply zd [[103], [103], [100], []]
   refine de fol ?_
   apply z [4, 8, 10]
   exact rt []
 apply z [9, 4, 2]
 refine b fun r3 h4 => ?_
 refine o (cG (c___retrospectref18_P__field _ h4) [103, 102] [(104, 61)] []) ?_
 refine o (al' 105) ?_
 apply z [34, 1, 2]
 refine b fun r5 h6 => ?_
 refine o (cG (c___retrospectref18_P__over _ h6) [103, 104] [] [104]) ?_
 apply z [1, 5, 2, 33, 36, 57, 1]
 refine c ?_ ?_
 · apply z [5]
   refine sd ?_
   refine dx [] [] (fun st mm _ _ => og (bld (l := [sli 2 (List.map L_retrospectref17_Let []), sli 1 (List.map L_S_retrospectref17_Node [])]) pl_34.h ti_34.h zr_retrospectref17_Field rfl rfl)) ?_
   apply zd [[103], [103], [100], []]
   refine de fol ?_
   apply z [4, 8, 10]
   exact rt []
 apply z [9, 4, 2, 32, 34, 31, 1, 8]
 exact rt []
theorem c_retrospectlaw17_Of {n : Nat} {x0} : ∀ r, m_retrospectlaw17_Of n x0 = some r → FnOk Tryz.prog 18 [sli 3 (List.map L_tree_Node x0)] [] (sli 3 (List.map L_retrospectref17_Node r)) [] := by
 unfold m_retrospectlaw17_Of
 refine fs Tryz.func18 fun w S0 γ hγ => ?_
 apply z [2]
 refine s1 (asg rfl (kLm (k := 3) L_retrospectref17_Node)) ?_
 apply z [1, 2]
 refine so (asgN (y := 100) (E := 88) (k := 3) rfl rfl) ?_
 apply z [1, 5, 2, 31, 1, 7]
 refine sloopE 0 (fun t => t) (fun s21 => [(0, sli 3 (List.map L_tree_Node x0)), (2, sli 3 (List.map L_retrospectref17_Node ([] : List M_retrospectref17_Node))), (3, .own 100), (4, i64 s21.2)]) (fun s21 => [(100, .sl 88 3 (List.map L_retrospectref17_Node s21.1))]) (fun t19 => [(2, sli 3 (List.map L_retrospectref17_Node ([] : List M_retrospectref17_Node))), (3, .own 100)]) (fun t19 => [(100, .sl 88 3 (List.map L_retrospectref17_Node t19))]) (eR [(100, 100)]) ?_ ?_
 · intro hj20 s21
   apply z [5, 2, 30, 30, 39, 46, 1]
   refine c ?_ ?_
   · apply z [9, 4, 5, 7]
     refine b fun y22 h23 => ?_
     refine b fun y24 h25 => ?_
     refine b fun y26 h27 => ?_
     refine b fun y28 h29 => ?_
     refine sd ?_
     apply zd [[], [], []]
     refine dx [12, 13] [] (fun st mm ⟨a12, a13, _⟩ _ => og (ixR (f := L_tree_Node) Tryz.underlying42 ti_69.h h23 rfl (a12.trans rfl) (a13.trans rfl))) ?_
     apply zd [[], [], [], []]
     refine dx [17, 18] [] (fun st mm ⟨a17, a18, _⟩ _ => og (ixR (f := L_tree_Node) Tryz.underlying42 ti_69.h h25 rfl (a17.trans rfl) (a18.trans rfl))) ?_
     apply zd [[], [], [], []]
     refine dx [22, 23] [] (fun st mm ⟨a22, a23, _⟩ _ => og (ixR (f := L_tree_Node) Tryz.underlying42 ti_69.h h27 rfl (a22.trans rfl) (a23.trans rfl))) ?_
     apply zd [[], []]
     refine dx [16, 21, 26] [] (fun st mm ⟨a16, a21, a26, _⟩ _ => og (bld (l := [i64 y22.Op, i64 y24.I, sli 1 (List.map u32 y26.N)]) pl_88.h ti_88.h zr_retrospectref17_Node ⟨_, _, _, (a16.trans rfl), rfl, rfl, rfl, (szk (k := 1) rfl rfl), ⟨_, _, _, (a21.trans rfl), rfl, rfl, rfl, (szk (k := 1) rfl rfl), ⟨_, _, _, (a26.trans rfl), rfl, rfl, rfl, (szk (k := 1) rfl rfl), rfl⟩⟩⟩ rfl)) ?_
     refine dx [27] [101] (fun st mm ⟨a27, _⟩ ⟨g101, _⟩ => og (bsl (y := 101) (ls := List.map L_retrospectref17_Node ([(⟨y22.Op, y24.I, y26.N⟩ : M_retrospectref17_Node)] : List M_retrospectref17_Node)) Tryz.underlying45 ti_88.h rfl rfl rfl rfl rfl ⟨rfl, (a27.trans rfl), (by exact rfl), (by exact rfl), trivial⟩ (g101.trans rfl) rfl)) ?_
     refine dd [100, 101, 102] (fun _ _ _ _ => app' 102) ?_
     apply zd [[]]
     refine de fol ?_
     apply z [11, 4, 6, 30, 40, 31, 3]
     exact sgo (eR [(100, 102)])
   apply z [14, 15]
   exact su (sj (hj20 _) (eR [(100, 100)]))
 intro t19
 apply z [13, 4, 2, 30, 31, 1, 8]
 refine fz 100 [2, 3, 30] [] ?_
 exact rt []
theorem c_retrospectlaw17_OfField {n : Nat} {x0} : ∀ r, m_retrospectlaw17_OfField n x0 = some r → FnOk Tryz.prog 13 [L_tree_Field x0] [] (L_retrospectref17_Field r) [] := by
 unfold m_retrospectlaw17_OfField
 refine fs Tryz.func13 fun w S0 γ hγ => ?_
 apply z [2]
 refine o (bx' 100) ?_
 refine o (al' 101) ?_
 apply z [1, 2]
 refine so (alOw (y := 102) (ly := .agg [.own 103, .own 104]) [(103, 82, 2), (104, 45, 1)] ti_34.h (zo_agg (zos_cons (c1 := [.slice none 0 0]) (zo_own rfl) (zos_cons (c1 := [.slice none 0 0]) (zo_own rfl) (zos_nil)))) ⟨rfl, rfl, trivial⟩ rfl rfl rfl) ?_
 apply z [1, 5, 2, 31, 1, 7]
 refine sloopE 0 (fun t => t) (fun s12 => [(1, .own 100), (2, .own 101), (3, .own 102), (4, i64 s12.2)]) (fun s12 => [(100, .bx 26 (L_tree_Field x0)), (101, .bx 34 (L_retrospectref17_Field (⟨[], []⟩ : M_retrospectref17_Field))), (102, .bx 34 (.agg [.own 103, .own 104])), (103, .sl 82 2 (List.map L_retrospectref17_Let s12.1)), (104, .sl 45 1 (List.map L_S_retrospectref17_Node ([] : List (List M_retrospectref17_Node))))]) (fun t10 => [(1, .own 100), (2, .own 101), (3, .own 102)]) (fun t10 => [(100, .bx 26 (L_tree_Field x0)), (101, .bx 34 (L_retrospectref17_Field (⟨[], []⟩ : M_retrospectref17_Field))), (102, .bx 34 (.agg [.own 103, .own 104])), (103, .sl 82 2 (List.map L_retrospectref17_Let t10)), (104, .sl 45 1 (List.map L_S_retrospectref17_Node ([] : List (List M_retrospectref17_Node))))]) (eR [(100, 100), (101, 101), (102, 102), (103, 103), (104, 104)]) ?_ ?_
 · intro hj11 s12
   apply z [5, 2, 30, 33, 36, 39, 46, 1]
   refine c ?_ ?_
   · apply z [9, 4, 5, 7]
     refine b fun y13 h14 => ?_
     refine b fun y15 h16 => ?_
     refine b fun r17 h18 => ?_
     refine b fun y19 h20 => ?_
     refine sd ?_
     apply zd [[102], [102], [100], [100], []]
     refine dx [16, 17] [] (fun st mm ⟨a16, a17, _⟩ _ => og (ixR (f := L_tree_Let) Tryz.underlying23 ti_85.h h14 rfl (a16.trans rfl) (a17.trans rfl))) ?_
     apply zd [[], [], [100], [100], []]
     refine dx [22, 23] [] (fun st mm ⟨a22, a23, _⟩ _ => og (ixR (f := L_tree_Let) Tryz.underlying23 ti_85.h h16 rfl (a22.trans rfl) (a23.trans rfl))) ?_
     apply zd [[], []]
     refine dd [] (fun _ _ _ _ => c0 (c_retrospectlaw17_Of _ h18)) ?_
     refine dx [20, 27] [] (fun st mm ⟨a20, a27, _⟩ _ => og (bld (l := [str y13.Name, sli 3 (List.map L_retrospectref17_Node r17)]) pl_82.h ti_82.h zr_retrospectref17_Let ⟨_, _, _, (a20.trans rfl), rfl, rfl, rfl, (szk (k := 1) rfl rfl), ⟨_, _, _, (a27.trans rfl), rfl, rfl, rfl, (szk (k := 1) rfl rfl), rfl⟩⟩ rfl)) ?_
     refine dx [28] [105] (fun st mm ⟨a28, _⟩ ⟨g105, _⟩ => og (bsl (y := 105) (ls := List.map L_retrospectref17_Let ([(⟨y13.Name, r17⟩ : M_retrospectref17_Let)] : List M_retrospectref17_Let)) Tryz.underlying31 ti_82.h rfl rfl rfl rfl rfl ⟨rfl, (a28.trans rfl), (by exact rfl), (by exact rfl), trivial⟩ (g105.trans rfl) rfl)) ?_
     refine dd [103, 105, 106] (fun _ _ _ _ => app' 106) ?_
     apply zd [[102]]
     refine dd [102] (fun _ _ _ _ => stP (.agg [.own 106, .own 104]) [0]) ?_
     refine de fol ?_
     apply z [11, 4, 6, 30, 40, 31, 3]
     exact sgo (eR [(100, 100), (101, 101), (102, 102), (103, 106), (104, 104)])
   apply z [14, 15]
   exact su (sj (hj11 _) (eR [(100, 100), (101, 101), (102, 102), (103, 103), (104, 104)]))
 intro t10
 apply z [13, 4, 5, 2, 31, 1, 7]
 refine sloopE 2 (fun t => t) (fun s37 => [(1, .own 100), (2, .own 101), (3, .own 102), (5, i64 s37.2)]) (fun s37 => [(100, .bx 26 (L_tree_Field x0)), (101, .bx 34 (L_retrospectref17_Field (⟨[], []⟩ : M_retrospectref17_Field))), (102, .bx 34 (.agg [.own 103, .own 104])), (103, .sl 82 2 (List.map L_retrospectref17_Let t10)), (104, .sl 45 1 (List.map L_S_retrospectref17_Node s37.1))]) (fun t35 => [(2, .own 101), (3, .own 102)]) (fun t35 => [(101, .bx 34 (L_retrospectref17_Field (⟨[], []⟩ : M_retrospectref17_Field))), (102, .bx 34 (.agg [.own 103, .own 104])), (103, .sl 82 2 (List.map L_retrospectref17_Let t10)), (104, .sl 45 1 (List.map L_S_retrospectref17_Node t35))]) (eR [(100, 100), (101, 101), (102, 102), (103, 103), (104, 104)]) ?_ ?_
 · intro hj36 s37
   apply z [5, 2, 30, 33, 36, 39, 46, 1]
   refine c ?_ ?_
   · apply z [9, 4, 5, 7]
     refine b fun y38 h39 => ?_
     refine b fun r40 h41 => ?_
     refine b fun y42 h43 => ?_
     refine sd ?_
     apply zd [[102], [102], [100], [100], [], [], []]
     refine dd [] (fun _ _ _ _ => c0 (c_retrospectlaw17_Of _ h41)) ?_
     refine dx [46] [105] (fun st mm ⟨a46, _⟩ ⟨g105, _⟩ => og (bsl (y := 105) (ls := List.map L_S_retrospectref17_Node ([r40] : List (List M_retrospectref17_Node))) Tryz.underlying32 ti_45.h rfl rfl rfl rfl rfl ⟨rfl, (a46.trans rfl), (by exact rfl), (by exact rfl), trivial⟩ (g105.trans rfl) rfl)) ?_
     refine dd [104, 105, 106] (fun _ _ _ _ => app' 106) ?_
     apply zd [[102]]
     refine dd [102] (fun _ _ _ _ => stP (.agg [.own 103, .own 106]) [1]) ?_
     refine de fol ?_
     apply z [11, 4, 6, 30, 40, 31, 3]
     exact sgo (eR [(100, 100), (101, 101), (102, 102), (103, 103), (104, 106)])
   apply z [14, 15]
   exact su (sj (hj36 _) (eR [(101, 101), (102, 102), (103, 103), (104, 104)]))
 intro t35
 apply z [13, 4, 2, 32, 34, 1, 8]
 refine fz 103 [50] [101, 102] ?_
 refine fz 104 [50] [101, 102] ?_
 exact rt []
theorem c_retrospectref17_Codes {n : Nat} {x0} : ∀ r, m_retrospectref17_Codes n x0 = some r → FnOk Tryz.prog 42 [L_retrospectref17_Field x0] [] (sli 1 (List.map L_S_retrospectref17_Node r)) [] := by
 unfold m_retrospectref17_Codes
 refine fs Tryz.func42 fun w S0 γ hγ => ?_
 apply z [2]
 refine o (bx' 100) ?_
 refine s1 (asg rfl (kLm (k := 1) L_S_retrospectref17_Node)) ?_
 apply z [1, 2]
 refine so (asgN (y := 101) (E := 45) (k := 1) rfl rfl) ?_
 apply z [1, 5, 2, 31, 1, 7]
 refine sloopE 0 (fun t => t) (fun s13 => [(1, .own 100), (2, sli 1 (List.map L_S_retrospectref17_Node ([] : List (List M_retrospectref17_Node)))), (3, .own 101), (4, i64 s13.2)]) (fun s13 => [(100, .bx 34 (L_retrospectref17_Field x0)), (101, .sl 45 1 (List.map L_S_retrospectref17_Node s13.1))]) (fun t11 => [(1, .own 100), (2, sli 1 (List.map L_S_retrospectref17_Node ([] : List (List M_retrospectref17_Node)))), (3, .own 101)]) (fun t11 => [(100, .bx 34 (L_retrospectref17_Field x0)), (101, .sl 45 1 (List.map L_S_retrospectref17_Node t11))]) (eR [(100, 100), (101, 101)]) ?_ ?_
 · intro hj12 s13
   apply z [5, 2, 30, 33, 36, 39, 46, 1]
   refine c ?_ ?_
   · apply z [9, 4, 5, 7, 6, 30, 33, 36, 30]
     refine b fun y14 h15 => ?_
     apply z [43, 92, 42]
     refine so (bsl (y := 102) (ls := List.map L_S_retrospectref17_Node ([y14.Code] : List (List M_retrospectref17_Node))) Tryz.underlying32 ti_45.h rfl rfl rfl rfl rfl ⟨rfl, rfl, (by exact rfl), (by exact rfl), trivial⟩ rfl rfl) ?_
     refine b fun y16 h17 => ?_
     refine o (app' 103) ?_
     apply z [31, 3, 11, 4, 6, 30, 40, 31, 3]
     exact sgo (eR [(100, 100), (101, 103)])
   apply z [14, 15]
   exact su (sj (hj12 _) (eR [(100, 100), (101, 101)]))
 intro t11
 apply z [13, 4, 2, 30, 33, 36]
 refine b fun y18 h19 => ?_
 refine o (app' 102) ?_
 apply z [31, 1, 8]
 refine fz 102 [2, 24] [] ?_
 exact rt []
theorem c_retrospectref02_Cmp {n : Nat} {x0} {x1} : ∀ r, m_retrospectref02_Cmp n x0 x1 = some r → FnOk Tryz.prog 46 [sli 1 (List.map u32 x0), sli 1 (List.map u32 x1)] [] (i64 r) [] := by
 unfold m_retrospectref02_Cmp
 refine fs Tryz.func46 fun w S0 γ hγ => ?_
 apply z [2, 31, 1, 5, 2, 30, 39, 30, 39, 88, 49, 31, 1, 7]
 refine sloopE 0 Lp.go (fun s15 => [(0, sli 1 (List.map u32 x0)), (1, sli 1 (List.map u32 x1)), (4, i64 (0 : Int)), (5, i64 s15)]) (fun s15 => []) (fun t13 => [(4, i64 (0 : Int))]) (fun t13 => []) eI ?_ ?_
 · intro hj14 s15
   apply z [5, 2, 30, 57, 1]
   refine c ?_ ?_
   · apply z [9, 4, 5, 7, 2, 30, 30]
     refine cb (ca c_retrospectref02_At) fun r16 => ?_
     apply z [31, 1, 2, 30, 30]
     refine cb (ca c_retrospectref02_At) fun r18 => ?_
     apply z [31, 1, 5, 2, 30, 30, 68, 1]
     refine c ?_ ?_
     · apply z [2, 31, 1, 8, 10, 12, 10]
       refine sU ?_
       apply z [12, 10]
       exact rt []
     apply z [9, 4, 2, 30, 30, 69, 1]
     refine c ?_ ?_
     · apply z [2, 31, 1, 8, 12, 10]
       refine sU ?_
       apply z [12, 10]
       exact rt []
     apply z [9, 11, 4, 6, 30, 49, 31, 3]
     exact sgo eI
   apply z [14, 15]
   exact su (sj (hj14 _) eI)
 intro t13
 refine slpk ?_
 apply z [13, 4, 2, 31, 1, 8]
 exact rt []
theorem c_retrospectref17_Same {n : Nat} {x0} {x1} : ∀ r, m_retrospectref17_Same n x0 x1 = some r → FnOk Tryz.prog 17 [sli 3 (List.map L_retrospectref17_Node x0), sli 3 (List.map L_retrospectref17_Node x1)] [] (bl r) [] := by
 unfold m_retrospectref17_Same
 refine fs Tryz.func17 fun w S0 γ hγ => ?_
 apply z [2, 31, 1, 5, 2, 30, 39, 30, 39, 56, 1]
 refine c ?_ ?_
 · apply z [2, 31, 1, 8, 10]
   exact rt []
 apply z [9, 4, 5, 2, 31, 1, 7]
 refine sloopE 0 Lp.go (fun s75 => [(0, sli 3 (List.map L_retrospectref17_Node x0)), (1, sli 3 (List.map L_retrospectref17_Node x1)), (4, bl false), (5, i64 s75)]) (fun s75 => []) (fun t73 => [(4, bl false)]) (fun t73 => []) eI ?_ ?_
 · intro hj74 s75
   apply z [5, 2, 30, 30, 39, 46, 1]
   refine c ?_ ?_
   · apply z [9, 4, 5, 7]
     refine sjq (fun s94 => [(0, sli 3 (List.map L_retrospectref17_Node x0)), (1, sli 3 (List.map L_retrospectref17_Node x1)), (4, bl false), (5, i64 s75), (54, bl s94)]) (fun s94 => []) ?_ ?_
     · intro j92 hj93
       refine b fun y95 h96 => ?_
       refine b fun y97 h98 => ?_
       refine sif (fun hb99 => ?_) (fun hb99 => ?_)
       · refine sd ?_
         apply zd [[], [], [], [], [], [], [], [], [], [], []]
         refine dd [] (fun _ _ _ _ => obk hb99 ops) ?_
         apply zd [[], [], [], [], [], [], [], [], [], [], [], [], [], [], [], [], [], [], [], [], [], [], [], [], [], []]
         refine de fol ?_
         apply z [4]
         exact sj (hj93 _) eI
       refine b fun y100 h101 => ?_
       refine b fun y102 h103 => ?_
       refine sif (fun hb104 => ?_) (fun hb104 => ?_)
       · refine sd ?_
         apply zd [[], []]
         refine dx [17, 18] [] (fun st mm ⟨a17, a18, _⟩ _ => og (ixR (f := L_retrospectref17_Node) Tryz.underlying45 ti_88.h h96 rfl (a17.trans rfl) (a18.trans rfl))) ?_
         apply zd [[], [], [], []]
         refine dx [22, 23] [] (fun st mm ⟨a22, a23, _⟩ _ => og (ixR (f := L_retrospectref17_Node) Tryz.underlying45 ti_88.h h98 rfl (a22.trans rfl) (a23.trans rfl))) ?_
         apply zd [[], [], []]
         refine dd [] (fun _ _ _ _ => obk hb99 ops) ?_
         apply zd [[], []]
         refine dx [28, 29, 30] [] (fun st mm ⟨a28, a29, a30, _⟩ _ => ogG 28 rfl (a28.trans rfl) (ixR (f := L_retrospectref17_Node) Tryz.underlying45 ti_88.h h101 rfl (a29.trans rfl) (a30.trans rfl))) ?_
         apply zd [[], [], [], []]
         refine dx [28, 34, 35] [] (fun st mm ⟨a28, a34, a35, _⟩ _ => ogG 28 rfl (a28.trans rfl) (ixR (f := L_retrospectref17_Node) Tryz.underlying45 ti_88.h h103 rfl (a34.trans rfl) (a35.trans rfl))) ?_
         apply zd [[], [], [], []]
         refine dd [] (fun _ _ _ _ => obk hb104 ops) ?_
         apply zd [[], [], [], [], [], [], [], [], [], [], [], [], []]
         refine de fol ?_
         apply z [4]
         exact sj (hj93 _) eI
       refine b fun y105 h106 => ?_
       refine b fun y107 h108 => ?_
       refine b fun r109 h110 => ?_
       refine sd ?_
       apply zd [[], []]
       refine dx [17, 18] [] (fun st mm ⟨a17, a18, _⟩ _ => og (ixR (f := L_retrospectref17_Node) Tryz.underlying45 ti_88.h h96 rfl (a17.trans rfl) (a18.trans rfl))) ?_
       apply zd [[], [], [], []]
       refine dx [22, 23] [] (fun st mm ⟨a22, a23, _⟩ _ => og (ixR (f := L_retrospectref17_Node) Tryz.underlying45 ti_88.h h98 rfl (a22.trans rfl) (a23.trans rfl))) ?_
       apply zd [[], [], []]
       refine dd [] (fun _ _ _ _ => obk hb99 ops) ?_
       apply zd [[], []]
       refine dx [28, 29, 30] [] (fun st mm ⟨a28, a29, a30, _⟩ _ => ogG 28 rfl (a28.trans rfl) (ixR (f := L_retrospectref17_Node) Tryz.underlying45 ti_88.h h101 rfl (a29.trans rfl) (a30.trans rfl))) ?_
       apply zd [[], [], [], []]
       refine dx [28, 34, 35] [] (fun st mm ⟨a28, a34, a35, _⟩ _ => ogG 28 rfl (a28.trans rfl) (ixR (f := L_retrospectref17_Node) Tryz.underlying45 ti_88.h h103 rfl (a34.trans rfl) (a35.trans rfl))) ?_
       apply zd [[], [], [], []]
       refine dd [] (fun _ _ _ _ => obk hb104 ops) ?_
       apply zd [[], []]
       refine dx [41, 42, 43] [] (fun st mm ⟨a41, a42, a43, _⟩ _ => ogG 41 rfl (a41.trans rfl) (ixR (f := L_retrospectref17_Node) Tryz.underlying45 ti_88.h h106 rfl (a42.trans rfl) (a43.trans rfl))) ?_
       apply zd [[], [], [], []]
       refine dx [41, 47, 48] [] (fun st mm ⟨a41, a47, a48, _⟩ _ => ogG 41 rfl (a41.trans rfl) (ixR (f := L_retrospectref17_Node) Tryz.underlying45 ti_88.h h108 rfl (a47.trans rfl) (a48.trans rfl))) ?_
       apply zd [[], []]
       refine dG [] (fun _ _ _ _ => c0 (c_retrospectref02_Cmp _ h110)) ?_
       apply zd [[], []]
       refine de fol ?_
       apply z [4]
       exact sj (hj93 _) eI
     intro s94
     refine c ?_ ?_
     · apply z [2, 31, 1, 8, 12, 10]
       refine sU ?_
       apply z [12, 10]
       exact rt []
     apply z [9, 11, 4, 6, 30, 40, 31, 3]
     exact sgo eI
   apply z [14, 15]
   exact su (sj (hj74 _) eI)
 intro t73
 refine slpk ?_
 apply z [13, 4, 2, 31, 1, 8]
 exact rt []
theorem c_retrospectref17_SameField {n : Nat} {x0} {x1} : ∀ r, m_retrospectref17_SameField n x0 x1 = some r → FnOk Tryz.prog 12 [L_retrospectref17_Field x0, L_retrospectref17_Field x1] [] (bl r) [] := by
 unfold m_retrospectref17_SameField
 refine fs Tryz.func12 fun w S0 γ hγ => ?_
 apply z [2]
 refine o (bx' 100) ?_
 refine o (bx' 101) ?_
 apply z [31, 1, 5]
 refine sjq (fun s3 => [(2, .own 100), (3, .own 101), (4, bl false), (24, bl s3)]) (fun s3 => [(100, .bx 34 (L_retrospectref17_Field x0)), (101, .bx 34 (L_retrospectref17_Field x1))]) ?_ ?_
 · intro j1 hj2
   apply z [6, 33, 36, 39, 33, 36, 39, 56, 30]
   refine sifd 16 rfl ?_ ?_
   · apply z [23, 23, 23, 23, 23, 23, 23, 38, 1]
     exact sj (hj2 _) (eR [(100, 100), (101, 101)])
   apply z [22, 22, 22, 22, 22, 22, 22, 37, 1]
   exact sj (hj2 _) (eR [(100, 100), (101, 101)])
 intro s3
 refine c ?_ ?_
 · apply z [2, 31, 1, 8, 10]
   exact rt []
 apply z [9, 4, 5, 2, 31, 1, 7]
 refine sloopE 0 Lp.go (fun s16 => [(2, .own 100), (3, .own 101), (4, bl false), (5, i64 s16)]) (fun s16 => [(100, .bx 34 (L_retrospectref17_Field x0)), (101, .bx 34 (L_retrospectref17_Field x1))]) (fun t14 => [(2, .own 100), (3, .own 101), (4, bl false)]) (fun t14 => [(100, .bx 34 (L_retrospectref17_Field x0)), (101, .bx 34 (L_retrospectref17_Field x1))]) (eR [(100, 100), (101, 101)]) ?_ ?_
 · intro hj15 s16
   apply z [5, 2, 30, 33, 36, 39, 46, 1]
   refine c ?_ ?_
   · apply z [9, 4, 5, 7, 5]
     refine b fun y17 h18 => ?_
     refine b fun y19 h20 => ?_
     refine sd ?_
     apply zd [[100], [100], [], [], [], [], [101], [101], [], [], [], [], []]
     refine de fol ?_
     apply z [4]
     refine c ?_ ?_
     · apply z [2, 31, 1, 8, 12, 10]
       refine sU ?_
       apply z [12, 10]
       exact rt []
     apply z [9, 11, 4, 6, 30, 40, 31, 3]
     exact sgo (eR [(100, 100), (101, 101)])
   apply z [14, 15]
   exact su (sj (hj15 _) (eR [(100, 100), (101, 101)]))
 intro t14
 refine slpk ?_
 apply z [13, 4, 2, 32]
 refine cb (ca c_retrospectref17_Codes) fun r21 => ?_
 apply z [31, 1, 2, 32]
 refine cb (ca c_retrospectref17_Codes) fun r23 => ?_
 apply z [31, 1, 5, 2, 31, 1, 7]
 refine sloopE 2 Lp.go (fun s41 => [(4, bl false), (6, sli 1 (List.map L_S_retrospectref17_Node r21)), (7, sli 1 (List.map L_S_retrospectref17_Node r23)), (8, i64 s41)]) (fun s41 => []) (fun t39 => [(4, bl false)]) (fun t39 => []) (eR []) ?_ ?_
 · intro hj40 s41
   apply z [5, 2, 30, 30, 39, 46, 1]
   refine c ?_ ?_
   · apply z [9, 4, 5, 7, 5]
     refine b fun y42 h43 => ?_
     refine b fun y44 h45 => ?_
     refine b fun r46 h47 => ?_
     refine sd ?_
     apply zd [[], [], [], [], [], [], [], []]
     refine dd [] (fun _ _ _ _ => c0 (c_retrospectref17_Same _ h47)) ?_
     apply zd [[]]
     refine de fol ?_
     apply z [4]
     refine c ?_ ?_
     · apply z [2, 31, 1, 8, 12, 10]
       refine sU ?_
       apply z [12, 10]
       exact rt []
     apply z [9, 11, 4, 6, 30, 40, 31, 3]
     exact sgo eI
   apply z [14, 15]
   exact su (sj (hj40 _) eI)
 intro t39
 refine slpk ?_
 apply z [13, 4, 2, 31, 1, 8]
 exact rt []
theorem c_retrospectlaw18_Fault {x0} : ∀ r, m_retrospectlaw18_Fault x0 = some r → FnOk Tryz.prog 14 [i64 x0] [] (L_api_Fault r) [] := by
 unfold m_retrospectlaw18_Fault
 refine fs Tryz.func14 fun w S0 γ hγ => ?_
 apply z [2]
 refine o (al' 100) ?_
 apply z [1, 5, 2, 30, 46, 1]
 refine c ?_ ?_
 · apply z [2]
   refine s1 (bld (l := [i64 0, i64 0, i64 0, i64 0]) pl_28.h ti_28.h zr_api_Fault rfl rfl) ?_
   apply z [34, 1, 8, 10]
   exact rt []
 apply z [9, 4, 2, 30]
 refine s1 (bld (l := [i64 (1 : Int), i64 0, i64 0, i64 x0]) pl_28.h ti_28.h zr_api_Fault ⟨_, _, _, (kI (x := 1) rfl), rfl, rfl, rfl, (szk (k := 1) rfl rfl), ⟨_, _, _, rfl, rfl, rfl, rfl, (szk (k := 1) rfl rfl), rfl⟩⟩ rfl) ?_
 apply z [34, 1, 8]
 exact rt []
theorem c_retrospectlaw18_ParseFields {n : Nat} {x0} : ∀ r, m_retrospectlaw18_ParseFields n x0 = some r → FnOk Tryz.prog 3 [str x0] [] (bl r) [] := by
 unfold m_retrospectlaw18_ParseFields
 refine fs Tryz.func3 fun w S0 γ hγ => ?_
 apply z [2, 31, 1, 5, 2, 30, 54, 47, 1]
 refine c ?_ ?_
 · apply z [2]
   refine cb (ca c_retrospectlaw18_works) fun r1 => ?_
   apply z [31, 1, 8, 10]
   exact rt []
 apply z [9, 4, 2, 30]
 refine cb (ca c_parse_Parse) fun r3 => ?_
 apply z [30, 35, 35]
 refine o (al' 100) ?_
 refine o (al' 101) ?_
 apply z [34, 34, 1, 2, 30]
 refine cb (ca c_retrospectref18_Parse) fun r5 => ?_
 apply z [30, 35, 35]
 refine o (al' 102) ?_
 apply z [34, 31, 1]
 refine sjq (fun s19 => [(2, bl s19)]) (fun s19 => []) ?_ ?_
 · intro j17 hj18
   refine b fun r20 h21 => ?_
   refine b fun r22 h23 => ?_
   refine sif (fun hb24 => ?_) (fun hb24 => ?_)
   · refine b fun r25 h26 => ?_
     refine sif (fun hb27 => ?_) (fun hb27 => ?_)
     · refine b fun r28 h29 => ?_
       refine sd ?_
       apply zd [[100]]
       refine dd [] (fun _ _ _ _ => c0 (c_retrospectlaw17_OfField _ h21)) ?_
       apply zd [[102]]
       refine dd [] (fun _ _ _ _ => c0 (c_retrospectref17_SameField _ h23)) ?_
       refine dd [] (fun _ _ _ _ => obk hb24 ops) ?_
       apply zd [[101], []]
       refine dG [] (fun _ _ _ _ => c0 (c_retrospectlaw18_Fault _ h26)) ?_
       refine dx [25, 26, 28] [] (fun st mm ⟨a25, a26, a28, _⟩ _ => ogG 25 rfl (a25.trans rfl) (eqA (p := (r3.2 : M_api_Fault)) (q := (r25 : M_api_Fault)) eq_28_2 rfl eg_28 rfl (a26.trans rfl) (a28.trans rfl))) ?_
       apply zd [[]]
       refine dd [] (fun _ _ _ _ => obk hb27 ops) ?_
       refine dG [] (fun _ _ _ _ => c0 (c_retrospectlaw18_works _ h29)) ?_
       apply zd [[], []]
       refine de fol ?_
       apply z [4]
       exact sj (hj18 _) (eR [])
     refine sd ?_
     apply zd [[100]]
     refine dd [] (fun _ _ _ _ => c0 (c_retrospectlaw17_OfField _ h21)) ?_
     apply zd [[102]]
     refine dd [] (fun _ _ _ _ => c0 (c_retrospectref17_SameField _ h23)) ?_
     refine dd [] (fun _ _ _ _ => obk hb24 ops) ?_
     apply zd [[101], []]
     refine dG [] (fun _ _ _ _ => c0 (c_retrospectlaw18_Fault _ h26)) ?_
     refine dx [25, 26, 28] [] (fun st mm ⟨a25, a26, a28, _⟩ _ => ogG 25 rfl (a25.trans rfl) (eqA (p := (r3.2 : M_api_Fault)) (q := (r25 : M_api_Fault)) eq_28_2 rfl eg_28 rfl (a26.trans rfl) (a28.trans rfl))) ?_
     apply zd [[]]
     refine dd [] (fun _ _ _ _ => obk hb27 ops) ?_
     apply zd [[], [], []]
     refine de fol ?_
     apply z [4]
     exact sj (hj18 _) (eR [])
   refine sd ?_
   apply zd [[100]]
   refine dd [] (fun _ _ _ _ => c0 (c_retrospectlaw17_OfField _ h21)) ?_
   apply zd [[102]]
   refine dd [] (fun _ _ _ _ => c0 (c_retrospectref17_SameField _ h23)) ?_
   refine dd [] (fun _ _ _ _ => obk hb24 ops) ?_
   apply zd [[], [], [], [], [], [], [], [], []]
   refine de fol ?_
   apply z [4]
   exact sj (hj18 _) (eR [])
 intro s19
 apply z [8]
 exact rt []
theorem c_parse_Expr_1_opan {x0} {x1} {e : M_api_Fault} {u : Value} (hu : PlainV (L_api_Fault e) u) : ∀ r, m_parse_Expr_1_opan x0 x1 e = some r → FnD Tryz.prog 43 [.own 0, .own 1] [(0, .bx 28 (L_api_Fault x0)), (1, .bx 42 (sli 3 (List.map L_tree_Node x1)))] (.panicking (pan 28 u)) (.panicking (panR 28 u)) [(0, .bx 28 (L_api_Fault r.1)), (1, .bx 42 (sli 3 (List.map L_tree_Node r.2)))] := by
 unfold m_parse_Expr_1_opan
 refine fsC Tryz.func43 rfl rfl (lyv := .ifc 28 (L_api_Fault e)) rec_pan (pv_ifc hu) (fun r1 h2 w S0 γ => cG (c_parse_caught_o1_api_Fault _ h2) [0] [] []) fun r1 w S0 γ hγ => ?_
 refine c ?_ ?_
 · apply z [6]
   refine so (stB2 (ly2 := sli 3 (List.map L_tree_Node ([] : List M_tree_Node))) [] (by exact rfl) rfl (by exact rfl) sh_42.h (by exact rfl) (by exact rfl) (by exact rfl) rfl (.inr ⟨rfl, rfl, _, _, rfl⟩) (kLm (k := 3) L_tree_Node)) ?_
   apply z [3]
   exact rt [(0, 0), (1, 1)]
 apply z [9]
 exact rt [(0, 0), (1, 1)]
end Go.Proofs.YtpomhkkhdojpiaaGreatDoor
