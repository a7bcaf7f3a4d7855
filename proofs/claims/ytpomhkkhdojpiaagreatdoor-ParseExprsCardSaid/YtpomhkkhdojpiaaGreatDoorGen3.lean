import Derived.Test.YtpomhkkhdojpiaaGreatDoorGen2
set_option maxRecDepth 100000
set_option maxHeartbeats 4000000
namespace Go.Proofs.YtpomhkkhdojpiaaGreatDoor
open Go Go.RowKit
theorem c_retrospectref16_Scan {n : Nat} {x0} : ∀ r, m_retrospectref16_Scan n x0 = some r → FnOk Tryz.prog 71 [str x0] [] (.tup [sli 3 (List.map L_retrospectref16_Word r.1), i64 r.2]) [] := by
 unfold m_retrospectref16_Scan
 refine fs Tryz.func71 fun w S0 γ hγ => ?_
 apply z [2]
 refine s1 (asg rfl (kLm (k := 3) L_retrospectref16_Word)) ?_
 apply z [31, 1, 5, 2, 30, 54, 47, 1]
 refine c ?_ ?_
 · apply z [2]
   refine so (bsl (y := 100) (ls := List.map L_retrospectref16_Word ([] : List M_retrospectref16_Word)) Tryz.underlying76 ti_125.h rfl rfl rfl rfl rfl trivial rfl rfl) ?_
   apply z [31, 31, 1, 8, 10]
   refine fz 100 [2, 13] [] ?_
   exact rt []
 apply z [9, 4, 2]
 refine so (asgN (y := 100) (E := 125) (k := 3) rfl rfl) ?_
 apply z [1, 2, 31, 1, 5, 2, 31, 1, 7]
 refine sloopE 0 Lp.go (fun s407 => [(0, str x0), (2, sli 3 (List.map L_retrospectref16_Word ([] : List M_retrospectref16_Word))), (3, i64 (0 : Int)), (4, .own 100), (5, bl s407.2.1), (6, i64 s407.2.2)]) (fun s407 => [(100, .sl 125 3 (List.map L_retrospectref16_Word s407.1))]) (fun t405 => [(2, sli 3 (List.map L_retrospectref16_Word ([] : List M_retrospectref16_Word))), (3, i64 (0 : Int)), (4, .own 100)]) (fun t405 => [(100, .sl 125 3 (List.map L_retrospectref16_Word t405))]) (eR [(100, 100)]) ?_ ?_
 · intro hj406 s407
   apply z [5, 2, 30, 30, 54, 46, 1]
   refine c ?_ ?_
   · apply z [9, 4]
     refine sjq (fun s509 => [(0, str x0), (2, sli 3 (List.map L_retrospectref16_Word ([] : List M_retrospectref16_Word))), (3, i64 (0 : Int)), (4, .own 100), (5, bl s509.2), (6, i64 s407.2.2)]) (fun s509 => [(100, .sl 125 3 (List.map L_retrospectref16_Word s509.1))]) ?_ ?_
     · intro j507 hj508
       apply z [7, 2, 30, 30]
       refine b fun y510 h511 => ?_
       apply z [90, 31, 1]
       refine sjq (fun s514 => [(0, str x0), (2, sli 3 (List.map L_retrospectref16_Word ([] : List M_retrospectref16_Word))), (3, i64 (0 : Int)), (4, .own 100), (5, bl s514), (6, i64 s407.2.2), (7, u8 y510)]) (fun s514 => [(100, .sl 125 3 (List.map L_retrospectref16_Word s407.1))]) ?_ ?_
       · intro j512 hj513
         apply z [2, 30, 66, 1]
         refine c ?_ ?_
         · apply z [6, 31, 1]
           exact sj (hj513 _) (eR [(100, 100)])
         apply z [9, 4]
         exact sj (hj513 _) (eR [(100, 100)])
       intro s514
       refine sjq (fun s517 => [(0, str x0), (2, sli 3 (List.map L_retrospectref16_Word ([] : List M_retrospectref16_Word))), (3, i64 (0 : Int)), (4, .own 100), (5, bl s517), (6, i64 s407.2.2), (7, u8 y510)]) (fun s517 => [(100, .sl 125 3 (List.map L_retrospectref16_Word s407.1))]) ?_ ?_
       · intro j515 hj516
         apply z [2, 30, 66, 1]
         refine c ?_ ?_
         · apply z [6, 31, 1]
           exact sj (hj516 _) (eR [(100, 100)])
         apply z [9, 4]
         exact sj (hj516 _) (eR [(100, 100)])
       intro s517
       apply z [5]
       refine sjq (fun s520 => [(0, str x0), (2, sli 3 (List.map L_retrospectref16_Word ([] : List M_retrospectref16_Word))), (3, i64 (0 : Int)), (4, .own 100), (5, bl s517), (6, i64 s407.2.2), (7, u8 y510), (43, bl s520)]) (fun s520 => [(100, .sl 125 3 (List.map L_retrospectref16_Word s407.1))]) ?_ ?_
       · intro j518 hj519
         apply z [6, 30, 30]
         refine sifd 28 rfl ?_ ?_
         · apply z [23, 23, 38, 30, 23, 23, 38, 30, 23, 23, 38, 30, 23, 23, 38, 1]
           exact sj (hj519 _) (eR [(100, 100)])
         apply z [22, 22, 37, 30]
         refine sifd 32 rfl ?_ ?_
         · apply z [23, 23, 38, 30, 23, 23, 38, 30, 23, 23, 38, 1]
           exact sj (hj519 _) (eR [(100, 100)])
         apply z [22, 22, 37, 30]
         refine sifd 36 rfl ?_ ?_
         · apply z [23, 23, 38, 30, 23, 23, 38, 1]
           exact sj (hj519 _) (eR [(100, 100)])
         apply z [22, 22, 37, 30]
         refine sifd 40 rfl ?_ ?_
         · apply z [23, 23, 38, 1]
           exact sj (hj519 _) (eR [(100, 100)])
         apply z [22, 22, 37, 1]
         exact sj (hj519 _) (eR [(100, 100)])
       intro s520
       refine c ?_ ?_
       · apply z [14, 15, 13, 4]
         exact sj (hj508 _) (eR [(100, 100)])
       apply z [9, 4, 2, 30, 55, 31, 1]
       refine sjq (fun s560 => [(0, str x0), (2, sli 3 (List.map L_retrospectref16_Word ([] : List M_retrospectref16_Word))), (3, i64 (0 : Int)), (4, .own 100), (5, bl s517), (6, i64 s407.2.2)]) (fun s560 => [(100, .sl 125 3 (List.map L_retrospectref16_Word s560))]) ?_ ?_
       · intro j558 hj559
         refine sjq (fun s573 => [(0, str x0), (2, sli 3 (List.map L_retrospectref16_Word ([] : List M_retrospectref16_Word))), (3, i64 (0 : Int)), (4, .own 100), (5, bl s517), (6, i64 s407.2.2), (7, u8 y510), (8, i64 (s407.1.length : Int)), (75, bl s573)]) (fun s573 => [(100, .sl 125 3 (List.map L_retrospectref16_Word s407.1))]) ?_ ?_
         · intro j571 hj572
           refine sif (fun hb574 => ?_) (fun hb574 => ?_)
           · refine b fun y575 h576 => ?_
             refine b fun y577 h578 => ?_
             refine sif (fun hb579 => ?_) (fun hb579 => ?_)
             · refine b fun y580 h581 => ?_
               refine b fun r582 h583 => ?_
               refine sd ?_
               apply zd [[], []]
               refine dd [] (fun _ _ _ _ => obk hb574 ops) ?_
               apply zd [[], [], []]
               refine dx [48, 49, 51] [100] (fun st mm ⟨a48, a49, a51, _⟩ ⟨g100, _⟩ => ogG 48 rfl (a48.trans rfl) (ixO (f := L_retrospectref16_Word) (g100.trans rfl) Tryz.underlying76 ti_125.h h576 rfl (a49.trans rfl) (a51.trans rfl))) ?_
               apply zd [[]]
               refine dx [48, 53] [100] (fun st mm ⟨a48, a53, _⟩ ⟨g100, _⟩ => ogG 48 rfl (a48.trans rfl) (ldO (f := L_retrospectref16_Word) [2] (g100.trans rfl) (getI_ix h576) (by exact rfl) (by exact rfl) sh_3.h (by exact rfl) (by exact rfl) rfl (a53.trans rfl))) ?_
               apply zd [[], [], []]
               refine dx [48, 55, 57] [100] (fun st mm ⟨a48, a55, a57, _⟩ ⟨g100, _⟩ => ogG 48 rfl (a48.trans rfl) (ixO (f := L_retrospectref16_Word) (g100.trans rfl) Tryz.underlying76 ti_125.h h578 rfl (a55.trans rfl) (a57.trans rfl))) ?_
               apply zd [[]]
               refine dx [48, 59] [100] (fun st mm ⟨a48, a59, _⟩ ⟨g100, _⟩ => ogG 48 rfl (a48.trans rfl) (ldO (f := L_retrospectref16_Word) [1] (g100.trans rfl) (getI_ix h578) (by exact rfl) (by exact rfl) sh_9.h (by exact rfl) (by exact rfl) rfl (a59.trans rfl))) ?_
               apply zd [[], [], [], [], []]
               refine dd [] (fun _ _ _ _ => obk hb579 ops) ?_
               apply zd [[], [], []]
               refine dx [66, 67, 69] [100] (fun st mm ⟨a66, a67, a69, _⟩ ⟨g100, _⟩ => ogG 66 rfl (a66.trans rfl) (ixO (f := L_retrospectref16_Word) (g100.trans rfl) Tryz.underlying76 ti_125.h h581 rfl (a67.trans rfl) (a69.trans rfl))) ?_
               apply zd [[]]
               refine dx [66, 71] [100] (fun st mm ⟨a66, a71, _⟩ ⟨g100, _⟩ => ogG 66 rfl (a66.trans rfl) (ldO (f := L_retrospectref16_Word) [0] (g100.trans rfl) (getI_ix h581) (by exact rfl) (by exact rfl) sh_3.h (by exact rfl) (by exact rfl) rfl (a71.trans rfl))) ?_
               apply zd [[]]
               refine dG [] (fun _ _ _ _ => c0 (c_retrospectref16_more _ h583)) ?_
               apply zd [[]]
               refine de fol ?_
               apply z [4]
               exact sj (hj572 _) (eR [(100, 100)])
             refine sd ?_
             apply zd [[], []]
             refine dd [] (fun _ _ _ _ => obk hb574 ops) ?_
             apply zd [[], [], []]
             refine dx [48, 49, 51] [100] (fun st mm ⟨a48, a49, a51, _⟩ ⟨g100, _⟩ => ogG 48 rfl (a48.trans rfl) (ixO (f := L_retrospectref16_Word) (g100.trans rfl) Tryz.underlying76 ti_125.h h576 rfl (a49.trans rfl) (a51.trans rfl))) ?_
             apply zd [[]]
             refine dx [48, 53] [100] (fun st mm ⟨a48, a53, _⟩ ⟨g100, _⟩ => ogG 48 rfl (a48.trans rfl) (ldO (f := L_retrospectref16_Word) [2] (g100.trans rfl) (getI_ix h576) (by exact rfl) (by exact rfl) sh_3.h (by exact rfl) (by exact rfl) rfl (a53.trans rfl))) ?_
             apply zd [[], [], []]
             refine dx [48, 55, 57] [100] (fun st mm ⟨a48, a55, a57, _⟩ ⟨g100, _⟩ => ogG 48 rfl (a48.trans rfl) (ixO (f := L_retrospectref16_Word) (g100.trans rfl) Tryz.underlying76 ti_125.h h578 rfl (a55.trans rfl) (a57.trans rfl))) ?_
             apply zd [[]]
             refine dx [48, 59] [100] (fun st mm ⟨a48, a59, _⟩ ⟨g100, _⟩ => ogG 48 rfl (a48.trans rfl) (ldO (f := L_retrospectref16_Word) [1] (g100.trans rfl) (getI_ix h578) (by exact rfl) (by exact rfl) sh_9.h (by exact rfl) (by exact rfl) rfl (a59.trans rfl))) ?_
             apply zd [[], [], [], [], []]
             refine dd [] (fun _ _ _ _ => obk hb579 ops) ?_
             apply zd [[], [], [], [], [], [], [], [], []]
             refine de fol ?_
             apply z [4]
             exact sj (hj572 _) (eR [(100, 100)])
           refine sd ?_
           apply zd [[], []]
           refine dd [] (fun _ _ _ _ => obk hb574 ops) ?_
           apply zd [[], [], [], [], [], [], [], [], [], [], [], [], [], [], [], [], [], [], [], [], [], [], [], [], [], [], []]
           refine de fol ?_
           apply z [4]
           exact sj (hj572 _) (eR [(100, 100)])
         intro s573
         refine c ?_ ?_
         · refine b fun y584 h585 => ?_
           refine b fun y586 h587 => ?_
           refine b fun y588 h589 => ?_
           refine b fun y590 h591 => ?_
           refine sd ?_
           apply zd [[], [], []]
           refine dx [76, 78] [100] (fun st mm ⟨a76, a78, _⟩ ⟨g100, _⟩ => og (ixO (f := L_retrospectref16_Word) (g100.trans rfl) Tryz.underlying76 ti_125.h h585 rfl (a76.trans rfl) (a78.trans rfl))) ?_
           apply zd [[]]
           refine dx [80] [100] (fun st mm ⟨a80, _⟩ ⟨g100, _⟩ => og (ldO (f := L_retrospectref16_Word) [1] (g100.trans rfl) (getI_ix h585) (by exact rfl) (by exact rfl) sh_9.h (by exact rfl) (by exact rfl) rfl (a80.trans rfl))) ?_
           apply zd [[], [], [], []]
           refine dx [82, 83, 85] [] (fun st mm ⟨a82, a83, a85, _⟩ _ => og (slS h587 Tryz.underlying9 rfl (a82.trans rfl) (bnd (a83.trans rfl)) (bnd (a85.trans rfl)))) ?_
           apply zd [[]]
           refine dx [76, 78] [100] (fun st mm ⟨a76, a78, _⟩ ⟨g100, _⟩ => og (ixO (f := L_retrospectref16_Word) (g100.trans rfl) Tryz.underlying76 ti_125.h h591 rfl (a76.trans rfl) (a78.trans rfl))) ?_
           apply zd [[]]
           refine dx [89, 87] [100] (fun st mm ⟨a89, a87, _⟩ ⟨g100, _⟩ => og (stO (f := L_retrospectref16_Word) (⟨y590.Kind, y588, y590.At⟩ : M_retrospectref16_Word) [1] (g100.trans rfl) (getI_ix h591) (by exact rfl) (by exact rfl) (by exact rfl) (by exact rfl) sh_9.h (by exact rfl) (by exact rfl) (by exact rfl) (a89.trans rfl) (a87.trans rfl))) ?_
           refine de fol ?_
           apply z [4]
           exact sj (hj559 _) (eR [(100, 100)])
         refine b fun r592 h593 => ?_
         refine b fun y594 h595 => ?_
         refine b fun y596 h597 => ?_
         refine sd ?_
         apply zd [[], []]
         refine dd [] (fun _ _ _ _ => c0 (c_retrospectref16_Kind _ h593)) ?_
         apply zd [[], [], [], []]
         refine dx [93, 94, 96] [] (fun st mm ⟨a93, a94, a96, _⟩ _ => og (slS h595 Tryz.underlying9 rfl (a93.trans rfl) (bnd (a94.trans rfl)) (bnd (a96.trans rfl)))) ?_
         apply zd [[]]
         refine dx [92, 97, 98] [] (fun st mm ⟨a92, a97, a98, _⟩ _ => og (bld (l := [i64 r592, str y594, i64 s407.2.2]) pl_125.h ti_125.h zr_retrospectref16_Word ⟨_, _, _, (a92.trans rfl), rfl, rfl, rfl, (szk (k := 1) rfl rfl), ⟨_, _, _, (a97.trans rfl), rfl, rfl, rfl, (szk (k := 1) rfl rfl), ⟨_, _, _, (a98.trans rfl), rfl, rfl, rfl, (szk (k := 1) rfl rfl), rfl⟩⟩⟩ rfl)) ?_
         refine dx [99] [101] (fun st mm ⟨a99, _⟩ ⟨g101, _⟩ => og (bsl (y := 101) (ls := List.map L_retrospectref16_Word ([(⟨r592, y594, s407.2.2⟩ : M_retrospectref16_Word)] : List M_retrospectref16_Word)) Tryz.underlying76 ti_125.h rfl rfl rfl rfl rfl ⟨rfl, (a99.trans rfl), (by exact rfl), (by exact rfl), trivial⟩ (g101.trans rfl) rfl)) ?_
         refine dd [100, 101, 102] (fun _ _ _ _ => app' 102) ?_
         apply zd [[]]
         refine de fol ?_
         apply z [4]
         exact sj (hj559 _) (eR [(100, 102)])
       intro s560
       apply z [2, 30, 30, 55, 49]
       refine b fun y598 h599 => ?_
       apply z [50, 51]
       refine o (al' 103) ?_
       apply z [34, 1]
       refine sjq (fun s605 => [(0, str x0), (2, sli 3 (List.map L_retrospectref16_Word ([] : List M_retrospectref16_Word))), (3, i64 (0 : Int)), (4, .own 100), (5, bl s517), (6, i64 s407.2.2), (119, bl s605)]) (fun s605 => [(100, .sl 125 3 (List.map L_retrospectref16_Word s560))]) ?_ ?_
       · intro j603 hj604
         refine sif (fun hb606 => ?_) (fun hb606 => ?_)
         · refine sd ?_
           apply zd [[103], [103], []]
           refine dd [] (fun _ _ _ _ => obk hb606 ops) ?_
           apply zd [[], [], [], [], [], [], [], []]
           refine de fol ?_
           apply z [4]
           exact sj (hj604 _) (eR [(100, 100)])
         refine b fun r607 h608 => ?_
         refine sd ?_
         apply zd [[103], [103], []]
         refine dd [] (fun _ _ _ _ => obk hb606 ops) ?_
         apply zd [[103], [103], [], [103], [103]]
         refine dG [] (fun _ _ _ _ => c0 (c_retrospectref16_Most _ h608)) ?_
         apply zd [[], []]
         refine de fol ?_
         apply z [4]
         exact sj (hj604 _) (eR [(100, 100)])
       intro s605
       refine c ?_ ?_
       · apply z [2]
         refine so (bsl (y := 104) (ls := List.map L_retrospectref16_Word ([] : List M_retrospectref16_Word)) Tryz.underlying76 ti_125.h rfl rfl rfl rfl rfl trivial rfl rfl) ?_
         apply z [30, 31, 31, 1, 8, 12, 10]
         refine sU ?_
         apply z [12, 10]
         refine fz 104 [2, 120] [] ?_
         exact rt []
       apply z [9, 11, 4]
       exact sj (hj508 _) (eR [(100, 100)])
     intro s509
     apply z [6, 30, 40, 31, 3]
     exact sgo (eR [(100, 100)])
   apply z [14, 15]
   exact su (sj (hj406 _) (eR [(100, 100)]))
 intro t405
 refine slpk ?_
 apply z [13, 4, 2, 30, 31, 31, 1, 8]
 refine fz 100 [2, 4, 122] [] ?_
 exact rt []
theorem c_retrospectref18_Begin {n : Nat} {x0} {x1} : ∀ r, m_retrospectref18_Begin n x0 x1 = some r → FnOk Tryz.prog 39 [str x0, sli 1 (List.map str x1)] [] (.agg [sli 3 (List.map L_retrospectref16_Word r.1), i64 r.2.1, i64 r.2.2.1, i64 r.2.2.2.1, .own 70, i64 r.2.2.2.2.2]) [(70, .sl 9 1 (List.map str r.2.2.2.2.1))] := by
 unfold m_retrospectref18_Begin
 refine fs Tryz.func39 fun w S0 γ hγ => ?_
 apply z [2]
 refine o (al' 100) ?_
 apply z [1, 2, 30]
 refine cb (ca c_retrospectref16_Scan) fun r1 => ?_
 apply z [30, 35, 35, 31, 31, 1, 2, 30, 30, 54]
 refine so (bsl (y := 101) (ls := List.map str ([] : List (List UInt8))) Tryz.underlying41 ti_9.h rfl rfl rfl rfl rfl trivial rfl rfl) ?_
 apply z [30]
 refine b fun y3 h4 => ?_
 refine o (app' 102) ?_
 apply z [30]
 refine s1 (bld (l := [sli 3 (List.map L_retrospectref16_Word r1.1), i64 0, i64 (x0.length : Int), i64 0, .own 102, i64 r1.2]) pl_78.h ti_78.h zr_retrospectref18_P ⟨_, _, _, rfl, rfl, rfl, rfl, (szk (k := 1) rfl rfl), ⟨_, _, _, rfl, rfl, rfl, rfl, (szk (k := 1) rfl rfl), ⟨_, _, _, rfl, rfl, rfl, rfl, (szk (k := 1) rfl rfl), ⟨_, _, _, rfl, rfl, rfl, rfl, (szk (k := 1) rfl rfl), rfl⟩⟩⟩⟩ rfl) ?_
 apply z [34, 1, 8]
 exact rt [(70, 102)]
theorem c___retrospectref18_P__sees {x0_W} {x0_I} {x0_End} {x0_Deep} {x0_Names} {x0_Bad} {x1} : ∀ r, m___retrospectref18_P__sees x0_W x0_I x0_End x0_Deep x0_Names x0_Bad x1 = some r → FnOk Tryz.prog 72 [.own 0, str x1] [(0, .bx 78 (.agg [sli 3 (List.map L_retrospectref16_Word x0_W), i64 x0_I, i64 x0_End, i64 x0_Deep, .own 1, i64 x0_Bad])), (1, .sl 9 1 (List.map str x0_Names))] (bl r) [(0, .bx 78 (.agg [sli 3 (List.map L_retrospectref16_Word x0_W), i64 x0_I, i64 x0_End, i64 x0_Deep, .own 1, i64 x0_Bad])), (1, .sl 9 1 (List.map str x0_Names))] := by
 unfold m___retrospectref18_P__sees
 refine fs Tryz.func72 fun w S0 γ hγ => ?_
 apply z [2, 31, 1]
 refine sjq (fun s7 => [(4, bl s7)]) (fun s7 => [(0, .bx 78 (.agg [sli 3 (List.map L_retrospectref16_Word x0_W), i64 x0_I, i64 x0_End, i64 x0_Deep, .own 1, i64 x0_Bad])), (1, .sl 9 1 (List.map str x0_Names))]) ?_ ?_
 · intro j5 hj6
   refine sif (fun hb8 => ?_) (fun hb8 => ?_)
   · refine sif (fun hb9 => ?_) (fun hb9 => ?_)
     · refine b fun y10 h11 => ?_
       refine sd ?_
       apply zd [[], [0], [0], [0], []]
       refine dd [] (fun _ _ _ _ => obk hb8 ops) ?_
       apply zd [[], [0], [0], [0], [], [0], [0], [0], [], [], []]
       refine dd [] (fun _ _ _ _ => obk hb9 ops) ?_
       apply zd [[], [0], [0], [0], [], [0], [0], [0], [], [], [], [], [], [], []]
       refine de fol ?_
       apply z [4]
       exact sj (hj6 _) (eR [(0, 0), (1, 1)])
     refine sd ?_
     apply zd [[], [0], [0], [0], []]
     refine dd [] (fun _ _ _ _ => obk hb8 ops) ?_
     apply zd [[], [0], [0], [0], [], [0], [0], [0], [], [], []]
     refine dd [] (fun _ _ _ _ => obk hb9 ops) ?_
     apply zd [[], [], [], [], [], [], [], [], [], [], [], [], [], [], []]
     refine de fol ?_
     apply z [4]
     exact sj (hj6 _) (eR [(0, 0), (1, 1)])
   refine sd ?_
   apply zd [[], [0], [0], [0], []]
   refine dd [] (fun _ _ _ _ => obk hb8 ops) ?_
   apply zd [[], [], [], [], [], [], [], [], [], [], [], [], [], [], [], [], [], [], [], [], [], [], [], [], [], [], []]
   refine de fol ?_
   apply z [4]
   exact sj (hj6 _) (eR [(0, 0), (1, 1)])
 intro s7
 apply z [8]
 exact rt [(0, 0), (1, 1)]
theorem c___retrospectref18_P__kind {x0_W} {x0_I} {x0_End} {x0_Deep} {x0_Names} {x0_Bad} : ∀ r, m___retrospectref18_P__kind x0_W x0_I x0_End x0_Deep x0_Names x0_Bad = some r → FnOk Tryz.prog 111 [.own 0] [(0, .bx 78 (.agg [sli 3 (List.map L_retrospectref16_Word x0_W), i64 x0_I, i64 x0_End, i64 x0_Deep, .own 1, i64 x0_Bad])), (1, .sl 9 1 (List.map str x0_Names))] (i64 r) [(0, .bx 78 (.agg [sli 3 (List.map L_retrospectref16_Word x0_W), i64 x0_I, i64 x0_End, i64 x0_Deep, .own 1, i64 x0_Bad])), (1, .sl 9 1 (List.map str x0_Names))] := by
 unfold m___retrospectref18_P__kind
 refine fs Tryz.func111 fun w S0 γ hγ => ?_
 apply z [2, 31, 1, 5]
 refine sjq (fun s4 => [(0, .own 0), (2, i64 (0 : Int)), (19, bl s4)]) (fun s4 => [(0, .bx 78 (.agg [sli 3 (List.map L_retrospectref16_Word x0_W), i64 x0_I, i64 x0_End, i64 x0_Deep, .own 1, i64 x0_Bad])), (1, .sl 9 1 (List.map str x0_Names))]) ?_ ?_
 · intro j2 hj3
   refine sif (fun hb5 => ?_) (fun hb5 => ?_)
   · refine sd ?_
     apply zd [[], [0], [0], [0], []]
     refine dd [] (fun _ _ _ _ => obk hb5 ops) ?_
     apply zd [[], [0], [0], [0], [], [0], [0], [0], [], [], []]
     refine de fol ?_
     apply z [4]
     exact sj (hj3 _) (eR [(0, 0), (1, 1)])
   refine sd ?_
   apply zd [[], [0], [0], [0], []]
   refine dd [] (fun _ _ _ _ => obk hb5 ops) ?_
   apply zd [[], [], [], [], [], [], [], [], [], [], []]
   refine de fol ?_
   apply z [4]
   exact sj (hj3 _) (eR [(0, 0), (1, 1)])
 intro s4
 refine c ?_ ?_
 · apply z [5]
   refine b fun y6 h7 => ?_
   refine sd ?_
   apply zd [[], [0], [0], [0], [], [0], [0], [0], [], [], [], []]
   refine de fol ?_
   apply z [4, 8, 10]
   exact rt [(0, 0), (1, 1)]
 apply z [9, 4, 2, 31, 1, 8]
 exact rt [(0, 0), (1, 1)]
theorem c___retrospectref18_P__free {x0_W} {x0_I} {x0_End} {x0_Deep} {x0_Names} {x0_Bad} : ∀ r, m___retrospectref18_P__free x0_W x0_I x0_End x0_Deep x0_Names x0_Bad = some r → FnOk Tryz.prog 73 [.own 0] [(0, .bx 78 (.agg [sli 3 (List.map L_retrospectref16_Word x0_W), i64 x0_I, i64 x0_End, i64 x0_Deep, .own 1, i64 x0_Bad])), (1, .sl 9 1 (List.map str x0_Names))] (bl r) [(0, .bx 78 (.agg [sli 3 (List.map L_retrospectref16_Word x0_W), i64 x0_I, i64 x0_End, i64 x0_Deep, .own 1, i64 x0_Bad])), (1, .sl 9 1 (List.map str x0_Names))] := by
 unfold m___retrospectref18_P__free
 refine fs Tryz.func73 fun w S0 γ hγ => ?_
 apply z [2, 31, 1]
 refine sjq (fun s13 => [(2, bl s13)]) (fun s13 => [(0, .bx 78 (.agg [sli 3 (List.map L_retrospectref16_Word x0_W), i64 x0_I, i64 x0_End, i64 x0_Deep, .own 1, i64 x0_Bad])), (1, .sl 9 1 (List.map str x0_Names))]) ?_ ?_
 · intro j11 hj12
   apply z [6, 30]
   refine b fun r14 h15 => ?_
   refine o (cG (c___retrospectref18_P__kind _ h15) [0, 1] [] [0, 1]) ?_
   apply z [41, 30]
   refine sifd 6 rfl ?_ ?_
   · apply z [22]
     refine b fun r16 h17 => ?_
     refine og' (cG (c___retrospectref18_P__sees _ h17) [0, 1] [] [0, 1]) ?_
     apply z [22, 38, 30]
     refine sifd 11 rfl ?_ ?_
     · apply z [22]
       refine b fun r18 h19 => ?_
       refine og' (cG (c___retrospectref18_P__sees _ h19) [0, 1] [] [0, 1]) ?_
       apply z [22, 38, 30]
       refine sifd 16 rfl ?_ ?_
       · apply z [22]
         refine b fun r20 h21 => ?_
         refine og' (cG (c___retrospectref18_P__sees _ h21) [0, 1] [] [0, 1]) ?_
         apply z [22, 38, 30]
         refine sifd 21 rfl ?_ ?_
         · apply z [22]
           refine b fun r22 h23 => ?_
           refine og' (cG (c___retrospectref18_P__sees _ h23) [0, 1] [] [0, 1]) ?_
           apply z [22, 38, 31, 1]
           exact sj (hj12 _) (eR [(0, 0), (1, 1)])
         apply z [23, 23, 23, 37, 31, 1]
         exact sj (hj12 _) (eR [(0, 0), (1, 1)])
       apply z [23, 23, 23, 37, 30, 23, 23, 23, 37, 31, 1]
       exact sj (hj12 _) (eR [(0, 0), (1, 1)])
     apply z [23, 23, 23, 37, 30, 23, 23, 23, 37, 30, 23, 23, 23, 37, 31, 1]
     exact sj (hj12 _) (eR [(0, 0), (1, 1)])
   apply z [23, 23, 23, 37, 30, 23, 23, 23, 37, 30, 23, 23, 23, 37, 30, 23, 23, 23, 37, 31, 1]
   exact sj (hj12 _) (eR [(0, 0), (1, 1)])
 intro s13
 apply z [8]
 exact rt [(0, 0), (1, 1)]
theorem c___retrospectref18_P__bad {x0_W} {x0_I} {x0_End} {x0_Deep} {x0_Names} {x0_Bad} : ∀ r, m___retrospectref18_P__bad x0_W x0_I x0_End x0_Deep x0_Names x0_Bad = some r → FnOk Tryz.prog 74 [.own 0] [(0, .bx 78 (.agg [sli 3 (List.map L_retrospectref16_Word x0_W), i64 x0_I, i64 x0_End, i64 x0_Deep, .own 1, i64 x0_Bad])), (1, .sl 9 1 (List.map str x0_Names))] (.tup []) [(0, .bx 78 (.agg [sli 3 (List.map L_retrospectref16_Word r.1), i64 r.2.1, i64 r.2.2.1, i64 r.2.2.2.1, .own 1, i64 r.2.2.2.2])), (1, .sl 9 1 (List.map str x0_Names))] := by
 unfold m___retrospectref18_P__bad
 refine fs Tryz.func74 fun w S0 γ hγ => ?_
 apply z [5, 2, 30, 48, 33, 36, 57, 1]
 refine c ?_ ?_
 · apply z [8, 10]
   exact rt [(0, 0), (1, 1)]
 apply z [9, 4, 2, 30, 30, 48, 33, 36, 48, 33]
 refine o (stP (.agg [sli 3 (List.map L_retrospectref16_Word x0_W), i64 x0_I, i64 x0_End, i64 x0_Deep, .own 1, i64 x0_End]) [5]) ?_
 apply z [1, 5]
 refine sd ?_
 apply zd [[], [0], [0], [0], [], [0], [0], [0], [], []]
 refine de fol ?_
 apply z [4]
 refine c ?_ ?_
 · refine b fun y1 h2 => ?_
   refine sd ?_
   apply zd [[], [], [0], [0], [0], [], [0], [0], [0], [], [], [], [0], [0]]
   refine dd [0] (fun _ _ _ _ => stP (.agg [sli 3 (List.map L_retrospectref16_Word x0_W), i64 x0_I, i64 x0_End, i64 x0_Deep, .own 1, i64 y1.At]) [5]) ?_
   refine de fol ?_
   exact rt [(0, 0), (1, 1)]
 apply z [9]
 exact rt [(0, 0), (1, 1)]
theorem c___retrospectref18_P__must {x0_W} {x0_I} {x0_End} {x0_Deep} {x0_Names} {x0_Bad} {x1} : ∀ r, m___retrospectref18_P__must x0_W x0_I x0_End x0_Deep x0_Names x0_Bad x1 = some r → FnOk Tryz.prog 75 [.own 0, str x1] [(0, .bx 78 (.agg [sli 3 (List.map L_retrospectref16_Word x0_W), i64 x0_I, i64 x0_End, i64 x0_Deep, .own 1, i64 x0_Bad])), (1, .sl 9 1 (List.map str x0_Names))] (.tup []) [(0, .bx 78 (.agg [sli 3 (List.map L_retrospectref16_Word r.1), i64 r.2.1, i64 r.2.2.1, i64 r.2.2.2.1, .own 1, i64 r.2.2.2.2])), (1, .sl 9 1 (List.map str x0_Names))] := by
 unfold m___retrospectref18_P__must
 refine fs Tryz.func75 fun w S0 γ hγ => ?_
 apply z [2, 30, 30]
 refine b fun r1 h2 => ?_
 refine o (cG (c___retrospectref18_P__sees _ h2) [0, 1] [] [0, 1]) ?_
 apply z [1]
 refine c ?_ ?_
 · apply z [6, 30, 48, 33, 36, 40, 48, 33]
   refine o (stP (.agg [sli 3 (List.map L_retrospectref16_Word x0_W), i64 (wrap64 (x0_I + (1 : Int))), i64 x0_End, i64 x0_Deep, .own 1, i64 x0_Bad]) [1]) ?_
   apply z [3]
   exact rt [(0, 0), (1, 1)]
 apply z [6, 30]
 refine b fun r3 h4 => ?_
 refine o (cG (c___retrospectref18_P__bad _ h4) [0, 1] [] [1]) ?_
 apply z [3]
 exact rt [(0, 0), (1, 1)]
theorem c___retrospectref18_P__level {x0_W} {x0_I} {x0_End} {x0_Deep} {x0_Names} {x0_Bad} : ∀ r, m___retrospectref18_P__level x0_W x0_I x0_End x0_Deep x0_Names x0_Bad = some r → FnOk Tryz.prog 138 [.own 0] [(0, .bx 78 (.agg [sli 3 (List.map L_retrospectref16_Word x0_W), i64 x0_I, i64 x0_End, i64 x0_Deep, .own 1, i64 x0_Bad])), (1, .sl 9 1 (List.map str x0_Names))] (.tup []) [(0, .bx 78 (.agg [sli 3 (List.map L_retrospectref16_Word r.1), i64 r.2.1, i64 r.2.2.1, i64 r.2.2.2.1, .own 1, i64 r.2.2.2.2])), (1, .sl 9 1 (List.map str x0_Names))] := by
 unfold m___retrospectref18_P__level
 refine fs Tryz.func138 fun w S0 γ hγ => ?_
 refine sjq (fun s5 => [(0, .own 0)]) (fun s5 => [(0, .bx 78 (.agg [sli 3 (List.map L_retrospectref16_Word s5.1), i64 s5.2.1, i64 s5.2.2.1, i64 s5.2.2.2.1, .own 1, i64 s5.2.2.2.2])), (1, .sl 9 1 (List.map str x0_Names))]) ?_ ?_
 · intro j3 hj4
   apply z [2, 30, 48, 33, 36, 57, 1]
   refine c ?_ ?_
   · apply z [6, 30]
     refine b fun r6 h7 => ?_
     refine o (cG (c___retrospectref18_P__bad _ h7) [0, 1] [] [1]) ?_
     apply z [1]
     exact sj (hj4 _) (eR [(0, 0), (1, 1)])
   apply z [9, 4]
   exact sj (hj4 _) (eR [(0, 0), (1, 1)])
 intro s5
 apply z [2, 30, 48, 33, 36, 40, 48, 33]
 refine o (stP (.agg [sli 3 (List.map L_retrospectref16_Word s5.1), i64 s5.2.1, i64 s5.2.2.1, i64 (wrap64 (s5.2.2.2.1 + (1 : Int))), .own 1, i64 s5.2.2.2.2]) [3]) ?_
 apply z [1, 6, 30, 48, 33, 36, 40, 48, 33]
 refine o (stP (.agg [sli 3 (List.map L_retrospectref16_Word s5.1), i64 (wrap64 (s5.2.1 + (1 : Int))), i64 s5.2.2.1, i64 (wrap64 (s5.2.2.2.1 + (1 : Int))), .own 1, i64 s5.2.2.2.2]) [1]) ?_
 apply z [3]
 exact rt [(0, 0), (1, 1)]
theorem c_retrospectref02_Norm {n : Nat} {x0} : ∀ r, m_retrospectref02_Norm n x0 = some r → FnOk Tryz.prog 89 [sli 1 (List.map u32 x0)] [] (.own 50) [(50, .sl 127 1 (List.map u32 r))] := by
 unfold m_retrospectref02_Norm
 refine fs Tryz.func89 fun w S0 γ hγ => ?_
 apply z [2]
 refine s1 (asg rfl (kLm (k := 1) u32)) ?_
 apply z [1, 2, 30, 39, 31, 1, 5, 7]
 refine sloopE 0 (fun t => t) (fun s19 => [(0, sli 1 (List.map u32 x0)), (2, sli 1 (List.map u32 ([] : List Nat))), (3, i64 s19)]) (fun s19 => []) (fun t17 => [(0, sli 1 (List.map u32 x0)), (2, sli 1 (List.map u32 ([] : List Nat))), (3, i64 t17)]) (fun t17 => []) eI ?_ ?_
 · intro hj18 s19
   apply z [5]
   refine sjq (fun s24 => [(0, sli 1 (List.map u32 x0)), (2, sli 1 (List.map u32 ([] : List Nat))), (3, i64 s19), (15, bl s24)]) (fun s24 => []) ?_ ?_
   · intro j22 hj23
     apply z [6, 30, 47, 30]
     refine sifd 8 rfl ?_ ?_
     · apply z [22, 22, 22]
       refine b fun y25 h26 => ?_
       apply z [22, 22, 22, 38, 1]
       exact sj (hj23 _) eI
     apply z [23, 23, 23, 23, 23, 23, 37, 1]
     exact sj (hj23 _) eI
   intro s24
   refine c ?_ ?_
   · apply z [9, 4, 7, 6, 30, 49, 31, 3, 11]
     exact sgo eI
   apply z [14, 15]
   exact su (sj (hj18 _) eI)
 intro t17
 apply z [13, 4, 2]
 refine so (bsl (y := 100) (ls := List.map u32 ([] : List Nat)) Tryz.underlying67 ti_127.h rfl rfl rfl rfl rfl trivial rfl rfl) ?_
 apply z [30, 30]
 refine b fun y27 h28 => ?_
 refine s1 (slR (f := u32) h28 Tryz.underlying67 ti_127.h rfl rfl bnd0 (bnd rfl)) ?_
 refine b fun y29 h30 => ?_
 refine o (app' 101) ?_
 apply z [31, 1, 8]
 exact rt [(50, 101)]
theorem c_retrospectref04_Mul {n : Nat} {x0} {x1} : ∀ r, m_retrospectref04_Mul n x0 x1 = some r → FnOk Tryz.prog 179 [sli 1 (List.map u32 x0), sli 1 (List.map u32 x1)] [] (sli 1 (List.map u32 r)) [] := by
 unfold m_retrospectref04_Mul
 refine fs Tryz.func179 fun w S0 γ hγ => ?_
 apply z [2]
 refine s1 (asg rfl (kLm (k := 1) u32)) ?_
 apply z [1, 2, 30, 39, 30, 39, 40]
 refine b fun y1 h2 => ?_
 refine so (mks (y := 100) (f := u32) h2 Tryz.underlying67 ti_127.h zr_u32 rfl rfl rfl rfl rfl rfl) ?_
 apply z [31, 1, 5, 2, 31, 1, 7]
 refine sloopE 0 (fun t => t) (fun s77 => [(0, sli 1 (List.map u32 x0)), (1, sli 1 (List.map u32 x1)), (4, sli 1 (List.map u32 ([] : List Nat))), (5, .own 100), (6, i64 s77.2)]) (fun s77 => [(100, .sl 127 1 (List.map u32 s77.1))]) (fun t75 => [(4, sli 1 (List.map u32 ([] : List Nat))), (5, .own 100)]) (fun t75 => [(100, .sl 127 1 (List.map u32 t75))]) (eR [(100, 100)]) ?_ ?_
 · intro hj76 s77
   apply z [5, 2, 30, 30, 39, 46, 1]
   refine c ?_ ?_
   · apply z [9, 4, 5, 7, 2, 31, 1, 5, 2, 31, 1, 7]
     refine sloopE 2 (fun t => t) (fun s92 => [(0, sli 1 (List.map u32 x0)), (1, sli 1 (List.map u32 x1)), (4, sli 1 (List.map u32 ([] : List Nat))), (5, .own 100), (6, i64 s77.2), (7, u64 s92.2.1), (8, i64 s92.2.2)]) (fun s92 => [(100, .sl 127 1 (List.map u32 s92.1))]) (fun t90 => [(0, sli 1 (List.map u32 x0)), (1, sli 1 (List.map u32 x1)), (4, sli 1 (List.map u32 ([] : List Nat))), (5, .own 100), (6, i64 s77.2), (7, u64 t90.2)]) (fun t90 => [(100, .sl 127 1 (List.map u32 t90.1))]) (eR [(100, 100)]) ?_ ?_
     · intro hj91 s92
       apply z [5, 2, 30, 30, 39, 46, 1]
       refine c ?_ ?_
       · apply z [9, 4, 5, 7, 5]
         refine b fun y93 h94 => ?_
         refine b fun y95 h96 => ?_
         refine b fun y97 h98 => ?_
         refine sd ?_
         apply zd [[], [], [], [], [], [], [], [], [], [], [], [], [], [], [], [], [100], [100], [], [], [], []]
         refine de fol ?_
         refine sbn (F := u64) 7 rfl fun z99 => ?_
         refine sbn (F := u64) 47 rfl fun z100 => ?_
         apply z [4, 2, 30, 30, 30, 40, 30, 81, 60]
         refine b fun y101 h102 => ?_
         apply z [50, 53]
         refine sbm (C := fun x => .sl 127 1 (List.map u32 x)) 100 rfl fun z103 => ?_
         apply z [1, 6, 30, 80, 31, 3, 11, 4, 6, 30, 40, 31, 3]
         exact sgo (eR [(100, 100)])
       apply z [14, 15]
       exact su (sj (hj91 _) (eR [(100, 100)]))
     intro t90
     apply z [13, 4, 6, 30, 30, 30, 39, 40, 30, 60]
     refine b fun y104 h105 => ?_
     apply z [50, 53]
     refine sbm (C := fun x => .sl 127 1 (List.map u32 x)) 100 rfl fun z106 => ?_
     apply z [3, 11, 4, 6, 30, 40, 31, 3]
     exact sgo (eR [(100, 100)])
   apply z [14, 15]
   exact su (sj (hj76 _) (eR [(100, 100)]))
 intro t75
 apply z [13, 4, 2, 30]
 refine b fun r107 h108 => ?_
 refine so (callL (em := [(101, .sl 127 1 (List.map u32 r107))]) (res' := .own 101) [100] [] [(101, 50)] [(101, 50)] rfl (c_retrospectref02_Norm _ h108) ⟨pls_map (f := u32) (fun _ => pl_u32) _, trivial⟩ (pl_own) ⟨.inr ⟨100, rfl, .inl ⟨rfl, .inl ⟨_, _, _, rfl, ifs_map (f := u32) (fun _ => if_u32) t75, rfl⟩⟩⟩, trivial⟩ (MiF.get (mi := []) trivial) trivial rfl ⟨rfl, trivial⟩ ⟨.inl rfl, trivial⟩ rfl ⟨.inl ⟨_, _, rfl, rfl, rc_sl (ifs_map (f := u32) (fun _ => if_u32) r107)⟩, trivial⟩ trivial ⟨⟨_, rfl⟩, trivial⟩ (rn_own rfl) rfl) ?_
 apply z [31, 1, 8]
 refine fz 101 [4, 67] [] ?_
 exact rt []
theorem c_retrospectref02_At {x0} {x1} : ∀ r, m_retrospectref02_At x0 x1 = some r → FnOk Tryz.prog 79 [sli 1 (List.map u32 x0), i64 x1] [] (u32 r) [] := by
 unfold m_retrospectref02_At
 refine fs Tryz.func79 fun w S0 γ hγ => ?_
 apply z [2, 31, 1, 5, 2, 30, 30, 39, 46, 1]
 refine c ?_ ?_
 · apply z [2, 30, 30]
   refine b fun y1 h2 => ?_
   apply z [43, 42, 31, 1, 8, 10]
   exact rt []
 apply z [9, 4, 2, 31, 1, 8]
 exact rt []
theorem c_retrospectref02_Add {n : Nat} {x0} {x1} : ∀ r, m_retrospectref02_Add n x0 x1 = some r → FnOk Tryz.prog 120 [sli 1 (List.map u32 x0), sli 1 (List.map u32 x1)] [] (sli 1 (List.map u32 r)) [] := by
 unfold m_retrospectref02_Add
 refine fs Tryz.func120 fun w S0 γ hγ => ?_
 apply z [2]
 refine s1 (asg rfl (kLm (k := 1) u32)) ?_
 apply z [1, 2, 30, 39, 30, 39, 88, 40, 31, 1, 2, 30]
 refine b fun y1 h2 => ?_
 refine so (mks (y := 100) (f := u32) h2 Tryz.underlying67 ti_127.h zr_u32 rfl rfl rfl rfl rfl rfl) ?_
 apply z [31, 1, 2, 31, 1, 5, 2, 31, 1, 7]
 refine sloopE 0 (fun t => t) (fun s24 => [(0, sli 1 (List.map u32 x0)), (1, sli 1 (List.map u32 x1)), (4, sli 1 (List.map u32 ([] : List Nat))), (5, i64 (wrap64 ((max (x0.length : Int) (x1.length : Int)) + (1 : Int)))), (6, .own 100), (7, u64 s24.2.1), (8, i64 s24.2.2)]) (fun s24 => [(100, .sl 127 1 (List.map u32 s24.1))]) (fun t22 => [(4, sli 1 (List.map u32 ([] : List Nat))), (6, .own 100)]) (fun t22 => [(100, .sl 127 1 (List.map u32 t22))]) (eR [(100, 100)]) ?_ ?_
 · intro hj23 s24
   apply z [5, 2, 30, 30, 46]
   refine sbn (F := bl) 19 rfl fun z25 => ?_
   apply z [1]
   refine c ?_ ?_
   · apply z [9, 4, 5, 7, 2, 30, 30, 30]
     refine cb (ca c_retrospectref02_At) fun r26 => ?_
     apply z [59, 30, 30]
     refine cb (ca c_retrospectref02_At) fun r28 => ?_
     apply z [59, 61, 61]
     refine sbn (F := u64) 32 rfl fun z30 => ?_
     apply z [31, 1, 2, 30, 30, 30, 81, 60]
     refine b fun y31 h32 => ?_
     apply z [50, 53, 1, 6, 30, 80, 31, 3, 11, 4, 6, 30, 40, 31, 3]
     exact sgo (eR [(100, 100)])
   apply z [14, 15]
   exact su (sj (hj23 _) (eR [(100, 100)]))
 intro t22
 apply z [13, 4, 2, 30]
 refine b fun r33 h34 => ?_
 refine so (callL (em := [(101, .sl 127 1 (List.map u32 r33))]) (res' := .own 101) [100] [] [(101, 50)] [(101, 50)] rfl (c_retrospectref02_Norm _ h34) ⟨pls_map (f := u32) (fun _ => pl_u32) _, trivial⟩ (pl_own) ⟨.inr ⟨100, rfl, .inl ⟨rfl, .inl ⟨_, _, _, rfl, ifs_map (f := u32) (fun _ => if_u32) t22, rfl⟩⟩⟩, trivial⟩ (MiF.get (mi := []) trivial) trivial rfl ⟨rfl, trivial⟩ ⟨.inl rfl, trivial⟩ rfl ⟨.inl ⟨_, _, rfl, rfl, rc_sl (ifs_map (f := u32) (fun _ => if_u32) r33)⟩, trivial⟩ trivial ⟨⟨_, rfl⟩, trivial⟩ (rn_own rfl) rfl) ?_
 apply z [31, 1, 8]
 refine fz 101 [4, 42] [] ?_
 exact rt []
theorem c_retrospectref07_Read {n : Nat} {x0} : ∀ r, m_retrospectref07_Read n x0 = some r → FnOk Tryz.prog 158 [str x0] [] (sli 1 (List.map u32 r)) [] := by
 unfold m_retrospectref07_Read
 refine fs Tryz.func158 fun w S0 γ hγ => ?_
 apply z [2]
 refine s1 (asg rfl (kLm (k := 1) u32)) ?_
 apply z [1, 2]
 refine so (bsl (y := 100) (ls := List.map u32 ([] : List Nat)) Tryz.underlying67 ti_127.h rfl rfl rfl rfl rfl trivial rfl rfl) ?_
 apply z [31, 1, 5, 2, 31, 1, 7]
 refine fz 100 [3, 5] [] ?_
 refine sloopE 0 (fun t => t) (fun s28 => [(0, str x0), (2, sli 1 (List.map u32 ([] : List Nat))), (3, sli 1 (List.map u32 s28.1)), (4, i64 s28.2)]) (fun s28 => []) (fun t26 => [(2, sli 1 (List.map u32 ([] : List Nat))), (3, sli 1 (List.map u32 t26))]) (fun t26 => []) (eR []) ?_ ?_
 · intro hj27 s28
   apply z [5, 2, 30, 30, 54, 46, 1]
   refine c ?_ ?_
   · apply z [9, 4, 5, 7]
     refine b fun r29 h30 => ?_
     refine b fun y31 h32 => ?_
     refine b fun r33 h34 => ?_
     refine sd ?_
     apply zd [[]]
     refine dx [] [101] (fun st mm _ ⟨g101, _⟩ => og (toV (bsl (y := 101) (ls := List.map u32 ([10] : List Nat)) Tryz.underlying67 ti_127.h rfl rfl rfl rfl rfl ⟨rfl, (k32 (x := 10) rfl), (by exact rfl), (by exact rfl), trivial⟩ (g101.trans rfl) rfl) (ifs_map (f := u32) (fun _ => if_u32) ([10] : List Nat)))) ?_
     refine dd [] (fun _ _ _ _ => c0 (c_retrospectref04_Mul _ h30)) ?_
     apply zd [[], [], [], [], []]
     refine dx [19] [102] (fun st mm ⟨a19, _⟩ ⟨g102, _⟩ => og (toV (bsl (y := 102) (ls := List.map u32 ([((y31 + 4294967296 - 48) % 4294967296)] : List Nat)) Tryz.underlying67 ti_127.h rfl rfl rfl rfl rfl ⟨rfl, (a19.trans rfl), (by exact rfl), (by exact rfl), trivial⟩ (g102.trans rfl) rfl) (ifs_map (f := u32) (fun _ => if_u32) ([((y31 + 4294967296 - 48) % 4294967296)] : List Nat)))) ?_
     refine dd [] (fun _ _ _ _ => c0 (c_retrospectref02_Add _ h34)) ?_
     apply zd [[]]
     refine de fol ?_
     apply z [11, 4, 6, 30, 40, 31, 3]
     exact sgo (eR [])
   apply z [14, 15]
   exact su (sj (hj27 _) eI)
 intro t26
 apply z [13, 4, 2, 30, 31, 1, 8]
 exact rt []
theorem c___retrospectref18_P__small {n : Nat} {x0_W} {x0_I} {x0_End} {x0_Deep} {x0_Names} {x0_Bad} : ∀ r, m___retrospectref18_P__small n x0_W x0_I x0_End x0_Deep x0_Names x0_Bad = some r → FnOk Tryz.prog 140 [.own 0] [(0, .bx 78 (.agg [sli 3 (List.map L_retrospectref16_Word x0_W), i64 x0_I, i64 x0_End, i64 x0_Deep, .own 1, i64 x0_Bad])), (1, .sl 9 1 (List.map str x0_Names))] (i64 r.1) [(0, .bx 78 (.agg [sli 3 (List.map L_retrospectref16_Word r.2.1), i64 r.2.2.1, i64 r.2.2.2.1, i64 r.2.2.2.2.1, .own 1, i64 r.2.2.2.2.2])), (1, .sl 9 1 (List.map str x0_Names))] := by
 unfold m___retrospectref18_P__small
 refine fs Tryz.func140 fun w S0 γ hγ => ?_
 apply z [2, 31, 1, 5]
 refine sjq (fun s8 => [(0, .own 0), (2, i64 (0 : Int)), (23, bl s8)]) (fun s8 => [(0, .bx 78 (.agg [sli 3 (List.map L_retrospectref16_Word x0_W), i64 x0_I, i64 x0_End, i64 x0_Deep, .own 1, i64 x0_Bad])), (1, .sl 9 1 (List.map str x0_Names))]) ?_ ?_
 · intro j6 hj7
   refine b fun r9 h10 => ?_
   refine sif (fun hb11 => ?_) (fun hb11 => ?_)
   · refine sd ?_
     apply zd [[]]
     refine dd [0, 1] (fun _ _ _ _ => cG (c___retrospectref18_P__kind _ h10) [0, 1] [] [0, 1]) ?_
     apply zd [[]]
     refine dd [] (fun _ _ _ _ => obk hb11 ops) ?_
     apply zd [[], [], [], [], [], [], [], [], [], [], [], [], [], []]
     refine de fol ?_
     apply z [4]
     exact sj (hj7 _) (eR [(0, 0), (1, 1)])
   refine b fun y12 h13 => ?_
   refine sd ?_
   apply zd [[]]
   refine dd [0, 1] (fun _ _ _ _ => cG (c___retrospectref18_P__kind _ h10) [0, 1] [] [0, 1]) ?_
   apply zd [[]]
   refine dd [] (fun _ _ _ _ => obk hb11 ops) ?_
   apply zd [[], [0], [0], [0], [], [0], [0], [0], [], [], [], [], [], []]
   refine de fol ?_
   apply z [4]
   exact sj (hj7 _) (eR [(0, 0), (1, 1)])
 intro s8
 refine c ?_ ?_
 · apply z [2, 30]
   refine b fun r14 h15 => ?_
   refine o (cG (c___retrospectref18_P__bad _ h15) [0, 1] [] [1]) ?_
   apply z [1, 2, 31, 1, 8, 10]
   exact rt [(0, 0), (1, 1)]
 apply z [9, 4, 2, 31, 1, 5]
 refine b fun y16 h17 => ?_
 refine sd ?_
 apply zd [[], [0], [0], [0], [], [0], [0], [0], [], [], [], []]
 refine de fol ?_
 apply z [4, 5, 2, 31, 1, 7]
 refine sloopE 0 (fun t => t) (fun s28 => [(0, .own 0), (2, i64 (0 : Int)), (3, i64 s28.1), (4, str y16.Text), (5, i64 s28.2)]) (fun s28 => [(0, .bx 78 (.agg [sli 3 (List.map L_retrospectref16_Word x0_W), i64 x0_I, i64 x0_End, i64 x0_Deep, .own 1, i64 x0_Bad])), (1, .sl 9 1 (List.map str x0_Names))]) (fun t26 => [(0, .own 0), (2, i64 (0 : Int)), (3, i64 t26)]) (fun t26 => [(0, .bx 78 (.agg [sli 3 (List.map L_retrospectref16_Word x0_W), i64 x0_I, i64 x0_End, i64 x0_Deep, .own 1, i64 x0_Bad])), (1, .sl 9 1 (List.map str x0_Names))]) (eR [(0, 0), (1, 1)]) ?_ ?_
 · intro hj27 s28
   apply z [5, 2, 30, 30, 54, 46, 1]
   refine c ?_ ?_
   · apply z [9, 4, 5, 7, 6, 30, 76, 30, 30]
     refine b fun y29 h30 => ?_
     apply z [90, 85, 40, 49]
     refine sbn (F := i64) 50 rfl fun z31 => ?_
     apply z [31, 3, 11, 4, 6, 30, 40, 31, 3]
     exact sgo (eR [(0, 0), (1, 1)])
   apply z [14, 15]
   exact su (sj (hj27 _) (eR [(0, 0), (1, 1)]))
 intro t26
 apply z [13, 4, 2, 30, 48, 33, 36, 40, 48, 33]
 refine o (stP (.agg [sli 3 (List.map L_retrospectref16_Word x0_W), i64 (wrap64 (x0_I + (1 : Int))), i64 x0_End, i64 x0_Deep, .own 1, i64 x0_Bad]) [1]) ?_
 apply z [1, 2, 30, 31, 1, 8]
 exact rt [(0, 0), (1, 1)]
theorem c___retrospectref18_P__find {n : Nat} {x0_W} {x0_I} {x0_End} {x0_Deep} {x0_Names} {x0_Bad} {x1} : ∀ r, m___retrospectref18_P__find n x0_W x0_I x0_End x0_Deep x0_Names x0_Bad x1 = some r → FnOk Tryz.prog 159 [.own 0, str x1] [(0, .bx 78 (.agg [sli 3 (List.map L_retrospectref16_Word x0_W), i64 x0_I, i64 x0_End, i64 x0_Deep, .own 1, i64 x0_Bad])), (1, .sl 9 1 (List.map str x0_Names))] (i64 r) [(0, .bx 78 (.agg [sli 3 (List.map L_retrospectref16_Word x0_W), i64 x0_I, i64 x0_End, i64 x0_Deep, .own 1, i64 x0_Bad])), (1, .sl 9 1 (List.map str x0_Names))] := by
 unfold m___retrospectref18_P__find
 refine fs Tryz.func159 fun w S0 γ hγ => ?_
 apply z [2, 31, 1, 5, 2, 31, 1, 7]
 refine sloopE 0 Lp.go (fun s9 => [(0, .own 0), (1, str x1), (4, i64 (0 : Int)), (5, i64 s9)]) (fun s9 => [(0, .bx 78 (.agg [sli 3 (List.map L_retrospectref16_Word x0_W), i64 x0_I, i64 x0_End, i64 x0_Deep, .own 1, i64 x0_Bad])), (1, .sl 9 1 (List.map str x0_Names))]) (fun t7 => [(4, i64 (0 : Int))]) (fun t7 => [(0, .bx 78 (.agg [sli 3 (List.map L_retrospectref16_Word x0_W), i64 x0_I, i64 x0_End, i64 x0_Deep, .own 1, i64 x0_Bad])), (1, .sl 9 1 (List.map str x0_Names))]) (eR [(0, 0), (1, 1)]) ?_ ?_
 · intro hj8 s9
   apply z [5, 2, 30, 30, 48, 33, 36, 55, 46, 1]
   refine c ?_ ?_
   · apply z [9, 4, 5, 7, 2, 30, 48, 33, 36, 30]
     refine b fun y10 h11 => ?_
     apply z [50, 51, 30, 72, 1]
     refine c ?_ ?_
     · apply z [2, 30, 31, 1, 8, 12, 10]
       refine sU ?_
       apply z [12, 10]
       exact rt [(0, 0), (1, 1)]
     apply z [9, 11, 4, 6, 30, 40, 31, 3]
     exact sgo (eR [(0, 0), (1, 1)])
   apply z [14, 15]
   exact su (sj (hj8 _) (eR [(0, 0), (1, 1)]))
 intro t7
 refine slpk ?_
 apply z [13, 4, 2, 31, 1, 8]
 exact rt [(0, 0), (1, 1)]
theorem c___retrospectref18_P__atom {me___retrospectref18_P__Expr : (List M_retrospectref16_Word) → Int → Int → Int → (List (List UInt8)) → Int → Option ((List M_retrospectref17_Node) × (List M_retrospectref16_Word) × Int × Int × Int × Int × (List (List UInt8)))} (he___retrospectref18_P__Expr : ∀ {x0_W : (List M_retrospectref16_Word)} {x0_I : Int} {x0_End : Int} {x0_Deep : Int} {x0_Names : (List (List UInt8))} {x0_Bad : Int}, ∀ r, me___retrospectref18_P__Expr x0_W x0_I x0_End x0_Deep x0_Names x0_Bad = some r → FnOk Tryz.prog 45 [.own 0] [(0, .bx 78 (.agg [sli 3 (List.map L_retrospectref16_Word x0_W), i64 x0_I, i64 x0_End, i64 x0_Deep, .own 1, i64 x0_Bad])), (1, .sl 9 1 (List.map str x0_Names))] (.own 50) [(0, .bx 78 (.agg [sli 3 (List.map L_retrospectref16_Word r.2.1), i64 r.2.2.1, i64 r.2.2.2.1, i64 r.2.2.2.2.1, .own 61, i64 r.2.2.2.2.2.1])), (1, .gone), (50, .sl 88 3 (List.map L_retrospectref17_Node r.1)), (61, .sl 9 1 (List.map str r.2.2.2.2.2.2))]) {n : Nat} {x0_W} {x0_I} {x0_End} {x0_Deep} {x0_Names} {x0_Bad} : ∀ r, m___retrospectref18_P__atom me___retrospectref18_P__Expr n x0_W x0_I x0_End x0_Deep x0_Names x0_Bad = some r → FnOk Tryz.prog 139 [.own 0] [(0, .bx 78 (.agg [sli 3 (List.map L_retrospectref16_Word x0_W), i64 x0_I, i64 x0_End, i64 x0_Deep, .own 1, i64 x0_Bad])), (1, .sl 9 1 (List.map str x0_Names))] (.own 50) [(0, .bx 78 (.agg [sli 3 (List.map L_retrospectref16_Word r.2.1), i64 r.2.2.1, i64 r.2.2.2.1, i64 r.2.2.2.2.1, .own 61, i64 r.2.2.2.2.2.1])), (1, .gone), (50, .sl 88 3 (List.map L_retrospectref17_Node r.1)), (61, .sl 9 1 (List.map str r.2.2.2.2.2.2))] := by
 unfold m___retrospectref18_P__atom
 refine fs Tryz.func139 fun w S0 γ hγ => ?_
 apply z [2]
 refine s1 (asg rfl (kLm (k := 3) L_retrospectref17_Node)) ?_
 apply z [1, 5, 2, 30]
 refine b fun r1 h2 => ?_
 refine o (cG (c___retrospectref18_P__kind _ h2) [0, 1] [] [0, 1]) ?_
 apply z [41, 1]
 refine c ?_ ?_
 · apply z [5]
   refine b fun y3 h4 => ?_
   refine b fun r5 h6 => ?_
   refine b fun r7 h8 => ?_
   refine sd ?_
   apply zd [[], [0], [0], [0], [], [0], [0], [0], [], [], []]
   refine dd [] (fun _ _ _ _ => c0 (c_retrospectref07_Read _ h6)) ?_
   refine dd [100] (fun _ _ _ _ => cG (c_retrospectref02_Norm _ h8) [] [(100, 50)] []) ?_
   apply zd [[]]
   refine de fol ?_
   apply z [4, 2, 30, 48, 33, 36, 40, 48, 33]
   refine o (stP (.agg [sli 3 (List.map L_retrospectref16_Word x0_W), i64 (wrap64 (x0_I + (1 : Int))), i64 x0_End, i64 x0_Deep, .own 1, i64 x0_Bad]) [1]) ?_
   apply z [1, 2, 30]
   refine fz 100 [3, 23, 31] [] ?_
   refine s1 (bld (l := [i64 (1 : Int), i64 0, sli 1 (List.map u32 r7)]) pl_88.h ti_88.h zr_retrospectref17_Node ⟨_, _, _, (kI (x := 1) rfl), rfl, rfl, rfl, (szk (k := 1) rfl rfl), ⟨_, _, _, rfl, rfl, rfl, rfl, (szk (k := 1) rfl rfl), rfl⟩⟩ rfl) ?_
   refine so (bsl (y := 101) (ls := List.map L_retrospectref17_Node ([(⟨(1 : Int), 0, r7⟩ : M_retrospectref17_Node)] : List M_retrospectref17_Node)) Tryz.underlying45 ti_88.h rfl rfl rfl rfl rfl ⟨rfl, rfl, (by exact rfl), (by exact rfl), trivial⟩ rfl rfl) ?_
   refine sbm (C := fun x => .sl 88 3 (List.map L_retrospectref17_Node x)) 101 rfl fun z9 => ?_
   apply z [31, 1, 8, 10]
   exact rt [(0, 0), (1, 1), (50, 101), (61, 1)]
 apply z [9, 4, 5, 2, 30]
 refine b fun r10 h11 => ?_
 refine o (cG (c___retrospectref18_P__sees _ h11) [0, 1] [] [0, 1]) ?_
 apply z [1]
 refine c ?_ ?_
 · apply z [2, 30, 48, 33, 36, 40, 48, 33]
   refine o (stP (.agg [sli 3 (List.map L_retrospectref16_Word x0_W), i64 (wrap64 (x0_I + (1 : Int))), i64 x0_End, i64 x0_Deep, .own 1, i64 x0_Bad]) [1]) ?_
   apply z [1, 2]
   refine s1 (bld (l := [i64 (2 : Int), i64 0, sli 1 (List.map u32 [])]) pl_88.h ti_88.h zr_retrospectref17_Node ⟨_, _, _, (kI (x := 2) rfl), rfl, rfl, rfl, (szk (k := 1) rfl rfl), rfl⟩ rfl) ?_
   refine so (bsl (y := 100) (ls := List.map L_retrospectref17_Node ([(⟨(2 : Int), 0, []⟩ : M_retrospectref17_Node)] : List M_retrospectref17_Node)) Tryz.underlying45 ti_88.h rfl rfl rfl rfl rfl ⟨rfl, rfl, (by exact rfl), (by exact rfl), trivial⟩ rfl rfl) ?_
   refine sbm (C := fun x => .sl 88 3 (List.map L_retrospectref17_Node x)) 100 rfl fun z12 => ?_
   apply z [31, 1, 8, 10]
   exact rt [(0, 0), (1, 1), (50, 100), (61, 1)]
 apply z [9, 4, 5]
 refine sjq (fun s19 => [(0, .own 0), (2, sli 3 (List.map L_retrospectref17_Node ([] : List M_retrospectref17_Node))), (50, bl s19)]) (fun s19 => [(0, .bx 78 (.agg [sli 3 (List.map L_retrospectref16_Word x0_W), i64 x0_I, i64 x0_End, i64 x0_Deep, .own 1, i64 x0_Bad])), (1, .sl 9 1 (List.map str x0_Names))]) ?_ ?_
 · intro j17 hj18
   apply z [6, 30]
   refine b fun r20 h21 => ?_
   refine o (cG (c___retrospectref18_P__sees _ h21) [0, 1] [] [0, 1]) ?_
   apply z [30]
   refine sifd 47 rfl ?_ ?_
   · apply z [23, 23, 38, 1]
     exact sj (hj18 _) (eR [(0, 0), (1, 1)])
   apply z [22]
   refine b fun r22 h23 => ?_
   refine og' (cG (c___retrospectref18_P__sees _ h23) [0, 1] [] [0, 1]) ?_
   apply z [37, 1]
   exact sj (hj18 _) (eR [(0, 0), (1, 1)])
 intro s19
 refine c ?_ ?_
 · apply z [2, 31, 1]
   refine sjq (fun s28 => [(0, .own 0), (2, sli 3 (List.map L_retrospectref17_Node ([] : List M_retrospectref17_Node))), (4, i64 s28)]) (fun s28 => [(0, .bx 78 (.agg [sli 3 (List.map L_retrospectref16_Word x0_W), i64 x0_I, i64 x0_End, i64 x0_Deep, .own 1, i64 x0_Bad])), (1, .sl 9 1 (List.map str x0_Names))]) ?_ ?_
   · intro j26 hj27
     apply z [2, 30]
     refine b fun r29 h30 => ?_
     refine o (cG (c___retrospectref18_P__sees _ h30) [0, 1] [] [0, 1]) ?_
     apply z [1]
     refine c ?_ ?_
     · apply z [6, 31, 1]
       exact sj (hj27 _) (eR [(0, 0), (1, 1)])
     apply z [9, 4]
     exact sj (hj27 _) (eR [(0, 0), (1, 1)])
   intro s28
   apply z [2, 30, 48, 33, 36, 40, 48, 33]
   refine o (stP (.agg [sli 3 (List.map L_retrospectref16_Word x0_W), i64 (wrap64 (x0_I + (1 : Int))), i64 x0_End, i64 x0_Deep, .own 1, i64 x0_Bad]) [1]) ?_
   apply z [1, 2, 30]
   refine b fun r31 h32 => ?_
   refine o (cG (c___retrospectref18_P__must _ h32) [0, 1] [] [1]) ?_
   apply z [1, 2, 30]
   refine b fun r33 h34 => ?_
   refine o (cG (c___retrospectref18_P__small _ h34) [0, 1] [] [1]) ?_
   apply z [31, 1, 2, 30]
   refine b fun r35 h36 => ?_
   refine o (cG (c___retrospectref18_P__must _ h36) [0, 1] [] [1]) ?_
   apply z [1, 2, 30, 30]
   refine s1 (bld (l := [i64 s28, i64 r33.1, sli 1 (List.map u32 [])]) pl_88.h ti_88.h zr_retrospectref17_Node ⟨_, _, _, rfl, rfl, rfl, rfl, (szk (k := 1) rfl rfl), ⟨_, _, _, rfl, rfl, rfl, rfl, (szk (k := 1) rfl rfl), rfl⟩⟩ rfl) ?_
   refine so (bsl (y := 100) (ls := List.map L_retrospectref17_Node ([(⟨s28, r33.1, []⟩ : M_retrospectref17_Node)] : List M_retrospectref17_Node)) Tryz.underlying45 ti_88.h rfl rfl rfl rfl rfl ⟨rfl, rfl, (by exact rfl), (by exact rfl), trivial⟩ rfl rfl) ?_
   refine sbm (C := fun x => .sl 88 3 (List.map L_retrospectref17_Node x)) 100 rfl fun z37 => ?_
   apply z [31, 1, 8, 10]
   exact rt [(0, 0), (1, 1), (50, 100), (61, 1)]
 apply z [9, 4, 5, 2, 30]
 refine b fun r38 h39 => ?_
 refine o (cG (c___retrospectref18_P__sees _ h39) [0, 1] [] [0, 1]) ?_
 apply z [1]
 refine c ?_ ?_
 · apply z [2, 30]
   refine b fun r40 h41 => ?_
   refine o (cG (c___retrospectref18_P__level _ h41) [0, 1] [] [1]) ?_
   apply z [1, 2, 30]
   refine b fun r42 h43 => ?_
   refine o (cG (he___retrospectref18_P__Expr _ h43) [0, 1] [(100, 50), (101, 61)] []) ?_
   apply z [31, 1, 2, 30]
   refine b fun r44 h45 => ?_
   refine o (cG (c___retrospectref18_P__must _ h45) [0, 101] [] [101]) ?_
   apply z [1, 2, 30, 48, 33, 36, 49, 48, 33]
   refine o (stP (.agg [sli 3 (List.map L_retrospectref16_Word r44.1), i64 r44.2.1, i64 r44.2.2.1, i64 (wrap64 (r44.2.2.2.1 - (1 : Int))), .own 101, i64 r44.2.2.2.2]) [3]) ?_
   apply z [1, 2, 30, 31, 1, 8, 10]
   exact rt [(0, 0), (1, 1), (50, 100), (61, 101)]
 apply z [9, 4, 5, 2, 30]
 refine b fun r46 h47 => ?_
 refine o (cG (c___retrospectref18_P__free _ h47) [0, 1] [] [0, 1]) ?_
 apply z [44, 1]
 refine c ?_ ?_
 · apply z [2, 30]
   refine b fun r48 h49 => ?_
   refine o (cG (c___retrospectref18_P__bad _ h49) [0, 1] [] [1]) ?_
   apply z [1, 2]
   refine so (bsl (y := 100) (ls := List.map L_retrospectref17_Node ([] : List M_retrospectref17_Node)) Tryz.underlying45 ti_88.h rfl rfl rfl rfl rfl trivial rfl rfl) ?_
   apply z [31, 1, 8, 10]
   exact rt [(0, 0), (1, 1), (50, 100), (61, 1)]
 apply z [9, 4, 5]
 refine b fun y50 h51 => ?_
 refine b fun r52 h53 => ?_
 refine sd ?_
 apply zd [[], [], [0], [0], [0], [], [0], [0], [0], [], [], []]
 refine dd [0, 1] (fun _ _ _ _ => cG (c___retrospectref18_P__find _ h53) [0, 1] [] [0, 1]) ?_
 apply zd [[]]
 refine de fol ?_
 apply z [4, 2, 30, 48, 33, 36, 40, 48, 33]
 refine o (stP (.agg [sli 3 (List.map L_retrospectref16_Word x0_W), i64 (wrap64 (x0_I + (1 : Int))), i64 x0_End, i64 x0_Deep, .own 1, i64 x0_Bad]) [1]) ?_
 apply z [1, 2, 30]
 refine s1 (bld (l := [i64 (5 : Int), i64 r52, sli 1 (List.map u32 [])]) pl_88.h ti_88.h zr_retrospectref17_Node ⟨_, _, _, (kI (x := 5) rfl), rfl, rfl, rfl, (szk (k := 1) rfl rfl), ⟨_, _, _, rfl, rfl, rfl, rfl, (szk (k := 1) rfl rfl), rfl⟩⟩ rfl) ?_
 refine so (bsl (y := 100) (ls := List.map L_retrospectref17_Node ([(⟨(5 : Int), r52, []⟩ : M_retrospectref17_Node)] : List M_retrospectref17_Node)) Tryz.underlying45 ti_88.h rfl rfl rfl rfl rfl ⟨rfl, rfl, (by exact rfl), (by exact rfl), trivial⟩ rfl rfl) ?_
 refine sbm (C := fun x => .sl 88 3 (List.map L_retrospectref17_Node x)) 100 rfl fun z54 => ?_
 apply z [31, 1, 8]
 exact rt [(0, 0), (1, 1), (50, 100), (61, 1)]
end Go.Proofs.YtpomhkkhdojpiaaGreatDoor
