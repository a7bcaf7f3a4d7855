import Derived.Test.YtpomhkkhdojpiaaGreatDoorGen6
set_option maxRecDepth 100000
set_option maxHeartbeats 4000000
namespace Go.Proofs.YtpomhkkhdojpiaaGreatDoor
open Go Go.RowKit
theorem c_retrospectlaw20_ShowFields {n : Nat} {x0} : ∀ r, m_retrospectlaw20_ShowFields n x0 = some r → FnOk Tryz.prog 6 [L_retrospectref17_Field x0] [] (bl r) [] := by
 unfold m_retrospectlaw20_ShowFields
 refine fs Tryz.func6 fun w S0 γ hγ => ?_
 apply z [2]
 refine o (bx' 100) ?_
 apply z [31, 1, 5, 2, 32]
 refine cb (ca c_retrospectref17_LongField) fun r1 => ?_
 apply z [1]
 refine c ?_ ?_
 · apply z [2]
   refine cb (ca c_retrospectlaw20_works) fun r3 => ?_
   apply z [31, 1, 8, 10]
   exact rt []
 apply z [9, 4, 2, 32]
 refine cb (ca c_retrospectlaw17_ToField) fun r5 => ?_
 refine cb (ca c_show_Field) fun r7 => ?_
 apply z [30, 35, 35, 31, 31, 1, 5, 2, 32]
 refine cb (ca c_retrospectref20_Fine) fun r9 => ?_
 apply z [44, 1]
 refine c ?_ ?_
 · refine sjq (fun s15 => [(1, .own 100), (2, bl s15), (3, str r7.1), (4, bl r7.2)]) (fun s15 => [(100, .bx 34 (L_retrospectref17_Field x0))]) ?_ ?_
   · intro j13 hj14
     apply z [6, 30, 72, 30]
     refine sifd 19 rfl ?_ ?_
     · apply z [22, 22, 38, 30]
       refine sifd 23 rfl ?_ ?_
       · refine b fun r16 h17 => ?_
         refine og' (c0 (c_retrospectlaw20_works _ h17)) ?_
         apply z [38, 31, 1]
         exact sj (hj14 _) (eR [(100, 100)])
       apply z [23, 37, 31, 1]
       exact sj (hj14 _) (eR [(100, 100)])
     apply z [23, 23, 37, 30, 23, 37, 31, 1]
     exact sj (hj14 _) (eR [(100, 100)])
   intro s15
   apply z [8, 10]
   exact rt []
 apply z [9, 4]
 refine sjq (fun s24 => [(2, bl s24)]) (fun s24 => []) ?_ ?_
 · intro j22 hj23
   apply z [6, 30, 32]
   refine cb (ca c_retrospectref20_Field) fun r25 => ?_
   apply z [72, 30]
   refine sifd 30 rfl ?_ ?_
   · apply z [22, 38, 30]
     refine sifd 33 rfl ?_ ?_
     · refine b fun r27 h28 => ?_
       refine og' (c0 (c_retrospectlaw20_works _ h28)) ?_
       apply z [38, 31, 1]
       exact sj (hj23 _) (eR [])
     apply z [23, 37, 31, 1]
     exact sj (hj23 _) (eR [])
   apply z [23, 37, 30, 23, 37, 31, 1]
   exact sj (hj23 _) (eR [])
 intro s24
 apply z [8]
 exact rt []
end Go.Proofs.YtpomhkkhdojpiaaGreatDoor
