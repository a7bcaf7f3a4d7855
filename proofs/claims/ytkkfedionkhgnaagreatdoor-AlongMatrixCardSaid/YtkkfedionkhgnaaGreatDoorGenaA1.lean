import Derived.Test.YtkkfedionkhgnaaGreatDoorModa
import Derived.Test.YtkkfedionkhgnaaGreatDoorGenA6
set_option maxRecDepth 100000
set_option maxHeartbeats 4000000
namespace Go.Proofs.YtkkfedionkhgnaaGreatDoor
open Go Go.RowKit
theorem Qtz{x0}:∀ r,Z2 x0=some r->FnOk Ub 68 [Ue x0] [] (i64 r) []:=by
 unfold Z2;refine fs Tryz.func68 λ_ _ _ _=>?_;refine z [2,22,3,18,40,1] ?_;refine c ?_ ?_;refine z [2,9,25] ?_;exact rt [];refine z [14,3] ?_;refine b λy1 h2=>?_;refine z [38,37,18,9] ?_;exact rt []
theorem Q3m{x0}:∀ r,Qhq x0=some r->FnOk Ub 69 [Ue x0] [] (bl r) []:=by
 unfold Qhq;refine fs Tryz.func69 λ_ _ _ _=>?_;refine z [2,22,3,18,0,1,7] ?_;refine srN (λs8=>[(0,Ue x0),(2,bl false),(5,Ue x0)]) (λs8=>[]) (rE eI) ?_ ?_;intro i9 x10 s8 hx11;refine z [7,2,38,37,4,3,18,0] ?_;refine cb (ca Qtz) λr12=>?_;refine z [59,1] ?_;refine c ?_ ?_;refine z [2,9,45] ?_;refine sU ?_;refine z [29] ?_;exact rt [];refine z [42,19] ?_;exact sgo eI;intro s14;refine z [34,6,2,9] ?_;exact rt []
theorem Qk2{n x0 x1}:∀ r,Qbm n x0 x1=some r->FnOk Ub 19 [Ue x0,Uc x1] [] (.tup [Uc r.1,bl r.2]) []:=by
 unfold Qbm;refine fs Tryz.func19 λ_ _ _ _=>?_;refine z [2] ?_;refine s1 (asg rfl (kLm (k:=3) Qb)) ?_;refine z [22] ?_;refine sjq (λs7=>[(0,Ue x0),(1,Uc x1),(4,Uc ([]:List Qa)),(5,bl false),(20,bl s7)]) (λs7=>[]) ?_ ?_;intro j5 hj6;refine z [13,0] ?_;refine cb (ca Qtz) λr8=>?_;refine z [0,18,59,0] ?_;refine sifd 16 rfl ?_ ?_;refine z [15,17,10,1] ?_;exact sj (hj6 _) eI;refine z [30] ?_;refine b λr10 h11=>?_;refine og' (c0 (Q3m _ h11)) ?_;refine z [30,23,1] ?_;exact sj (hj6 _) eI;intro s7;refine c ?_ ?_;refine z [2] ?_;refine s1 (asg rfl (kLm (k:=3) Qb)) ?_;refine z [9,25] ?_;exact rt [];refine z [14,2] ?_;refine so (asgN (y:=100) (E:=56) (k:=3) rfl rfl) ?_;refine z [1,5,3,18,0,1,7] ?_;refine srN (λs29=>[(1,Uc x1),(4,Uc ([]:List Qa)),(5,bl false),(6,.own 100),(21,Ue x0)]) (λs29=>[(100,.sl 56 3 (List.map Qb s29))]) (rE (eR [(100,100)])) ?_ ?_;intro i30 x31 s29 hx32;refine z [7,2,38,37,4,3,0] ?_;refine cb (ca Qpc) λr33=>?_;refine z [27] ?_;refine o (al' 101) ?_;refine z [35,4,13,0,33] ?_;refine so (bsl (y:=102) (ls:=List.map Qb ([r33.1]:List Qa)) Ul ti_56.h rfl rfl rfl rfl rfl ⟨rfl,rfl,(by rfl),(by rfl),trivial⟩ rfl rfl) ?_;refine b λy35 h36=>?_;refine o (app' 103) ?_;refine z [11,36,19] ?_;exact sgo (eR [(100,103)]);intro s37;refine z [34,6,3,11,9] ?_;refine fz 100 [4,6,38] [] ?_;exact rt []
end Go.Proofs.YtkkfedionkhgnaaGreatDoor
