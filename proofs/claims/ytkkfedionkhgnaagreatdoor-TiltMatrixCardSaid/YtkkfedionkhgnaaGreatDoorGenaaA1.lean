import Derived.Test.YtkkfedionkhgnaaGreatDoorModaa
import Derived.Test.YtkkfedionkhgnaaGreatDoorGenA6
set_option maxRecDepth 100000
set_option maxHeartbeats 4000000
namespace Go.Proofs.YtkkfedionkhgnaaGreatDoor
open Go Go.RowKit
theorem Qqq{x0 x1}:∀ r,Qaj x0 x1=some r->FnOk Ub 64 [Ue x0,i64 x1] [] (Ue r) []:=by
 unfold Qaj
 refine fs Tryz.func64 λw S0 γ hγ=>?_
 refine z [2] ?_
 refine s1 (asg rfl (kLm (k:=1) Qd)) ?_
 refine z [1,3] ?_
 refine b λy1 h2=>?_
 refine so (mks (α:=List Qa) (y:=100) (f:=λ_=>nilL) h2 Um ti_46.h Q5u rfl rfl rfl rfl rfl rfl) ?_
 refine sent (Q5v (E1:=46) (E:=56) (k:=3) (f:=Qb) (l1:=[(0,Ue x0),(4,Ue ([]:List (List Qa))),(10,.own 100)]) h2 ⟨rfl,rfl,rfl,trivial⟩) ?_
 refine z [22,3,18,0,1,7] ?_
 refine srN (λs66=>[(4,Ue ([]:List (List Qa))),(5,.own 100),(11,Ue x0)]) (λs66=>rowM 46 56 3 Qb s66) (rE (entS ⟨rfl,rfl,rfl,rfl,rfl,trivial⟩)) ?_ ?_
 . intro i67 x68 s66 hx69
   refine z [7,2,38,37,4,3] ?_
   refine s1 (lenRw (s:=s66) Um rfl rfl rfl) ?_
   refine z [0,1,7] ?_
   refine srN (λs81=>[(4,Ue ([]:List (List Qa))),(5,.own 100),(7,Uc x68),(11,Ue x0),(12,i64 (x0.length:Int)),(13,i64 (i67:Int))]) (λs81=>rowM 46 56 3 Qb s81) (rE (entS ⟨rfl,rfl,rfl,rfl,rfl,rfl,rfl,rfl,trivial⟩)) ?_ ?_
   . intro i82 x83 s81 hx84
     refine z [7,3,4] ?_
     refine b λy85 h86=>?_
     refine sent (Q2q (i:=i82) (λ_=>Jc) (λid=>hγ id rfl) (rwI h86) (l':=[(4,Ue ([]:List (List Qa))),(5,.own 100),(7,Uc x68),(8,i64 (i82:Int)),(11,Ue x0),(12,i64 (x0.length:Int)),(13,i64 (i67:Int)),(18,i64 (s66.length:Int)),(19,i64 (i82:Int))]) ⟨⟨_,rfl,rn_id Xi⟩,⟨_,rfl,Vx rfl⟩,⟨_,rfl,rn_id Xi⟩,⟨_,rfl,rn_id Ku⟩,⟨_,rfl,rn_id Xi⟩,⟨_,rfl,rn_id Ku⟩,⟨_,rfl,rn_id Ku⟩,⟨_,rfl,rn_id Ku⟩,⟨_,rfl,rn_id Ku⟩,trivial⟩) ?_
     refine b λy87 h88=>?_
     refine b λy89 h90=>?_
     refine sd ?_
     refine zd [[],[],[],[]] ?_
     refine dx [24,25] [100] (λst mm ⟨a24,a25,_⟩ ⟨g100,_⟩=>og (ixO (f:=Ly.own) (xs:=((List.range (List.length s81)).map λj=>if j=i82 then 7 else 200+j)) (g100.trans rfl) Um ti_46.h (rw7I h86) rfl (a24.trans rfl) (a25.trans rfl))) ?_
     refine dx [26] [100] (λst mm ⟨a26,_⟩ ⟨g100,_⟩=>og (ldO (f:=Ly.own) (xs:=((List.range (List.length s81)).map λj=>if j=i82 then 7 else 200+j)) [] (g100.trans rfl) (Qai (rw7I h86)) (by rfl) off0 sh_46.h (by rfl) (by rfl) rfl (a26.trans rfl))) ?_
     refine zd [[],[],[],[]] ?_
     refine dx [31] [101] (λst mm ⟨a31,_⟩ ⟨g101,_⟩=>og (bsl (y:=101) (ls:=List.map Qb ([y87]:List Qa)) Ul ti_56.h rfl rfl rfl rfl rfl ⟨rfl,(a31.trans rfl),(by rfl),(by rfl),trivial⟩ (g101.trans (rw7N rfl)) rfl)) ?_
     refine dx [27,32] [7,101,102] (λst mm ⟨a27,a32,_⟩ ⟨g7,g101,g102,_⟩=>og (app (y:=102) (f:=Qb) h90 (g7.trans rfl) Ul ti_56.h rfl rfl (a27.trans rfl) (a32.trans rfl) (.inr ⟨_,_,rfl,(g101.trans rfl)⟩) (g102.trans (Q2t rfl (rw7N rfl))) rfl)) ?_
     refine dx [22,23] [100] (λst mm ⟨a22,a23,_⟩ ⟨g100,_⟩=>og (ixO (f:=Ly.own) (xs:=((List.range (List.length s81)).map λj=>if j=i82 then 7 else 200+j)) (g100.trans rfl) Um ti_46.h (rw7I h86) rfl (a22.trans rfl) (a23.trans rfl))) ?_
     refine dx [34,33] [100] (λst mm ⟨a34,a33,_⟩ ⟨g100,_⟩=>og (stO (f:=Ly.own) (xs:=((List.range (List.length s81)).map λj=>if j=i82 then 7 else 200+j)) 102 [] (g100.trans rfl) (Qai (rw7I h86)) (by rfl) off0 (by rfl) (by rfl) sh_46.h (by rfl) (by rfl) (by rfl) (a34.trans rfl) (a33.trans rfl))) ?_
     refine de fol ?_
     refine sent (Q2r 102 rfl (i:=i82) (r:=y85) (z:=y89) (λ_=>Jc) (λid=>hγ id rfl) (rwLt h86) rfl rfl (λy hy=>(Qjx rfl hy).trans ((Qjx rfl hy).trans ((Qjx rfl hy).trans ((Qjx rfl hy).trans (rfl))))) (l':=[(4,Ue ([]:List (List Qa))),(5,.own 100),(7,Uc x68),(11,Ue x0),(12,i64 (x0.length:Int)),(13,i64 (i67:Int)),(18,i64 (s66.length:Int)),(19,i64 (i82:Int))]) ⟨⟨_,rfl,rn_id Xi⟩,⟨_,rfl,Vx rfl⟩,⟨_,rfl,rn_id Xi⟩,⟨_,rfl,rn_id Xi⟩,⟨_,rfl,rn_id Ku⟩,⟨_,rfl,rn_id Ku⟩,⟨_,rfl,rn_id Ku⟩,⟨_,rfl,rn_id Ku⟩,trivial⟩) ?_
     refine z [19] ?_
     exact sgo (entS ⟨rfl,rfl,rfl,rfl,rfl,rfl,rfl,rfl,trivial⟩)
   intro s91
   refine z [34,19] ?_
   exact sgo (entS ⟨rfl,rfl,rfl,rfl,rfl,trivial⟩)
 intro s92
 refine z [34,6,3,9] ?_
 refine Q2s (λ_=>Jc) (λid=>hγ id rfl) 4 rfl (l':=[]) ?_ trivial (λ_ h=>by cases h)
 exact rt []
theorem Q1v{n x0 x1 x2 x3}:∀ r,Qgi n x0 x1 x2 x3=some r->FnOk Ub 17 [Qn x0,Qb x1,Qb x2,Uc x3] [] (.tup [Ue r.1,Ue r.2.1,Qp r.2.2]) []:=by
 unfold Qgi;refine fs Tryz.func17 λw S0 γ hγ=>?_;refine z [2] ?_;refine o (bx' 100) ?_;refine o (bx' 101) ?_;refine o (bx' 102) ?_;refine s1 (asg rfl (kLm (k:=1) Qd)) ?_;refine s1 (asg rfl (kLm (k:=1) Qd)) ?_;refine o (al' 103) ?_;refine z [1,5] ?_;refine sd ?_;refine zd [[],[],[100],[100],[],[],[]] ?_;refine de fol ?_;refine z [6,2] ?_;refine so (asgN (y:=104) (E:=46) (k:=1) rfl rfl) ?_;refine so (asgN (y:=105) (E:=46) (k:=1) rfl rfl) ?_;refine z [1,5,3,0,39,0,1,7] ?_;refine sloopE 0 Lp.go (λs52=>[(3,Uc x3),(4,.own 100),(5,.own 101),(6,.own 102),(8,Ue ([]:List (List Qa))),(9,Ue ([]:List (List Qa))),(10,.own 103),(11,i64 (x3.length:Int)),(12,i64 (x0.P.length:Int)),(13,.own 104),(14,.own 105),(25,i64 (wrap64 ((x3.length:Int)+(x0.P.length:Int)))),(26,i64 s52.2.2)]) (λs52=>[(100,.bx 51 (Qn x0)),(101,.bx 56 (Qb x1)),(102,.bx 56 (Qb x2)),(103,.bx 60 (Qp (⟨0,0,0,0⟩:Qc))),(104,.sl 46 1 (List.map Qd s52.1)),(105,.sl 46 1 (List.map Qd s52.2.1))]) (λt50=>[(8,Ue ([]:List (List Qa))),(9,Ue ([]:List (List Qa))),(10,.own 103),(11,i64 (x3.length:Int)),(13,.own 104),(14,.own 105)]) (λt50=>[(103,.bx 60 (Qp (⟨0,0,0,0⟩:Qc))),(104,.sl 46 1 (List.map Qd t50.1)),(105,.sl 46 1 (List.map Qd t50.2))]) (eR (dI [100,101,102,103,104,105])) ?_ ?_;intro hj51 s52;refine z [2,46,1,5] ?_;refine c ?_ ?_;refine z [14] ?_;refine sjq (λs65=>[(3,Uc x3),(4,.own 100),(5,.own 101),(6,.own 102),(8,Ue ([]:List (List Qa))),(9,Ue ([]:List (List Qa))),(10,.own 103),(11,i64 (x3.length:Int)),(12,i64 (x0.P.length:Int)),(13,.own 109),(14,.own 105),(25,i64 (wrap64 ((x3.length:Int)+(x0.P.length:Int)))),(26,i64 s52.2.2)]) (λs65=>[(100,.bx 51 (Qn x0)),(101,.bx 56 (Qb x1)),(102,.bx 56 (Qb x2)),(103,.bx 60 (Qp (⟨0,0,0,0⟩:Qc))),(109,.sl 46 1 (List.map Qd s65.1)),(105,.sl 46 1 (List.map Qd s65.2))]) ?_ ?_;intro j63 hj64;refine z [7,3,22] ?_;refine b λr66 h67=>?_;refine b λr68 h69=>?_;refine b λr70 h71=>?_;refine sd ?_;refine zd [[100],[101],[102],[],[],[]] ?_;refine dd [] (λ_ _ _ _=>c0 (Qkz _ h67)) ?_;refine zd [[],[],[],[]] ?_;refine dd [] (λ_ _ _ _=>c0 (Qkz _ h69)) ?_;refine dd [] (λ_ _ _ _=>c0 (Qic _ h71)) ?_;refine zd [[],[],[]] ?_;refine dd [106] (λ_ _ _ _=>al' 106) ?_;refine dd [107] (λ_ _ _ _=>al' 107) ?_;refine zd [[106],[107]] ?_;refine de fol ?_;refine z [6,5,12] ?_;refine s1 (bld (l:=[i64 0,i64 0,i64 0,i64 0]) pl_60.h ti_60.h Qk rfl rfl) ?_;refine s1 (neA (p:=(r70.2:Qc)) (q:=((⟨0,0,0,0⟩:Qc):Qc)) Jo rfl eg_60 rfl rfl rfl) ?_;refine z [1] ?_;refine c ?_ ?_;refine z [5] ?_;refine sd ?_;refine zd [[107]] ?_;refine dx [] [] (λst mm _ _=>og (asg rfl (kLm (k:=1) Qd))) ?_;refine dx [] [] (λst mm _ _=>og (asg rfl (kLm (k:=1) Qd))) ?_;refine zd [[103]] ?_;refine de fol ?_;refine z [6,24,25,29] ?_;refine sU ?_;refine z [29] ?_;exact rt [];refine z [14,3,0,46,1] ?_;refine c ?_ ?_;refine z [13,0,21] ?_
 refine so (bsl (y:=108) (ls:=List.map Qd ([r70.1.A0]:List (List Qa))) Um ti_46.h rfl rfl rfl rfl rfl ⟨rfl,rfl,(by rfl),(by rfl),trivial⟩ rfl rfl) ?_;refine b λy72 h73=>?_;refine o (app' 109) ?_;refine z [11,36,19,6] ?_;exact sj (hj64 _) (eR (dI [100,101,102,103,109,105]));refine z [13,0,21] ?_;refine so (bsl (y:=108) (ls:=List.map Qd ([r70.1.A0]:List (List Qa))) Um ti_46.h rfl rfl rfl rfl rfl ⟨rfl,rfl,(by rfl),(by rfl),trivial⟩ rfl rfl) ?_;refine b λy74 h75=>?_;refine o (app' 109) ?_;refine z [11,36,19,6] ?_;exact sj (hj64 _) (eR [(100,100),(101,101),(102,102),(103,103),(109,104),(105,109)]);intro s65;refine z [13,39,0,36] ?_;exact sgo (eR [(100,100),(101,101),(102,102),(103,103),(104,109),(105,105)]);refine z [48,49] ?_;exact su (sj (hj51 _) (eR (dI [103,104,105])));intro t50;refine slpk ?_;refine z [34,6,5,3,40,1] ?_;refine c ?_ ?_;refine z [2] ?_;refine s1 (bld (l:=[i64 (2:Int),i64 0,i64 0,i64 0]) pl_60.h ti_60.h Qk ⟨_,_,_,(kI (x:=2) rfl),rfl,rfl,rfl,(szk (k:=1) rfl rfl),rfl⟩ rfl) ?_;refine s1 (asg rfl (kLm (k:=1) Qd)) ?_;refine s1 (asg rfl (kLm (k:=1) Qd)) ?_;refine z [31,25] ?_;exact rt [];refine z [14,3,0] ?_;refine fz 104 [13,66] [] ?_;refine cb (ca Qqq) λr76=>?_;refine z [28] ?_;refine fz 105 [14,69] [] ?_;refine cb (ca Qqq) λr78=>?_;refine s1 (bld (l:=[i64 0,i64 0,i64 0,i64 0]) pl_60.h ti_60.h Qk rfl rfl) ?_;refine z [11,11,31] ?_;exact rt []
end Go.Proofs.YtkkfedionkhgnaaGreatDoor
