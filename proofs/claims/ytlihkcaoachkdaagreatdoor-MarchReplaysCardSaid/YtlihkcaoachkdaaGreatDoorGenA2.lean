import Derived.Test.YtlihkcaoachkdaaGreatDoorGen0
import Derived.Test.YtlihkcaoachkdaaGreatDoorGenA1
set_option maxRecDepth 100000
set_option maxHeartbeats 4000000
namespace Go.Proofs.YtlihkcaoachkdaaGreatDoor
open Go Go.RowKit
theorem Qpq{n:Nat}{x0}{x1}:∀ r,Qiq n x0 x1=some r->FnOk Tryz.prog 268 [Q4 x0,sli 1 (List.map u32 x1)] [] (.tup [Qd r.1,bl r.2]) []:=by
 unfold Qiq
 refine fs Tryz.func268 λw S0 γ hγ=>?_;refine z [2] ?_;refine o (bx' 100) ?_;refine o (al' 101) ?_;refine z [31,1,5,2,30] ?_;refine cb (ca Qiv) λr1=>?_;refine z [1] ?_;refine c ?_ ?_
 . refine z [2] ?_;refine cb (ca Wc) λr3=>?_;refine z [34,31,1,8,10] ?_;exact rt []
 refine z [9,4,2,32,30] ?_;refine cb (ca Qck) λr5=>?_;refine z [34,31,1,8] ?_;exact rt []
theorem Qht{n:Nat}{x0}{x1}:∀ r,Qa9 n x0 x1=some r->FnOk Tryz.prog 339 [str x0,i64 x1] [] (.tup [sli 1 (List.map u32 r.1),Qv r.2]) []:=by
 unfold Qa9
 refine fs Tryz.func339 λw S0 γ hγ=>?_;refine z [2] ?_;refine s1 (asg rfl (kLm (k:=1) u32)) ?_;refine o (al' 100) ?_;refine z [1,2,30,30] ?_;refine b λy1 h2=>?_;refine s1 (slS h2 Tryz.underlying9 rfl rfl (bnd rfl) bnd0) ?_;refine cb (ca Qqa) λr3=>?_;refine z [30,35,35] ?_;refine o (al' 101) ?_;refine z [31,34,1] ?_;refine sjq (λs7=>[(4,sli 1 (List.map u32 ([]:List Nat))),(5,.own 100),(6,sli 1 (List.map u32 r3.1)),(7,.own 101)]) (λs7=>[(100,.bx 63 (Qv (⟨0,0,0,0⟩:Qe))),(101,.bx 63 (Qv s7))]) ?_ ?_
 . intro j5 hj6
   refine z [2,32] ?_;refine s1 (bld (l:=[i64 0,i64 0,i64 0,i64 0]) pl_63.h ti_63.h Qu rfl rfl) ?_;refine s1 (neA (p:=(r3.2:Qe)) (q:=((⟨0,0,0,0⟩:Qe):Qe)) Vo rfl eg_63 rfl rfl rfl) ?_;refine z [1] ?_;refine c ?_ ?_
   . refine z [6,33,36,30,40,33] ?_;refine o (stP (Qv (⟨r3.2.Kind,r3.2.Step,r3.2.Stage,wrap64 (r3.2.At+x1)⟩:Qe)) [3]) ?_;refine z [1] ?_;exact sj (hj6 _) (eR [(100,100),(101,101)])
   refine z [9,4] ?_;exact sj (hj6 _) (eR [(100,100),(101,101)])
 intro s7
 refine z [5] ?_;refine sd ?_;refine zd [[],[101],[],[100]] ?_;refine de fol ?_;refine z [4,8] ?_;exact rt []
theorem Qxz{n:Nat}{x0}{x1}{x2}:∀ r,Qko n x0 x1 x2=some r->FnOk Tryz.prog 328 [Q4 x0,str x1,i64 x2] [] (.tup [Qd r.1,Qv r.2]) []:=by
 unfold Qko
 refine fs Tryz.func328 λw S0 γ hγ=>?_;refine z [2] ?_;refine o (bx' 100) ?_;refine o (al' 101) ?_;refine o (al' 102) ?_;refine z [1,2,30,30] ?_;refine cb (ca Qht) λr1=>?_;refine z [30,35,35] ?_;refine o (al' 103) ?_;refine z [31,34,1,5,2,32] ?_;refine s1 (bld (l:=[i64 0,i64 0,i64 0,i64 0]) pl_63.h ti_63.h Qu rfl rfl) ?_;refine s1 (neA (p:=(r1.2:Qe)) (q:=((⟨0,0,0,0⟩:Qe):Qe)) Vo rfl eg_63 rfl rfl rfl) ?_;refine z [1] ?_;refine c ?_ ?_
 . refine z [5] ?_;refine b λr3 h4=>?_;refine sd ?_;refine dd [] (λ_ _ _ _=>c0 (Wc _ h4)) ?_;refine zd [[103],[101],[102]] ?_;refine de fol ?_;refine z [4,8,10] ?_;exact rt []
 refine z [9,4,2,32,30] ?_;refine cb (ca Qpq) λr5=>?_;refine z [30,35,35] ?_;refine o (al' 104) ?_;refine z [34,31,1,5,2,30,44,1] ?_;refine c ?_ ?_
 . refine z [2,32,30] ?_;refine s1 (bld (l:=[i64 (2:Int),i64 0,i64 0,i64 x2]) pl_63.h ti_63.h Qu ⟨_,_,_,(kI (x:=2) rfl),rfl,rfl,rfl,(szk (k:=1) rfl rfl),⟨_,_,_,rfl,rfl,rfl,rfl,(szk (k:=1) rfl rfl),rfl⟩⟩ rfl) ?_;refine z [34,34,1,8,10] ?_;exact rt []
 refine z [9,4,2,32] ?_;refine s1 (bld (l:=[i64 0,i64 0,i64 0,i64 0]) pl_63.h ti_63.h Qu rfl rfl) ?_;refine z [34,34,1,8] ?_;exact rt []
theorem Qqo{x0}{x1}:∀ r,Qe7 x0 x1=some r->FnOk Tryz.prog 330 [str x0,str x1] [] (bl r) []:=by
 unfold Qe7
 refine fs Tryz.func330 λw S0 γ hγ=>?_;refine z [2,31,1,2,30,30] ?_;refine cb (ca Qb8) λr1=>?_;refine z [31,1,8] ?_;exact rt []
theorem Qle{n:Nat}{x0}:∀ r,Qcp n x0=some r->FnOk Tryz.prog 279 [sli 1 (List.map u32 x0)] [] (i64 r) []:=by
 unfold Qcp
 refine fs Tryz.func279 λw S0 γ hγ=>?_;refine z [2,31,1,2,30] ?_;refine b λr1 h2=>?_;refine o (cG (W0 _ h2) [] [(100,50)] []) ?_;refine z [31,1,2,30,55,31,1,5,2,30,41,1] ?_;refine c ?_ ?_
 . refine z [2,31,1,8,10] ?_;exact rt []
 refine z [9,4,2,30,49,76,30,30,49] ?_;refine b λy3 h4=>?_;refine z [50,51] ?_;refine cb (ca Qt6) λr5=>?_;refine z [40] ?_;refine sbn (F:=i64) 19 rfl λz7=>?_;refine z [31,1,8] ?_;exact rt []
theorem Q2n{n:Nat}{x0}{x1}:∀ r,Qef n x0 x1=some r->FnOk Tryz.prog 202 [sli 1 (List.map u32 x0),sli 1 (List.map u32 x1)] [] (sli 1 (List.map u32 r)) []:=by
 unfold Qef
 refine fs Tryz.func202 λw S0 γ hγ=>?_;refine z [2] ?_;refine s1 (asg rfl (kLm (k:=1) u32)) ?_;refine z [1] ?_;refine sjq (λs3=>[(0,sli 1 (List.map u32 s3.1)),(1,sli 1 (List.map u32 s3.2)),(4,sli 1 (List.map u32 ([]:List Nat)))]) (λs3=>[]) ?_ ?_
 . intro j1 hj2
   refine z [2,30,39,30,39,46,1] ?_;refine c ?_ ?_
   . refine z [6,30,30,31,31,1] ?_;exact sj (hj2 _) eI
   refine z [9,4] ?_;exact sj (hj2 _) eI
 intro s3
 refine z [2,30] ?_;refine b λr4 h5=>?_;refine o (cG (Qn1 _ h5) [] [(100,50)] []) ?_;refine z [31,1,2,31,1,5,2,30,39,30,1,7] ?_;refine srN (λs37=>[(0,sli 1 (List.map u32 s3.1)),(1,sli 1 (List.map u32 s3.2)),(4,sli 1 (List.map u32 ([]:List Nat))),(5,.own 100),(6,u32 s37.2)]) (λs37=>[(100,.sl 189 1 (List.map u32 s37.1))]) (rE (eR [(100,100)])) ?_ ?_
 . intro i38 x39 s37 hx40
   refine z [7,2,30,31,1,2,31,1] ?_;refine sjq (λs45=>[(0,sli 1 (List.map u32 s3.1)),(1,sli 1 (List.map u32 s3.2)),(4,sli 1 (List.map u32 ([]:List Nat))),(5,.own 100),(6,u32 s37.2),(7,i64 (i38:Int)),(8,u32 s45),(19,i64 (s3.1.length:Int)),(20,i64 (i38:Int))]) (λs45=>[(100,.sl 189 1 (List.map u32 s37.1))]) ?_ ?_
   . intro j43 hj44
     refine z [2,30,30,39,46,1] ?_;refine c ?_ ?_
     . refine z [6,30,30] ?_;refine b λy46 h47=>?_;refine z [43,42,31,1] ?_;exact sj (hj44 _) (eR [(100,100)])
     refine z [9,4] ?_;exact sj (hj44 _) (eR [(100,100)])
   intro s45
   refine z [6,30,30,30,30,43,42,30,30] ?_;refine cb (ca Qlc) λr48=>?_;refine z [30,35,35] ?_;refine b λy50 h51=>?_;refine z [50,53,31,3,11] ?_;exact sgo (eR [(100,100)])
 intro s52
 refine z [13,4,2,30,30,39,30] ?_;refine b λy53 h54=>?_;refine z [50,53,1,2,30] ?_;refine fz 100 [5,45,50] [] ?_;refine cb (ca Qad) λr55=>?_;refine z [31,1,8] ?_;exact rt []
theorem Qra{n:Nat}{x0}:∀ r,Qfr n x0=some r->FnOk Tryz.prog 149 [sli 1 (List.map Qbz x0)] [] (sli 1 (List.map u32 r)) []:=by
 unfold Qfr
 refine fs Tryz.func149 λw S0 γ hγ=>?_;refine z [2] ?_;refine s1 (asg rfl (kLm (k:=1) u32)) ?_;refine z [1,2] ?_;refine s1 (asg rfl (kLm (k:=1) u32)) ?_;refine z [1,5,2,30,39,30,1,7] ?_;refine srN (λs18=>[(2,sli 1 (List.map u32 ([]:List Nat))),(3,sli 1 (List.map u32 s18)),(6,sli 1 (List.map Qbz x0))]) (λs18=>[]) (rE eI) ?_ ?_
 . intro i19 x20 s18 hx21
   refine z [7,2,43,42,31,1,6,30,30] ?_;refine cb (ca Qad) λr22=>?_;refine cb (ca Q2n) λr24=>?_;refine z [31,3,11] ?_;exact sgo eI
 intro s26
 refine z [13,4,2,30,31,1,8] ?_;exact rt []
theorem Qx0{n:Nat}{x0}:∀ r,Qkp n x0=some r->FnOk Tryz.prog 351 [sli 1 (List.map u32 x0)] [] (sli 1 (List.map u32 r)) []:=by
 unfold Qkp
 refine fs Tryz.func351 λw S0 γ hγ=>?_;refine z [2] ?_;refine s1 (asg rfl (kLm (k:=1) u32)) ?_;refine z [1,2,30,39,76,40] ?_;refine b λy1 h2=>?_;refine so (mks (y:=100) (f:=u32) h2 Tryz.underlying32 Kr.h Qb3 rfl rfl rfl rfl rfl rfl) ?_;refine z [31,1,5,2,30,39,30,1,7] ?_;refine srN (λs20=>[(0,sli 1 (List.map u32 x0)),(2,sli 1 (List.map u32 ([]:List Nat))),(3,.own 100),(15,sli 1 (List.map u32 x0))]) (λs20=>[(100,.sl 189 1 (List.map u32 s20))]) (rE (eR [(100,100)])) ?_ ?_
 . intro i21 x22 s20 hx23
   refine z [7,2,30,43,42,31,31,1,6,30,30,76,40,30,30,40] ?_;refine b λy24 h25=>?_;refine s1 (slR (f:=u32) h25 Tryz.underlying32 Kr.h rfl rfl (bnd rfl) bnd0) ?_;refine z [30] ?_;refine b λr26 h27=>?_;refine o (cG (Qpo _ h27) [100] [] []) ?_;refine z [3,11] ?_;exact sgo (eR [(100,100)])
 intro s28
 refine z [13,4,2,30] ?_;refine b λr29 h30=>?_;refine so (callL (em:=[(101,.sl 189 1 (List.map u32 r29))]) (res':=.own 101) [100] [] [(101,50)] [(101,50)] rfl (Qq9 _ h30) ⟨Qaq (f:=u32) (λ_=>Qco) _,trivial⟩ (Qdl) ⟨.inr ⟨100,rfl,.inl ⟨rfl,.inl ⟨_,_,_,rfl,Jn (f:=u32) (λ_=>K8) s28,rfl⟩⟩⟩,.inl ⟨_,(kI (x:=1) rfl),rn_id Qen⟩,trivial⟩ (MiF.get (mi:=[]) trivial) trivial rfl ⟨rfl,trivial⟩ ⟨.inl rfl,trivial⟩ rfl ⟨.inl ⟨_,_,rfl,rfl,rc_sl (Jn (f:=u32) (λ_=>K8) r29)⟩,trivial⟩ trivial ⟨⟨_,rfl⟩,trivial⟩ (Vd rfl) rfl) ?_;refine z [31,1,2,30,39,76] ?_;refine b λy31 h32=>?_;refine so (mks (y:=102) (f:=u32) h32 Tryz.underlying32 Kr.h Qb3 rfl rfl rfl rfl rfl rfl) ?_;refine z [31,1,5,2,30,39,30,1,7] ?_;refine srN (λs56=>[(2,sli 1 (List.map u32 ([]:List Nat))),(6,.own 101),(7,.own 102),(39,sli 1 (List.map u32 x0))]) (λs56=>[(101,.sl 189 1 (List.map u32 r29)),(102,.sl 189 1 (List.map u32 s56))]) (rE (eR [(101,101),(102,102)])) ?_ ?_
 . intro i57 x58 s56 hx59
   refine z [7,2,30,43,42,31,31,1,6,30,30,76,40,30,30,76,30,30] ?_;refine cb (ca Qlb) λr60=>?_;refine z [30,35,35] ?_;refine b λy62 h63=>?_;refine z [50,53] ?_;refine sbm (C:=λx=>.sl 189 1 (List.map u32 x)) 102 rfl λz64=>?_;refine b λy65 h66=>?_;refine z [50,53,3,11] ?_;exact sgo (eR [(101,101),(102,102)])
 intro s67
 refine z [13,4,2,30,30] ?_;refine fz 101 [6,62] [] ?_;refine fz 102 [7,63] [] ?_
 refine so (bsl (y:=103) (ls:=List.map Qbz ([r29,s67]:List (List Nat))) Tryz.underlying271 ti_32.h rfl rfl rfl rfl rfl ⟨rfl,rfl,(by exact rfl),(by exact rfl),rfl,rfl,(by exact rfl),(by exact rfl),trivial⟩ rfl rfl) ?_
 refine fz 103 [64] [] ?_;refine cb (ca Qra) λr68=>?_;refine z [31,1,8] ?_;exact rt []
theorem Qcv{n:Nat}{x0}{x1}:∀ r,Zi n x0 x1=some r->FnOk Tryz.prog 85 [sli 1 (List.map u32 x0),sli 1 (List.map u32 x1)] [] (sli 1 (List.map u32 r)) []:=by
 unfold Zi
 refine fs Tryz.func85 λw S0 γ hγ=>?_;refine z [2] ?_;refine s1 (asg rfl (kLm (k:=1) u32)) ?_;refine z [1,2,30,39,30,39,40,40] ?_;refine b λy1 h2=>?_;refine so (mks (y:=100) (f:=u32) h2 Tryz.underlying32 Kr.h Qb3 rfl rfl rfl rfl rfl rfl) ?_;refine z [31,1,5,2,30,39,30,1,7] ?_;refine srN (λs16=>[(0,sli 1 (List.map u32 x0)),(4,sli 1 (List.map u32 ([]:List Nat))),(5,.own 100),(15,sli 1 (List.map u32 x1))]) (λs16=>[(100,.sl 189 1 (List.map u32 s16))]) (rE (eR [(100,100)])) ?_ ?_
 . intro i17 x18 s16 hx19
   refine z [7,2,30,43,42,31,31,1,6,30,30,30,30] ?_;refine b λr20 h21=>?_;refine o (cG (Qpo _ h21) [100] [] []) ?_;refine z [3,11] ?_;exact sgo (eR [(100,100)])
 intro s22
 refine z [13,4,2,30] ?_;refine b λr23 h24=>?_;refine so (callL (em:=[(101,.sl 189 1 (List.map u32 r23))]) (res':=.own 101) [100] [] [(101,50)] [(101,50)] rfl (W0 _ h24) ⟨Qaq (f:=u32) (λ_=>Qco) _,trivial⟩ (Qdl) ⟨.inr ⟨100,rfl,.inl ⟨rfl,.inl ⟨_,_,_,rfl,Jn (f:=u32) (λ_=>K8) s22,rfl⟩⟩⟩,trivial⟩ (MiF.get (mi:=[]) trivial) trivial rfl ⟨rfl,trivial⟩ ⟨.inl rfl,trivial⟩ rfl ⟨.inl ⟨_,_,rfl,rfl,rc_sl (Jn (f:=u32) (λ_=>K8) r23)⟩,trivial⟩ trivial ⟨⟨_,rfl⟩,trivial⟩ (Vd rfl) rfl) ?_;refine z [31,1,8] ?_;refine fz 101 [4,29] [] ?_;exact rt []
theorem Q2o{n:Nat}{x0}{x1}:∀ r,Qpl n x0 x1=some r->FnOk Tryz.prog 348 [sli 1 (List.map u32 x0),i64 x1] [] (.tup [sli 1 (List.map u32 r.1),bl r.2]) []:=by
 unfold Qpl
 refine fs Tryz.func348 λw S0 γ hγ=>?_;refine z [2] ?_;refine s1 (asg rfl (kLm (k:=1) u32)) ?_;refine z [31,1,2,30] ?_;refine cb (ca Qle) λr1=>?_;refine z [31,1,5] ?_;refine sjq (λs6=>[(0,sli 1 (List.map u32 x0)),(1,i64 x1),(4,sli 1 (List.map u32 ([]:List Nat))),(5,bl false),(6,i64 r1),(22,bl s6)]) (λs6=>[]) ?_ ?_
 . intro j4 hj5
   refine z [6,30,46,30] ?_;refine sifd 13 rfl ?_ ?_
   . refine z [23,23,23,24,24,24,24,23,38,1] ?_;exact sj (hj5 _) eI
   refine z [22,22,22] ?_;refine sifd 16 rfl ?_ ?_
   . refine z [22,22] ?_;refine b λ_ h7=>?_;refine z [22,22,22,37,1] ?_;exact sj (hj5 _) eI
   refine z [23,23,23,23,22,37,1] ?_;exact sj (hj5 _) eI
 intro s6
 refine c ?_ ?_
 . refine z [2] ?_;refine s1 (asg rfl (kLm (k:=1) u32)) ?_;refine z [31,1,8,10] ?_;exact rt []
 refine z [9,4,2] ?_;refine cb (ca Qbg) λr8=>?_;refine z [31,1,5,2,30,46,1] ?_;refine c ?_ ?_
 . refine sjq (λs16=>[(0,sli 1 (List.map u32 x0)),(1,i64 x1),(4,sli 1 (List.map u32 ([]:List Nat))),(5,bl false),(7,sli 1 (List.map u32 s16))]) (λs16=>[]) ?_ ?_
   . intro j14 hj15
     refine z [2,30,47,1] ?_;refine c ?_ ?_
     . refine z [6,30] ?_;refine b λr17 h18=>?_;refine o (cG (W0 _ h18) [] [(100,50)] []) ?_;refine z [31,3] ?_;refine fz 100 [7,29] [] ?_;refine z [4] ?_;exact sj (hj15 _) (eR [])
     refine z [9,4] ?_;exact sj (hj15 _) eI
   intro s16
   refine z [2,30,31,31,1,8,10] ?_;exact rt []
 refine z [9,4,5,2,30,83] ?_;refine cb (ca Qbg) λr19=>?_;refine cb (ca Qle) λr21=>?_;refine z [49,31,1,7] ?_;refine sloopE 0 (λt=>t) (λs57=>[(0,sli 1 (List.map u32 x0)),(1,i64 x1),(4,sli 1 (List.map u32 ([]:List Nat))),(5,bl false),(7,sli 1 (List.map u32 s57.1)),(8,i64 s57.2)]) (λs57=>[]) (λt55=>[(4,sli 1 (List.map u32 ([]:List Nat))),(5,bl false),(7,sli 1 (List.map u32 t55))]) (λt55=>[]) eI ?_ ?_
 . intro hj56 s57
   refine z [5,2,30,57,1] ?_;refine c ?_ ?_
   . refine z [9,4] ?_;refine sjq (λs66=>[(0,sli 1 (List.map u32 x0)),(1,i64 x1),(4,sli 1 (List.map u32 ([]:List Nat))),(5,bl false),(7,sli 1 (List.map u32 s66)),(8,i64 s57.2)]) (λs66=>[]) ?_ ?_
     . intro j64 hj65
       refine z [7,2,30] ?_;refine cb (ca Qx0) λr67=>?_;refine z [31,1,2,30,30] ?_;refine b λ_ h69=>?_;refine s1 (shrI (ge0 h69) rfl rfl rfl) ?_;refine z [77,41] ?_;refine sbn (F:=bl) 46 rfl λz70=>?_;refine z [1] ?_;refine c ?_ ?_
       . refine z [6,30,30] ?_;refine cb (ca Qcv) λr71=>?_;refine z [31,3,11,4] ?_;exact sj (hj65 _) eI
       refine z [9,11,4] ?_;exact sj (hj65 _) eI
     intro s66
     refine z [6,30,49,31,3] ?_;exact sgo eI
   refine z [14,15] ?_;exact su (sj (hj56 _) eI)
 intro t55
 refine z [13,4,2,30,31,31,1,8] ?_;exact rt []
theorem Qx1{n:Nat}{x0}:∀ r,Qkq n x0=some r->FnOk Tryz.prog 340 [i64 x0] [] (sli 1 (List.map u32 r)) []:=by
 unfold Qkq
 refine fs Tryz.func340 λw S0 γ hγ=>?_;refine z [2] ?_;refine s1 (asg rfl (kLm (k:=1) u32)) ?_;refine z [1,2] ?_;refine cb (ca Qbg) λr1=>?_;refine z [30] ?_;refine cb (ca Q2o) λr3=>?_;refine z [30,35,35,31,31,1,2,30,31,1,8] ?_;exact rt []
theorem Qt8{n:Nat}{x0}{x1}{x2}{x3}:∀ r,Qir n x0 x1 x2 x3=some r->FnOk Tryz.prog 329 [Q4 x0,bl x1,str x2,i64 x3] [] (.tup [Qd r.1,Qv r.2]) []:=by
 unfold Qir
 refine fs Tryz.func329 λw S0 γ hγ=>?_;refine z [2] ?_;refine o (bx' 100) ?_;refine o (al' 101) ?_;refine o (al' 102) ?_;refine z [1,2,30,30] ?_;refine cb (ca Qht) λr1=>?_;refine z [30,35,35] ?_;refine o (al' 103) ?_;refine z [31,34,1,5,2,32] ?_;refine s1 (bld (l:=[i64 0,i64 0,i64 0,i64 0]) pl_63.h ti_63.h Qu rfl rfl) ?_;refine s1 (neA (p:=(r1.2:Qe)) (q:=((⟨0,0,0,0⟩:Qe):Qe)) Vo rfl eg_63 rfl rfl rfl) ?_;refine z [1] ?_;refine c ?_ ?_
 . refine z [5] ?_;refine b λr3 h4=>?_;refine sd ?_;refine dd [] (λ_ _ _ _=>c0 (Wc _ h4)) ?_;refine zd [[103],[101],[102]] ?_;refine de fol ?_;refine z [4,8,10] ?_;exact rt []
 refine z [9,4,2,30,54,30,49] ?_;refine cb (ca Qx1) λr5=>?_;refine z [31,1,2,33,36,30] ?_;refine cb (ca Qcv) λr7=>?_;refine z [30] ?_
 refine so (bsl (y:=104) (ls:=List.map Qbz ([r7,r1.1]:List (List Nat))) Tryz.underlying271 ti_32.h rfl rfl rfl rfl rfl ⟨rfl,rfl,(by exact rfl),(by exact rfl),rfl,rfl,(by exact rfl),(by exact rfl),trivial⟩ rfl rfl) ?_
 refine fz 104 [37] [] ?_;refine cb (ca Qra) λr9=>?_;refine z [31,1,2,30,30] ?_;refine s1 (bld (l:=[bl x1,sli 1 (List.map u32 r9)]) pl_51.h ti_51.h Wk ⟨_,_,_,rfl,rfl,rfl,rfl,(szk (k:=1) rfl rfl),⟨_,_,_,rfl,rfl,rfl,rfl,(szk (k:=1) rfl rfl),rfl⟩⟩ rfl) ?_;refine z [30] ?_;refine cb (ca Qpq) λr11=>?_;refine z [30,35,35] ?_;refine o (al' 105) ?_;refine z [34,31,1,2,32] ?_;refine s1 (bld (l:=[i64 0,i64 0,i64 0,i64 0]) pl_63.h ti_63.h Qu rfl rfl) ?_;refine z [34,34,1,8] ?_;exact rt []
theorem Qqb{n:Nat}{x0}:∀ r,Qg9 n x0=some r->FnOk Tryz.prog 315 [str x0] [] (.tup [Qd r.1,Qv r.2]) []:=by
 unfold Qg9
 refine fs Tryz.func315 λw S0 γ hγ=>?_;refine z [2] ?_;refine o (al' 100) ?_;refine o (al' 101) ?_;refine z [1,2,30] ?_;refine cb (ca Qq0) λr1=>?_;refine z [31,1,2,30,31,1] ?_;refine sjq (λs7=>[(0,str x0),(2,.own 100),(3,.own 101),(4,i64 r1),(5,str s7)]) (λs7=>[(100,.bx 53 (Qd (⟨(⟨false,[]⟩:Qf),[]⟩:Qb))),(101,.bx 63 (Qv (⟨0,0,0,0⟩:Qe)))]) ?_ ?_
 . intro j5 hj6
   refine z [2,30,57,1] ?_;refine c ?_ ?_
   . refine z [6,30,30] ?_;refine b λy8 h9=>?_;refine s1 (slS h9 Tryz.underlying9 rfl rfl bnd0 (bnd rfl)) ?_;refine z [31,1] ?_;exact sj (hj6 _) (eR [(100,100),(101,101)])
   refine z [9,4] ?_;exact sj (hj6 _) (eR [(100,100),(101,101)])
 intro s7
 refine z [2,30] ?_;refine cb (ca Qzl) λr10=>?_;refine z [30,35,35] ?_;refine o (al' 102) ?_;refine o (al' 103) ?_;refine z [34,34,1,5,7,2,32] ?_;refine s1 (bld (l:=[i64 0,i64 0,i64 0,i64 0]) pl_63.h ti_63.h Qu rfl rfl) ?_;refine s1 (neA (p:=(r10.2:Qe)) (q:=((⟨0,0,0,0⟩:Qe):Qe)) Vo rfl eg_63 rfl rfl rfl) ?_;refine z [31,1] ?_;refine c ?_ ?_
 . refine z [5] ?_;refine b λr12 h13=>?_;refine sd ?_;refine dd [] (λ_ _ _ _=>c0 (Wc _ h13)) ?_;refine zd [[103],[100],[101]] ?_;refine de fol ?_;refine z [4,8,12,10] ?_;exact rt []
 refine z [2,30,46,31,1] ?_;refine c ?_ ?_
 . refine z [5] ?_;refine b λr14 h15=>?_;refine b λr16 h17=>?_;refine sd ?_;refine zd [[102]] ?_;refine dd [] (λ_ _ _ _=>c0 (Qbg _ h15)) ?_;refine dd [] (λ_ _ _ _=>c0 (Qpq _ h17)) ?_;refine zd [[],[],[]] ?_;refine dd [104] (λ_ _ _ _=>al' 104) ?_;refine zd [[104],[]] ?_;refine de fol ?_;refine z [4,2,32] ?_;refine s1 (bld (l:=[i64 0,i64 0,i64 0,i64 0]) pl_63.h ti_63.h Qu rfl rfl) ?_;refine z [34,34,1,8,12,10] ?_;exact rt []
 refine z [2,30,30] ?_;refine b λy18 h19=>?_;refine z [90,66,31,1] ?_;refine c ?_ ?_
 . refine z [2,32,30,30,40] ?_;refine cb (ca Qxz) λr20=>?_;refine z [35,35,34,34,1,8,12,10] ?_;exact rt []
 refine z [9,11,4,5] ?_;refine b λr22 h23=>?_;refine b λr24 h25=>?_;refine sd ?_;refine zd [[102],[]] ?_;refine dd [] (λ_ _ _ _=>c0 (Qqo _ h23)) ?_;refine zd [[],[],[]] ?_;refine dd [] (λ_ _ _ _=>c0 (Qt8 _ h25)) ?_;refine zd [[],[],[100],[101]] ?_;refine de fol ?_;refine z [4,8] ?_;exact rt []
theorem Qjs{x0}{x1}:∀ r,Qdv x0 x1=some r->FnOk Tryz.prog 291 [Qv x0,i64 x1] [] (Qv r) []:=by
 unfold Qdv
 refine fs Tryz.func291 λw S0 γ hγ=>?_;refine z [2] ?_;refine o (bx' 100) ?_;refine o (al' 101) ?_;refine z [1] ?_;refine sjq (λs3=>[(2,.own 100),(4,.own 101)]) (λs3=>[(100,.bx 63 (Qv s3)),(101,.bx 63 (Qv (⟨0,0,0,0⟩:Qe)))]) ?_ ?_
 . intro j1 hj2
   refine z [2,32] ?_;refine s1 (bld (l:=[i64 0,i64 0,i64 0,i64 0]) pl_63.h ti_63.h Qu rfl rfl) ?_;refine s1 (neA (p:=(x0:Qe)) (q:=((⟨0,0,0,0⟩:Qe):Qe)) Vo rfl eg_63 rfl rfl rfl) ?_;refine z [1] ?_;refine c ?_ ?_
   . refine z [6,33,36,30,40,33] ?_;refine o (stP (Qv (⟨x0.Kind,x0.Step,x0.Stage,wrap64 (x0.At+x1)⟩:Qe)) [3]) ?_;refine z [1] ?_;exact sj (hj2 _) (eR [(100,100),(101,101)])
   refine z [9,4] ?_;exact sj (hj2 _) (eR [(100,100),(101,101)])
 intro s3
 refine z [2,32,34,1,8] ?_;exact rt []
theorem Qt9{n:Nat}{x0}:∀ r,Qla n x0=some r->FnOk Tryz.prog 290 [str x0] [] (.tup [sli 3 (List.map Qd r.1),Qv r.2]) []:=by
 unfold Qla
 refine fs Tryz.func290 λw S0 γ hγ=>?_;refine z [2] ?_;refine s1 (asg rfl (kLm (k:=3) Qd)) ?_;refine o (al' 100) ?_;refine z [1,5,2,30,72,1] ?_;refine c ?_ ?_
 . refine z [2] ?_;refine s1 (bld (l:=[i64 0,i64 0,i64 0,i64 0]) pl_63.h ti_63.h Qu rfl rfl) ?_;refine s1 (asg rfl (kLm (k:=3) Qd)) ?_;refine z [34,1,8,10] ?_;exact rt []
 refine z [9,4,2] ?_;refine so (asgN (y:=101) (E:=53) (k:=3) rfl rfl) ?_;refine z [1,2,31,1,5,2,30] ?_;refine cb (ca Qt1) λr1=>?_;refine z [39,30,1,7] ?_;refine srN (λs20=>[(2,sli 3 (List.map Qd ([]:List Qb))),(3,.own 100),(4,.own 101),(5,i64 s20.2),(14,sli 1 (List.map str r1))]) (λs20=>[(100,.bx 63 (Qv (⟨0,0,0,0⟩:Qe))),(101,.sl 53 3 (List.map Qd s20.1))]) (rE (eR [(100,100),(101,101)])) ?_ ?_
 . intro i21 x22 s20 hx23
   refine z [7,2,43,42,31,1,2,30] ?_;refine cb (ca Qqb) λr24=>?_;refine z [30,35,35] ?_;refine o (al' 102) ?_;refine o (al' 103) ?_;refine z [34,34,1,5,2,32] ?_;refine s1 (bld (l:=[i64 0,i64 0,i64 0,i64 0]) pl_63.h ti_63.h Qu rfl rfl) ?_;refine s1 (neA (p:=(r24.2:Qe)) (q:=((⟨0,0,0,0⟩:Qe):Qe)) Vo rfl eg_63 rfl rfl rfl) ?_;refine z [1] ?_;refine c ?_ ?_
   . refine z [2,33,36,30,40,33] ?_;refine o (stP (Qv (⟨r24.2.Kind,r24.2.Step,r24.2.Stage,wrap64 (r24.2.At+s20.2)⟩:Qe)) [3]) ?_;refine z [1,5] ?_;refine sd ?_;refine zd [[103]] ?_;refine dx [] [] (λst mm _ _=>og (asg rfl (kLm (k:=3) Qd))) ?_;refine zd [[100]] ?_;refine de fol ?_;refine z [4,8,10,12] ?_;refine sU ?_;refine z [12,10] ?_;exact rt []
   refine z [9,4,2,30,32] ?_
   refine so (bsl (y:=104) (ls:=List.map Qd ([r24.1]:List Qb)) Tryz.underlying44 ti_53.h rfl rfl rfl rfl rfl ⟨rfl,rfl,(by exact rfl),(by exact rfl),trivial⟩ rfl rfl) ?_
   refine b λy26 h27=>?_;refine o (app' 105) ?_;refine z [31,1,6,30,30,54,40,40,31,3,11] ?_;exact sgo (eR [(100,100),(101,105)])
 intro s28
 refine z [13,4,2,30] ?_;refine s1 (bld (l:=[i64 0,i64 0,i64 0,i64 0]) pl_63.h ti_63.h Qu rfl rfl) ?_;refine z [31,34,1,8] ?_;refine fz 101 [2,4,44] [] ?_;exact rt []
theorem Qvp{n:Nat}{x0}{x1}:∀ r,Qjn n x0 x1=some r->FnOk Tryz.prog 288 [str x0,i64 x1] [] (.tup [Qd r.1,sli 3 (List.map Qd r.2.1),Qv r.2.2]) []:=by
 unfold Qjn
 refine fs Tryz.func288 λw S0 γ hγ=>?_;refine z [2] ?_;refine o (al' 100) ?_;refine s1 (asg rfl (kLm (k:=3) Qd)) ?_;refine o (al' 101) ?_;refine z [1,2,30] ?_;refine cb (ca Qkl) λr1=>?_;refine z [30,35,35,35,31,31,31,1,2,30] ?_;refine cb (ca Qqb) λr3=>?_;refine z [30,35,35] ?_;refine o (al' 102) ?_;refine o (al' 103) ?_;refine z [34,34,1,5,2,32] ?_;refine s1 (bld (l:=[i64 0,i64 0,i64 0,i64 0]) pl_63.h ti_63.h Qu rfl rfl) ?_;refine s1 (neA (p:=(r3.2:Qe)) (q:=((⟨0,0,0,0⟩:Qe):Qe)) Vo rfl eg_63 rfl rfl rfl) ?_;refine z [1] ?_;refine c ?_ ?_
 . refine z [5] ?_;refine b λr5 h6=>?_;refine sd ?_;refine zd [[102],[103],[]] ?_;refine dd [] (λ_ _ _ _=>c0 (Qjs _ h6)) ?_;refine zd [[100]] ?_;refine dx [] [] (λst mm _ _=>og (asg rfl (kLm (k:=3) Qd))) ?_;refine zd [[101]] ?_;refine de fol ?_;refine z [4,8,10] ?_;exact rt []
 refine z [9,4,2,30] ?_;refine cb (ca Qt9) λr7=>?_;refine z [30,35,35,31,34,1,5] ?_;refine b λr9 h10=>?_;refine sd ?_;refine zd [[102],[],[103],[],[],[],[],[]] ?_;refine dd [] (λ_ _ _ _=>c0 (Qjs _ h10)) ?_;refine zd [[100],[],[101]] ?_;refine de fol ?_;refine z [4,8] ?_;exact rt []
theorem Qlf{n:Nat}{x0}{x1}{x2_Name}{x2_C}{x2_A}{x2_B}{x2_E}:∀ r,Qbq n x0 x1 x2_Name x2_C x2_A x2_B x2_E=some r->FnOk Tryz.prog 254 [.own 0,str x1,.own 1] [(0,.bx 323 (Jy x0)),(1,.bx 47 (.agg [str x2_Name,.own 2,.own 3,sli 3 (List.map Qd x2_B),sli 3 (List.map Qd x2_E)])),(2,.sl 53 3 (List.map Qd x2_C)),(3,.sl 44 1 (List.map Qj x2_A))] (Qv r.1) [(0,.bx 323 (Jy r.2.1)),(1,.bx 47 (.agg [str r.2.2.1,.own 62,.own 63,sli 3 (List.map Qd r.2.2.2.1),sli 3 (List.map Qd r.2.2.2.2.1)])),(2,.gone),(3,.gone),(62,.sl 53 3 (List.map Qd r.2.2.2.2.2.1)),(63,.sl 44 1 (List.map Qj r.2.2.2.2.2.2))]:=by
 unfold Qbq
 refine fs Tryz.func254 λw S0 γ hγ=>?_;refine z [2] ?_;refine o (al' 100) ?_;refine z [1,7] ?_;refine Q70 (λs29=>[(0,.own 0),(1,str x1),(2,.own 1),(6,.own 100)]) (λs29=>[(2,.gone),(3,.gone),(0,.bx 323 (Jy s29.1)),(1,.bx 47 (.agg [str x2_Name,.own 101,.own 102,sli 3 (List.map Qd x2_B),sli 3 (List.map Qd x2_E)])),(101,.sl 53 3 (List.map Qd s29.2.1)),(102,.sl 44 1 (List.map Qj s29.2.2)),(100,.bx 63 (Qv (⟨0,0,0,0⟩:Qe)))]) (eR [(2,2),(3,3),(0,0),(1,1),(101,2),(102,3),(100,100)]) ?_
 intro s29
 refine z [7,2,30] ?_;refine b λr30 h31=>?_;refine o (cG (Qci _ h31) [0] [] []) ?_;refine z [30,35,35,35,31,31,31,1,5,2,30,44,1] ?_;refine c ?_ ?_
 . refine z [2] ?_;refine s1 (bld (l:=[i64 0,i64 0,i64 0,i64 0]) pl_63.h ti_63.h Qu rfl rfl) ?_;refine z [34,1,8,10,12] ?_;refine sU ?_;refine z [12] ?_;exact rt [(0,0),(1,1),(2,2),(3,3),(62,101),(63,102)]
 refine z [9,4,5,2,30] ?_;refine cb (ca Qq1) λr32=>?_;refine z [44,1] ?_;refine c ?_ ?_
 . refine z [2,30,30,30] ?_;refine b λr34 h35=>?_;refine o (cG (Qmq _ h35) [0] [] []) ?_;refine z [1,2] ?_;refine s1 (bld (l:=[i64 0,i64 0,i64 0,i64 0]) pl_63.h ti_63.h Qu rfl rfl) ?_;refine z [34,1,8,10,12] ?_;refine sU ?_;refine z [12] ?_;exact rt [(0,0),(1,1),(2,2),(3,3),(62,101),(63,102)]
 refine z [9,4,2,30,30] ?_;refine cb (ca Qvp) λr36=>?_;refine z [30,35,35,35] ?_;refine o (al' 103) ?_;refine o (al' 104) ?_;refine z [34,31,34,1,5,2,32] ?_;refine s1 (bld (l:=[i64 0,i64 0,i64 0,i64 0]) pl_63.h ti_63.h Qu rfl rfl) ?_;refine s1 (neA (p:=(r36.2.2:Qe)) (q:=((⟨0,0,0,0⟩:Qe):Qe)) Vo rfl eg_63 rfl rfl rfl) ?_;refine z [1] ?_;refine c ?_ ?_
 . refine z [2,32,34,1,8,10,12] ?_;refine sU ?_;refine z [12] ?_;exact rt [(0,0),(1,1),(2,2),(3,3),(62,101),(63,102)]
 refine z [9,4,5] ?_;refine b λy38 h39=>?_;refine sd ?_;refine zd [[],[],[1],[1],[1],[103]] ?_
 refine dx [46] [105] (λst mm ⟨a46,_⟩ ⟨g105,_⟩=>og (bsl (y:=105) (ls:=List.map Qd ([r36.1]:List Qb)) Tryz.underlying44 ti_53.h rfl rfl rfl rfl rfl ⟨rfl,(a46.trans rfl),(by exact rfl),(by exact rfl),trivial⟩ (g105.trans rfl) rfl)) ?_
 refine dd [101,105,106] (λ_ _ _ _=>app' 106) ?_;refine zd [[1],[1]] ?_;refine dd [1] (λ_ _ _ _=>stP (.agg [str x2_Name,.own 106,.own 102,sli 3 (List.map Qd x2_B),sli 3 (List.map Qd x2_E)]) [1]) ?_;refine de fol ?_;refine z [4,6,30,30,48,33,36,30] ?_
 refine so (bsl (y:=107) (ls:=List.map Qj ([r36.2.1]:List (List Qb))) Tryz.underlying45 ti_44.h rfl rfl rfl rfl rfl ⟨rfl,rfl,(by exact rfl),(by exact rfl),trivial⟩ rfl rfl) ?_
 refine b λy40 h41=>?_;refine o (app' 108) ?_;refine z [48,33] ?_;refine o (stP (.agg [str x2_Name,.own 106,.own 108,sli 3 (List.map Qd x2_B),sli 3 (List.map Qd x2_E)]) [2]) ?_;refine z [3,11] ?_;exact sgo (eR [(2,2),(3,3),(0,0),(1,1),(101,106),(102,108),(100,100)])
theorem Qes{n:Nat}{x0}{x1}:∀ r,Zj n x0 x1=some r->FnOk Tryz.prog 255 [.own 0,str x1] [(0,.bx 323 (Jy x0))] (.tup [sli 3 (List.map Qd r.1),Qv r.2.1]) [(0,.bx 323 (Jy r.2.2))]:=by
 unfold Zj
 refine fs Tryz.func255 λw S0 γ hγ=>?_;refine z [2] ?_;refine s1 (asg rfl (kLm (k:=3) Qd)) ?_;refine o (al' 100) ?_;refine z [1,2,30] ?_;refine b λr1 h2=>?_;refine o (cG (Qci _ h2) [0] [] []) ?_;refine z [30,35,35,35,31,31,31,1,2,30,30] ?_;refine b λy3 h4=>?_;refine z [91] ?_;refine cb (ca Qjg) λr5=>?_;refine z [30,35,35,31,31,1,5,2,30,44,1] ?_;refine c ?_ ?_
 . refine z [2,30] ?_;refine s1 (bld (l:=[i64 (1:Int),i64 0,i64 0,i64 r1.2.1]) pl_63.h ti_63.h Qu ⟨_,_,_,(kI (x:=1) rfl),rfl,rfl,rfl,(szk (k:=1) rfl rfl),⟨_,_,_,rfl,rfl,rfl,rfl,(szk (k:=1) rfl rfl),rfl⟩⟩ rfl) ?_;refine s1 (asg rfl (kLm (k:=3) Qd)) ?_;refine z [34,1,8,10] ?_;exact rt [(0,0)]
 refine z [9,4,2,30] ?_;refine cb (ca Qt9) λr7=>?_;refine z [30,35,35] ?_;refine o (al' 101) ?_;refine z [31,34,1,2,30,32,30,30,54,40,40] ?_;refine cb (ca Qjs) λr9=>?_;refine z [31,34,1,8] ?_;exact rt [(0,0)]
theorem Qx2{n:Nat}{x0}:∀ r,Qkr n x0=some r->FnOk Tryz.prog 210 [str x0] [] (.tup [Jj r.1,Qv r.2]) []:=by
 unfold Qkr
 refine fs Tryz.func210 λw S0 γ hγ=>?_;refine z [2] ?_;refine o (al' 100) ?_;refine o (al' 101) ?_;refine z [1,2] ?_;refine so (alOw (y:=102) (ly:=.agg [str [],.own 103,.own 104,sli 3 (List.map Qd []),sli 3 (List.map Qd [])]) [(103,53,3),(104,44,1)] ti_47.h (Qfi (Jv (c1:=[.string ⟨#[]⟩]) (zo_of Qfe) (Jv (c1:=[.slice none 0 0]) (Qdm rfl) (Jv (c1:=[.slice none 0 0]) (Qdm rfl) (Jv (c1:=[.slice none 0 0]) (zo_of (J7 (k:=3))) (Jv (c1:=[.slice none 0 0]) (zo_of (J7 (k:=3))) (Qdn))))))) ⟨rfl,rfl,trivial⟩ rfl rfl rfl) ?_;refine z [1,2,30] ?_;refine s1 (bld (l:=[str x0,i64 0,bl false]) Q8j.h Q8i.h Qs2 ⟨_,_,_,rfl,rfl,rfl,rfl,(szk (k:=1) rfl rfl),rfl⟩ rfl) ?_;refine o (bx' 105) ?_;refine z [31,1,2,30] ?_;refine b λr1 h2=>?_;refine o (cG (Qci _ h2) [105] [] []) ?_;refine z [30,35,35,35,33] ?_;refine o (stP (.agg [str r1.1,.own 103,.own 104,sli 3 (List.map Qd []),sli 3 (List.map Qd [])]) [0]) ?_;refine z [1,5,2,33,36] ?_;refine s1 (bld (l:=[i64 (2:Int),str r1.1,i64 0]) Q3r.h Q3q.h Qsj ⟨_,_,_,(kI (x:=2) rfl),rfl,rfl,rfl,(szk (k:=1) rfl rfl),⟨_,_,_,rfl,rfl,rfl,rfl,(szk (k:=1) rfl rfl),rfl⟩⟩ rfl) ?_;refine cb (ca Qsl) λr3=>?_;refine z [44,1] ?_;refine c ?_ ?_
 . refine z [2,32] ?_;refine s1 (bld (l:=[i64 (1:Int),i64 0,i64 0,i64 0]) pl_63.h ti_63.h Qu ⟨_,_,_,(kI (x:=1) rfl),rfl,rfl,rfl,(szk (k:=1) rfl rfl),rfl⟩ rfl) ?_;refine z [34,34,1,8,10] ?_;refine fz 103 [22] [100,102] ?_;refine fz 104 [22] [100,102] ?_;exact rt []
 refine z [9,4,2,30,30] ?_;refine b λr5 h6=>?_;refine o (cG (Qlf _ h6) [105,102,103,104] [(106,62),(107,63)] []) ?_;refine o (al' 108) ?_;refine z [34,1,5,2,32] ?_;refine s1 (bld (l:=[i64 0,i64 0,i64 0,i64 0]) pl_63.h ti_63.h Qu rfl rfl) ?_;refine s1 (neA (p:=(r5.1:Qe)) (q:=((⟨0,0,0,0⟩:Qe):Qe)) Vo rfl eg_63 rfl rfl rfl) ?_;refine z [1] ?_;refine c ?_ ?_
 . refine z [5] ?_;refine sd ?_;refine zd [[102],[108],[100],[101]] ?_;refine de fol ?_;refine z [4,8,10] ?_;refine fz 106 [30] [100,102] ?_;refine fz 107 [30] [100,102] ?_;exact rt []
 refine z [9,4,5,2,30] ?_;refine b λr7 h8=>?_;refine o (cG (Qes _ h8) [105] [] []) ?_;refine z [30,35,35,33] ?_;refine o (stP (.agg [str r5.2.2.1,.own 106,.own 107,sli 3 (List.map Qd r7.1),sli 3 (List.map Qd r5.2.2.2.2.1)]) [3]) ?_;refine z [34,1] ?_;refine sjq (λs11=>[(2,.own 100),(3,.own 101),(4,.own 102),(5,.own 105),(6,.own 108),(46,bl s11)]) (λs11=>[(100,.bx 47 (Jj (⟨[],[],[],[],[]⟩:Qr))),(101,.bx 63 (Qv (⟨0,0,0,0⟩:Qe))),(102,.bx 47 (.agg [str r5.2.2.1,.own 106,.own 107,sli 3 (List.map Qd r7.1),sli 3 (List.map Qd r5.2.2.2.2.1)])),(106,.sl 53 3 (List.map Qd r5.2.2.2.2.2.1)),(107,.sl 44 1 (List.map Qj r5.2.2.2.2.2.2)),(105,.bx 323 (Jy r7.2.2)),(108,.bx 63 (Qv r7.2.1))]) ?_ ?_
 . intro j9 hj10
   refine z [6,32] ?_;refine s1 (bld (l:=[i64 0,i64 0,i64 0,i64 0]) pl_63.h ti_63.h Qu rfl rfl) ?_;refine s1 (neA (p:=(r7.2.1:Qe)) (q:=((⟨0,0,0,0⟩:Qe):Qe)) Vo rfl eg_63 rfl rfl rfl) ?_;refine z [30] ?_;refine sifd 41 rfl ?_ ?_
   . refine z [23,23,23,23,38,1] ?_;exact sj (hj10 _) (eR [(100,100),(101,101),(102,102),(106,106),(107,107),(105,105),(108,108)])
   refine z [22,22,22,22,37,1] ?_;exact sj (hj10 _) (eR [(100,100),(101,101),(102,102),(106,106),(107,107),(105,105),(108,108)])
 intro s11
 refine c ?_ ?_
 . refine z [5] ?_;refine sd ?_;refine zd [[102],[108],[100],[101]] ?_;refine de fol ?_;refine z [4,8,10] ?_;refine fz 106 [47] [100,102] ?_;refine fz 107 [47] [100,102] ?_;exact rt []
 refine z [9,4,5,2,30] ?_;refine b λr12 h13=>?_;refine o (cG (Qes _ h13) [105] [] []) ?_;refine z [30,35,35,33] ?_;refine o (stP (.agg [str r5.2.2.1,.own 106,.own 107,sli 3 (List.map Qd r7.1),sli 3 (List.map Qd r12.1)]) [4]) ?_;refine z [34,1] ?_;refine sjq (λs16=>[(2,.own 100),(3,.own 101),(4,.own 102),(5,.own 105),(6,.own 108),(63,bl s16)]) (λs16=>[(100,.bx 47 (Jj (⟨[],[],[],[],[]⟩:Qr))),(101,.bx 63 (Qv (⟨0,0,0,0⟩:Qe))),(102,.bx 47 (.agg [str r5.2.2.1,.own 106,.own 107,sli 3 (List.map Qd r7.1),sli 3 (List.map Qd r12.1)])),(106,.sl 53 3 (List.map Qd r5.2.2.2.2.2.1)),(107,.sl 44 1 (List.map Qj r5.2.2.2.2.2.2)),(105,.bx 323 (Jy r12.2.2)),(108,.bx 63 (Qv r12.2.1))]) ?_ ?_
 . intro j14 hj15
   refine z [6,32] ?_;refine s1 (bld (l:=[i64 0,i64 0,i64 0,i64 0]) pl_63.h ti_63.h Qu rfl rfl) ?_;refine s1 (neA (p:=(r12.2.1:Qe)) (q:=((⟨0,0,0,0⟩:Qe):Qe)) Vo rfl eg_63 rfl rfl rfl) ?_;refine z [30] ?_;refine sifd 58 rfl ?_ ?_
   . refine z [23,23,23,23,38,1] ?_;exact sj (hj15 _) (eR [(100,100),(101,101),(102,102),(106,106),(107,107),(105,105),(108,108)])
   refine z [22,22,22,22,37,1] ?_;exact sj (hj15 _) (eR [(100,100),(101,101),(102,102),(106,106),(107,107),(105,105),(108,108)])
 intro s16
 refine c ?_ ?_
 . refine z [5] ?_;refine sd ?_;refine zd [[102],[108],[100],[101]] ?_;refine de fol ?_;refine z [4,8,10] ?_;refine fz 106 [64] [100,102] ?_;refine fz 107 [64] [100,102] ?_;exact rt []
 refine z [9,4,5] ?_;refine sd ?_;refine zd [[102],[],[105],[105],[105]] ?_;refine dx [70] [] (λst mm ⟨a70,_⟩ _=>og (bld (l:=[i64 (1:Int),i64 0,i64 0,i64 r12.2.2.at_]) pl_63.h ti_63.h Qu ⟨_,_,_,(kI (x:=1) rfl),rfl,rfl,rfl,(szk (k:=1) rfl rfl),⟨_,_,_,(a70.trans rfl),rfl,rfl,rfl,(szk (k:=1) rfl rfl),rfl⟩⟩ rfl)) ?_;refine zd [[100],[101]] ?_;refine de fol ?_;refine z [4,8] ?_;refine fz 106 [66] [100,102] ?_;refine fz 107 [66] [100,102] ?_;exact rt []
theorem Qvq{x0}:∀ r,Qdt x0=some r->FnOk Tryz.prog 234 [Jj x0] [] (bl r) []:=by
 unfold Qdt
 refine fs Tryz.func234 λw S0 γ hγ=>?_;refine z [2] ?_;refine o (bx' 100) ?_;refine z [31,1,2,33,36,39,31,1,5] ?_;refine sjq (λs3=>[(1,.own 100),(2,bl false),(41,bl s3)]) (λs3=>[(100,.bx 47 (Jj x0))]) ?_ ?_
 . intro j1 hj2
   refine z [6,30,46,30] ?_;refine sifd 11 rfl ?_ ?_
   . refine z [23,23,38,30,23,23,23,23,23,38,30,23,23,23,23,23,38,30,23,23,23,23,23,23,24,24,24,24,23,38,1] ?_;exact sj (hj2 _) (eR [(100,100)])
   refine z [22,22,37,30] ?_;refine sifd 15 rfl ?_ ?_
   . refine z [23,23,23,23,23,38,30,23,23,23,23,23,38,30,23,23,23,23,23,23,24,24,24,24,23,38,1] ?_;exact sj (hj2 _) (eR [(100,100)])
   refine z [22,22,22,22,22,37,30] ?_;refine sifd 22 rfl ?_ ?_
   . refine z [23,23,23,23,23,38,30,23,23,23,23,23,23,24,24,24,24,23,38,1] ?_;exact sj (hj2 _) (eR [(100,100)])
   refine z [22,22,22,22,22,37,30] ?_;refine sifd 29 rfl ?_ ?_
   . refine z [23,23,23,23,23,23,24,24,24,24,23,38,1] ?_;exact sj (hj2 _) (eR [(100,100)])
   refine z [22,22,22,22,22,22] ?_;refine sifd 35 rfl ?_ ?_
   . refine z [22,22,22,22,22,37,1] ?_;exact sj (hj2 _) (eR [(100,100)])
   refine z [23,23,23,23,22,37,1] ?_;exact sj (hj2 _) (eR [(100,100)])
 intro s3
 refine c ?_ ?_
 . refine z [2,31,1,8,10] ?_;exact rt []
 refine z [9,4,5,2,33,36,39,30,1,7] ?_;refine srN (λs9=>[(2,bl false),(43,sli 1 (List.map Qj x0.A))]) (λs9=>[]) (rE (eR [])) ?_ ?_
 . intro i10 x11 s9 hx12
   refine z [7,2,30,43,42,31,31,1,2,30,39,30,56,1] ?_;refine c ?_ ?_
   . refine z [2,31,1,8,12] ?_;refine sU ?_;refine z [12,10] ?_;exact rt []
   refine z [9,11] ?_;exact sgo eI
 intro s13
 refine z [13,4,2,31,1,8] ?_;exact rt []
theorem Xp{n:Nat}{x0}:∀ r,Vb n x0=some r->FnOk Tryz.prog 81 [Qd x0] [] (.tup [Q4 r.1,sli 1 (List.map u32 r.2)]) []:=by
 unfold Vb
 refine fs Tryz.func81 λw S0 γ hγ=>?_;refine z [2] ?_;refine o (bx' 100) ?_;refine o (al' 101) ?_;refine s1 (asg rfl (kLm (k:=1) u32)) ?_;refine z [1,5,2,33,36] ?_;refine cb (ca Qiv) λr1=>?_;refine z [1] ?_;refine c ?_ ?_
 . refine z [2] ?_;refine s1 (bld (l:=[bl false,sli 1 (List.map u32 [])]) pl_51.h ti_51.h Wk rfl rfl) ?_;refine cb (ca Qbg) λr3=>?_;refine z [34,31,1,8,10] ?_;exact rt []
 refine z [9,4,5] ?_;refine sd ?_;refine zd [[100],[100],[100],[100],[101],[]] ?_;refine de fol ?_;refine z [4,8] ?_;exact rt []
theorem Wu{n:Nat}{x0}:∀ r,Ku n x0=some r->FnOk Tryz.prog 51 [Qd x0] [] (Qd r) []:=by
 unfold Ku
 refine fs Tryz.func51 λw S0 γ hγ=>?_;refine z [2] ?_;refine o (bx' 100) ?_;refine o (al' 101) ?_;refine z [1,2,32] ?_;refine cb (ca Xp) λr1=>?_;refine z [35,35] ?_;refine cb (ca Qck) λr3=>?_;refine z [34,1,8] ?_;exact rt []
theorem Ql7{n:Nat}{x0}:∀ r,Xo n x0=some r->FnOk Tryz.prog 238 [Qd x0] [] (bl r) []:=by
 unfold Xo
 refine fs Tryz.func238 λw S0 γ hγ=>?_;refine z [2] ?_;refine o (bx' 100) ?_;refine z [31,1,2,32] ?_;refine cb (ca Wu) λr1=>?_;refine o (al' 101) ?_;refine z [34,1] ?_;refine sjq (λs9=>[(2,bl s9)]) (λs9=>[]) ?_ ?_
 . intro j7 hj8
   refine z [6,33,45,36,33,45,36,74,30] ?_;refine sifd 13 rfl ?_ ?_
   . refine z [22,22,22,22,22,22,22,22,22,38,30] ?_;refine sifd 24 rfl ?_ ?_
     . refine z [22,22,22,22,22,22,22,38,30] ?_;refine sifd 33 rfl ?_ ?_
       . refine z [22,22,22,22,22,22] ?_;refine b λr10 h11=>?_;refine og' (c0 (Qhs _ h11)) ?_;refine z [22,38,30] ?_;refine sifd 43 rfl ?_ ?_
         . refine z [22,22,22,22] ?_;refine b λr12 h13=>?_;refine og' (c0 (Qhs _ h13)) ?_;refine z [22,38,31,1] ?_;exact sj (hj8 _) (eR [])
         refine z [23,23,23,23,23,23,37,31,1] ?_;exact sj (hj8 _) (eR [])
       refine z [23,23,23,23,23,23,23,23,37,30,23,23,23,23,23,23,37,31,1] ?_;exact sj (hj8 _) (eR [])
     refine z [23,23,23,23,23,23,23,37,30,23,23,23,23,23,23,23,23,37,30,23,23,23,23,23,23,37,31,1] ?_;exact sj (hj8 _) (eR [])
   refine z [23,23,23,23,23,23,23,23,23,37,30,23,23,23,23,23,23,23,37,30,23,23,23,23,23,23,23,23,37,30,23,23,23,23,23,23,37,31,1] ?_;exact sj (hj8 _) (eR [])
 intro s9
 refine z [8] ?_;exact rt []
theorem Qso{n:Nat}{x0}:∀ r,Xr n x0=some r->FnOk Tryz.prog 239 [Qd x0] [] (i64 r) []:=by
 unfold Xr
 refine fs Tryz.func239 λw S0 γ hγ=>?_;refine z [2] ?_;refine o (bx' 100) ?_;refine z [31,1,5] ?_;refine b λr1 h2=>?_;refine b λr3 h4=>?_;refine sd ?_;refine zd [[100],[],[100]] ?_;refine dd [] (λ_ _ _ _=>c0 (Qle _ h2)) ?_;refine zd [[100],[100]] ?_;refine dd [] (λ_ _ _ _=>c0 (Qle _ h4)) ?_;refine zd [[],[]] ?_;refine de fol ?_;refine z [4,8] ?_;exact rt []
theorem Ql8{n:Nat}{x0}:∀ r,Qas n x0=some r->FnOk Tryz.prog 235 [sli 1 (List.map Qj x0)] [] (bl r) []:=by
 unfold Qas
 refine fs Tryz.func235 λw S0 γ hγ=>?_;refine z [2,31,1,5,2,30,39,30,1,7] ?_;refine srN (λs38=>[(2,bl false),(7,sli 1 (List.map Qj x0))]) (λs38=>[]) (rE eI) ?_ ?_
 . intro i39 x40 s38 hx41
   refine z [7,2,43,42,31,1,2,30,39,30,1,7] ?_;refine srN (λs58=>[(2,bl false),(7,sli 1 (List.map Qj x0)),(8,i64 (x0.length:Int)),(9,i64 (i39:Int)),(13,sli 3 (List.map Qd x40))]) (λs58=>[]) (rE eI) ?_ ?_
   . intro i59 x60 s58 hx61
     refine z [7,2,43,42] ?_;refine o (al' 100) ?_;refine z [34,1] ?_;refine sjq (λs68=>[(2,bl false),(7,sli 1 (List.map Qj x0)),(8,i64 (x0.length:Int)),(9,i64 (i39:Int)),(13,sli 3 (List.map Qd x40)),(14,i64 (x40.length:Int)),(15,i64 (i59:Int)),(26,bl s68)]) (λs68=>[]) ?_ ?_
     . intro j66 hj67
       refine z [6,32] ?_;refine cb (ca Ql7) λr69=>?_;refine z [44,30] ?_;refine sifd 22 rfl ?_ ?_
       . refine z [23,23,23,38,1] ?_;exact sj (hj67 _) (eR [])
       refine z [22] ?_;refine b λr71 h72=>?_;refine og' (c0 (Qso _ h72)) ?_;refine z [22,37,1] ?_;exact sj (hj67 _) (eR [])
     intro s68
     refine c ?_ ?_
     . refine z [2,31,1,8,12] ?_;refine sU ?_;refine z [12,12] ?_;refine sU ?_;refine z [12,10] ?_;exact rt []
     refine z [9,11] ?_;exact sgo eI
   intro s73
   refine z [13,11] ?_;exact sgo eI
 intro s74
 refine z [13,4,2,31,1,8] ?_;exact rt []
theorem Qsp{n:Nat}{x0}{x1}:∀ r,Qex n x0 x1=some r->FnOk Tryz.prog 151 [Q4 x0,Q4 x1] [] (Q4 r) []:=by
 unfold Qex
 refine fs Tryz.func151 λw S0 γ hγ=>?_;refine z [2] ?_;refine o (bx' 100) ?_;refine o (bx' 101) ?_;refine o (al' 102) ?_;refine z [1,5] ?_;refine b λr1 h2=>?_;refine b λr3 h4=>?_;refine sd ?_;refine zd [[100],[100],[101],[101],[],[100],[100],[101],[101]] ?_;refine dd [] (λ_ _ _ _=>c0 (Qcv _ h2)) ?_;refine dd [] (λ_ _ _ _=>c0 (Yr _ h4)) ?_;refine zd [[102]] ?_;refine de fol ?_;refine z [4,8] ?_;exact rt []
theorem Qb9{n:Nat}{x0}{x1}:∀ r,Yf n x0 x1=some r->FnOk Tryz.prog 84 [Q4 x0,sli 1 (List.map u32 x1)] [] (Q4 r) []:=by
 unfold Yf
 refine fs Tryz.func84 λw S0 γ hγ=>?_;refine z [2] ?_;refine o (bx' 100) ?_;refine o (al' 101) ?_;refine z [1,2,32,30] ?_;refine s1 (bld (l:=[bl false,sli 1 (List.map u32 x1)]) pl_51.h ti_51.h Wk ⟨_,_,_,rfl,rfl,rfl,rfl,(szk (k:=1) rfl rfl),rfl⟩ rfl) ?_;refine cb (ca Qsp) λr1=>?_;refine z [34,1,8] ?_;exact rt []
theorem Q3y{n:Nat}{x0}{x1}:∀ r,Qkc n x0 x1=some r->FnOk Tryz.prog 204 [sli 1 (List.map u32 x0),sli 1 (List.map u32 x1)] [] (.tup [sli 1 (List.map u32 r.1),bl r.2]) []:=by
 unfold Qkc
 refine fs Tryz.func204 λw S0 γ hγ=>?_;refine z [2] ?_;refine s1 (asg rfl (kLm (k:=1) u32)) ?_;refine z [31,1,2,30] ?_;refine cb (ca Qad) λr1=>?_;refine z [30] ?_;refine cb (ca Qad) λr3=>?_;refine z [31,31,1,5,2,30,30] ?_;refine cb (ca Qhs) λr5=>?_;refine z [46,1] ?_;refine c ?_ ?_
 . refine z [2] ?_;refine s1 (asg rfl (kLm (k:=1) u32)) ?_;refine z [31,1,8,10] ?_;exact rt []
 refine z [9,4,2,30] ?_;refine b λr7 h8=>?_;refine o (cG (Qn1 _ h8) [] [(100,50)] []) ?_;refine z [31,1,2,31,1,5,2,30,39,30,1,7] ?_;refine srN (λs40=>[(0,sli 1 (List.map u32 r1)),(1,sli 1 (List.map u32 r3)),(4,sli 1 (List.map u32 ([]:List Nat))),(5,bl false),(6,.own 100),(7,u32 s40.2)]) (λs40=>[(100,.sl 189 1 (List.map u32 s40.1))]) (rE (eR [(100,100)])) ?_ ?_
 . intro i41 x42 s40 hx43
   refine z [7,2,30,31,1,2,31,1] ?_;refine sjq (λs48=>[(0,sli 1 (List.map u32 r1)),(1,sli 1 (List.map u32 r3)),(4,sli 1 (List.map u32 ([]:List Nat))),(5,bl false),(6,.own 100),(7,u32 s40.2),(8,i64 (i41:Int)),(9,u32 s48),(21,i64 (r1.length:Int)),(22,i64 (i41:Int))]) (λs48=>[(100,.sl 189 1 (List.map u32 s40.1))]) ?_ ?_
   . intro j46 hj47
     refine z [2,30,30,39,46,1] ?_;refine c ?_ ?_
     . refine z [6,30,30] ?_;refine b λy49 h50=>?_;refine z [43,42,31,1] ?_;exact sj (hj47 _) (eR [(100,100)])
     refine z [9,4] ?_;exact sj (hj47 _) (eR [(100,100)])
   intro s48
   refine z [6,30,30,30,30,43,42,30,30] ?_;refine cb (ca Qpp) λr51=>?_;refine z [30,35,35] ?_;refine b λy53 h54=>?_;refine z [50,53,31,3,11] ?_;exact sgo (eR [(100,100)])
 intro s55
 refine z [13,4,2,30] ?_;refine fz 100 [6,47] [] ?_;refine cb (ca Qad) λr56=>?_;refine z [31,31,1,8] ?_;exact rt []
theorem Q3z{n:Nat}{x0}{x1}:∀ r,Qkd n x0 x1=some r->FnOk Tryz.prog 150 [sli 1 (List.map u32 x0),sli 1 (List.map u32 x1)] [] (.tup [sli 1 (List.map u32 r.1),i64 r.2]) []:=by
 unfold Qkd
 refine fs Tryz.func150 λw S0 γ hγ=>?_;refine z [2] ?_;refine s1 (asg rfl (kLm (k:=1) u32)) ?_;refine z [31,1,2,30,30] ?_;refine cb (ca Qhs) λr1=>?_;refine z [31,1] ?_;refine sjq (λs5=>[(0,sli 1 (List.map u32 s5.1)),(1,sli 1 (List.map u32 s5.2)),(4,sli 1 (List.map u32 ([]:List Nat))),(5,i64 (0:Int)),(6,i64 r1)]) (λs5=>[]) ?_ ?_
 . intro j3 hj4
   refine z [2,30,46,1] ?_;refine c ?_ ?_
   . refine z [6,30,30,31,31,1] ?_;exact sj (hj4 _) eI
   refine z [9,4] ?_;exact sj (hj4 _) eI
 intro s5
 refine z [2,30,30] ?_;refine cb (ca Q3y) λr6=>?_;refine z [30,35,35,31,31,1,2,30,30,31,31,1,8] ?_;exact rt []
theorem Qsq{n:Nat}{x0}{x1}:∀ r,Qe0 n x0 x1=some r->FnOk Tryz.prog 83 [Q4 x0,Q4 x1] [] (Q4 r) []:=by
 unfold Qe0
 refine fs Tryz.func83 λw S0 γ hγ=>?_;refine z [2] ?_;refine o (bx' 100) ?_;refine o (bx' 101) ?_;refine o (al' 102) ?_;refine z [1,5,2,33,36,33,36,74,1] ?_;refine c ?_ ?_
 . refine z [5] ?_;refine b λr1 h2=>?_;refine b λr3 h4=>?_;refine sd ?_;refine zd [[100],[100],[100],[100],[101],[101]] ?_
   refine dx [15,17] [103] (λst mm ⟨a15,a17,_⟩ ⟨g103,_⟩=>og (toV (bsl (y:=103) (ls:=List.map Qbz ([x0.Abs,x1.Abs]:List (List Nat))) Tryz.underlying271 ti_32.h rfl rfl rfl rfl rfl ⟨rfl,(a15.trans rfl),(by exact rfl),(by exact rfl),rfl,(a17.trans rfl),(by exact rfl),(by exact rfl),trivial⟩ (g103.trans rfl) rfl) (Jn (f:=Qbz) (λ_=>Qgm) ([x0.Abs,x1.Abs]:List (List Nat))))) ?_
   refine dd [] (λ_ _ _ _=>c0 (Qra _ h2)) ?_;refine dd [] (λ_ _ _ _=>c0 (Yr _ h4)) ?_;refine zd [[102]] ?_;refine de fol ?_;refine z [4,8,10] ?_;exact rt []
 refine z [9,4,2,33,36,33,36] ?_;refine cb (ca Q3z) λr5=>?_;refine z [30,35,35,31,31,1,5,2,30,46,1] ?_;refine c ?_ ?_
 . refine z [2,33,36,30] ?_;refine cb (ca Yr) λr7=>?_;refine z [34,1,8,10] ?_;exact rt []
 refine z [9,4,2,33,36,30] ?_;refine cb (ca Yr) λr9=>?_;refine z [34,1,8] ?_;exact rt []
theorem Qei{n:Nat}{x0}{x1}:∀ r,Wz n x0 x1=some r->FnOk Tryz.prog 26 [Qd x0,Qd x1] [] (Qd r) []:=by
 unfold Wz
 refine fs Tryz.func26 λw S0 γ hγ=>?_;refine z [2] ?_;refine o (bx' 100) ?_;refine o (bx' 101) ?_;refine o (al' 102) ?_;refine z [1,2,32] ?_;refine cb (ca Xp) λr1=>?_;refine z [30,35,35] ?_;refine o (al' 103) ?_;refine z [34,31,1,2,32] ?_;refine cb (ca Xp) λr3=>?_;refine z [30,35,35] ?_;refine o (al' 104) ?_;refine z [34,31,1,5] ?_;refine b λr5 h6=>?_;refine b λr7 h8=>?_;refine b λr9 h10=>?_;refine b λr11 h12=>?_;refine b λr13 h14=>?_;refine sd ?_;refine zd [[103],[]] ?_;refine dd [] (λ_ _ _ _=>c0 (Qb9 _ h6)) ?_;refine zd [[104],[]] ?_;refine dd [] (λ_ _ _ _=>c0 (Qb9 _ h8)) ?_;refine dd [] (λ_ _ _ _=>c0 (Qsq _ h10)) ?_;refine zd [[],[]] ?_;refine dd [] (λ_ _ _ _=>c0 (Qcv _ h12)) ?_;refine dd [] (λ_ _ _ _=>c0 (Qck _ h14)) ?_;refine zd [[102]] ?_;refine de fol ?_;refine z [4,8] ?_;exact rt []
theorem Ql9{n:Nat}{x0}:∀ r,Qa3 n x0=some r->FnOk Tryz.prog 237 [sli 3 (List.map Qd x0)] [] (Qd r) []:=by
 unfold Qa3
 refine fs Tryz.func237 λw S0 γ hγ=>?_;refine z [2] ?_;refine o (al' 100) ?_;refine z [1,2] ?_;refine cb (ca Wc) λr1=>?_;refine o (al' 101) ?_;refine z [34,1,5,2,30,39,30,1,7] ?_;refine srN (λs16=>[(2,.own 100),(3,.own 101),(7,sli 3 (List.map Qd x0))]) (λs16=>[(100,.bx 53 (Qd (⟨(⟨false,[]⟩:Qf),[]⟩:Qb))),(101,.bx 53 (Qd s16))]) (rE (eR [(100,100),(101,101)])) ?_ ?_
 . intro i17 x18 s16 hx19
   refine z [7,2,43,42] ?_;refine o (al' 102) ?_;refine z [34,1,6,32,32] ?_;refine cb (ca Qei) λr20=>?_;refine z [34,3,11] ?_;exact sgo (eR [(100,100),(101,101)])
 intro s22
 refine z [13,4,2,32,34,1,8] ?_;exact rt []
theorem Qsr{n:Nat}{x0}:∀ r,Qe2 n x0=some r->FnOk Tryz.prog 158 [Q4 x0] [] (Q4 r) []:=by
 unfold Qe2
 refine fs Tryz.func158 λw S0 γ hγ=>?_;refine z [2] ?_;refine o (bx' 100) ?_;refine o (al' 101) ?_;refine z [1,5] ?_;refine b λr3 h4=>?_;refine b λr5 h6=>?_;refine sd ?_;refine zd [[100],[100],[],[100],[100]] ?_;refine dd [102] (λ_ _ _ _=>tV (cG (W0 _ h4) [] [(102,50)] [])) ?_;refine dd [] (λ_ _ _ _=>c0 (Yr _ h6)) ?_;refine zd [[101]] ?_;refine de fol ?_;refine z [4,8] ?_;exact rt []
theorem Qss{n:Nat}{x0}{x1}:∀ r,Qe3 n x0 x1=some r->FnOk Tryz.prog 87 [Q4 x0,Q4 x1] [] (Q4 r) []:=by
 unfold Qe3
 refine fs Tryz.func87 λw S0 γ hγ=>?_;refine z [2] ?_;refine o (bx' 100) ?_;refine o (bx' 101) ?_;refine o (al' 102) ?_;refine z [1,5] ?_;refine b λr1 h2=>?_;refine b λr3 h4=>?_;refine sd ?_;refine zd [[100],[101]] ?_;refine dd [] (λ_ _ _ _=>c0 (Qsr _ h2)) ?_;refine dd [] (λ_ _ _ _=>c0 (Qsq _ h4)) ?_;refine zd [[102]] ?_;refine de fol ?_;refine z [4,8] ?_;exact rt []
theorem Qiw{n:Nat}{x0}:∀ r,Qa1 n x0=some r->FnOk Tryz.prog 125 [Q4 x0] [] (i64 r) []:=by
 unfold Qa1
 refine fs Tryz.func125 λw S0 γ hγ=>?_;refine z [2] ?_;refine o (bx' 100) ?_;refine z [31,1,5,7,2,33,36] ?_;refine cb (ca Qiv) λr1=>?_;refine z [31,1] ?_;refine c ?_ ?_
 . refine z [2,31,1,8,12,10] ?_;exact rt []
 refine z [2,33,36,31,1] ?_;refine c ?_ ?_
 . refine z [2,31,1,8,12,10] ?_;exact rt []
 refine z [9,11,4,2,31,1,8] ?_;exact rt []
theorem Q07{n:Nat}{x0}{x1}:∀ r,Qgw n x0 x1=some r->FnOk Tryz.prog 124 [Q4 x0,Q4 x1] [] (i64 r) []:=by
 unfold Qgw
 refine fs Tryz.func124 λw S0 γ hγ=>?_;refine z [2] ?_;refine o (bx' 100) ?_;refine o (bx' 101) ?_;refine z [31,1,2,32,32] ?_;refine cb (ca Qss) λr1=>?_;refine cb (ca Qiw) λr3=>?_;refine z [31,1,8] ?_;exact rt []
theorem Qpr{n:Nat}{x0}{x1}:∀ r,Qcu n x0 x1=some r->FnOk Tryz.prog 67 [Qd x0,Qd x1] [] (i64 r) []:=by
 unfold Qcu
 refine fs Tryz.func67 λw S0 γ hγ=>?_;refine z [2] ?_;refine o (bx' 100) ?_;refine o (bx' 101) ?_;refine z [31,1,2,32] ?_;refine cb (ca Xp) λr1=>?_;refine z [30,35,35] ?_;refine o (al' 102) ?_;refine z [34,31,1,2,32] ?_;refine cb (ca Xp) λr3=>?_;refine z [30,35,35] ?_;refine o (al' 103) ?_;refine z [34,31,1,5] ?_;refine b λr5 h6=>?_;refine b λr7 h8=>?_;refine b λr9 h10=>?_;refine sd ?_;refine zd [[102],[]] ?_;refine dd [] (λ_ _ _ _=>c0 (Qb9 _ h6)) ?_;refine zd [[103],[]] ?_;refine dd [] (λ_ _ _ _=>c0 (Qb9 _ h8)) ?_;refine dd [] (λ_ _ _ _=>c0 (Q07 _ h10)) ?_;refine zd [[]] ?_;refine de fol ?_;refine z [4,8] ?_;exact rt []
theorem Qaz{n:Nat}{x0}{x1}:∀ r,Wr n x0 x1=some r->FnOk Tryz.prog 22 [Qd x0,Qd x1] [] (bl r) []:=by
 unfold Wr
 refine fs Tryz.func22 λw S0 γ hγ=>?_;refine z [2] ?_;refine o (bx' 100) ?_;refine o (bx' 101) ?_;refine z [31,1,2,32,32] ?_;refine cb (ca Qpr) λr1=>?_;refine z [41,31,1,8] ?_;exact rt []
theorem Qx3{n:Nat}{x0}:∀ r,Qer n x0=some r->FnOk Tryz.prog 236 [Jj x0] [] (bl r) []:=by
 unfold Qer
 refine fs Tryz.func236 λw S0 γ hγ=>?_;refine z [2] ?_;refine o (bx' 100) ?_;refine z [31,1,5,2,33,36,39,30,1,7] ?_;refine srN (λs12=>[(1,.own 100),(2,bl false),(6,sli 1 (List.map Qj x0.A))]) (λs12=>[(100,.bx 47 (Jj x0))]) (rE (eR [(100,100)])) ?_ ?_
 . intro i13 x14 s12 hx15
   refine z [7,2,30,43,42,31,31,1,5] ?_;refine b λr16 h17=>?_;refine b λy18 h19=>?_;refine b λr20 h21=>?_;refine sd ?_;refine zd [[]] ?_;refine dd [] (λ_ _ _ _=>c0 (Ql9 _ h17)) ?_;refine zd [[100],[100],[],[],[]] ?_;refine dd [] (λ_ _ _ _=>c0 (Qaz _ h21)) ?_;refine zd [[]] ?_;refine de fol ?_;refine z [4] ?_;refine c ?_ ?_
   . refine z [2,31,1,8,12] ?_;refine sU ?_;refine z [12,10] ?_;exact rt []
   refine z [9,11] ?_;exact sgo (eR [(100,100)])
 intro s22
 refine z [13,4,2,31,1,8] ?_;exact rt []
theorem Qoj{n:Nat}{x0}:∀ r,Qbx n x0=some r->FnOk Tryz.prog 190 [Jj x0] [] (i64 r) []:=by
 unfold Qbx
 refine fs Tryz.func190 λw S0 γ hγ=>?_;refine z [2] ?_;refine o (bx' 100) ?_;refine z [31,1,2] ?_;refine cb (ca Wc) λr1=>?_;refine o (al' 101) ?_;refine z [34,1,5,7,2,33,36] ?_;refine s1 (bld (l:=[i64 (2:Int),str x0.Name,i64 0]) Q3r.h Q3q.h Qsj ⟨_,_,_,(kI (x:=2) rfl),rfl,rfl,rfl,(szk (k:=1) rfl rfl),⟨_,_,_,rfl,rfl,rfl,rfl,(szk (k:=1) rfl rfl),rfl⟩⟩ rfl) ?_;refine cb (ca Qsl) λr3=>?_;refine z [44,31,1] ?_;refine c ?_ ?_
 . refine z [2,31,1,8,12,10] ?_;exact rt []
 refine z [2,32] ?_;refine cb (ca Qvq) λr5=>?_;refine z [44,31,1] ?_;refine c ?_ ?_
 . refine z [2,31,1,8,12,10] ?_;exact rt []
 refine sjq (λs13=>[(1,.own 100),(2,i64 (0:Int)),(3,.own 101),(15,bl s13)]) (λs13=>[(100,.bx 47 (Jj x0)),(101,.bx 53 (Qd r1))]) ?_ ?_
 . intro j11 hj12
   refine z [6,33,36] ?_;refine cb (ca Ql8) λr14=>?_;refine z [44,30] ?_;refine sifd 20 rfl ?_ ?_
   . refine z [23,23,23,23,23,23,23,23,23,38,31,1] ?_;exact sj (hj12 _) (eR [(100,100),(101,101)])
   refine z [22,22,22,22,22,22] ?_
   refine sg 20 rfl rfl (bsl (y:=102) (ls:=List.map Qj ([x0.B,x0.C,x0.E]:List (List Qb))) Tryz.underlying45 ti_44.h rfl rfl rfl rfl rfl ⟨rfl,rfl,(by exact rfl),(by exact rfl),rfl,rfl,(by exact rfl),(by exact rfl),rfl,rfl,(by exact rfl),(by exact rfl),trivial⟩ rfl rfl) ?_
   refine b λr16 h17=>?_
   refine sg 20 rfl rfl (callL (em:=[]) [102] [] [] [] rfl (Ql8 _ h17) trivial (pl_bl) ⟨.inr ⟨102,rfl,.inl ⟨rfl,.inl ⟨_,_,_,rfl,Jn (f:=Qj) (λ_=>Qgm) ([x0.B,x0.C,x0.E]:List (List Qb)),rfl⟩⟩⟩,trivial⟩ (λ_ _ h=>by cases h) trivial rfl trivial trivial rfl trivial trivial trivial (rn_id (if_bl)) rfl) ?_
   refine z [22,37,31,1] ?_;exact sj (hj12 _) (eR [(100,100),(101,101)])
 intro s13
 refine c ?_ ?_
 . refine z [2,31,1,8,12,10] ?_;exact rt []
 refine z [2,32] ?_;refine cb (ca Qx3) λr18=>?_;refine z [44,31,1] ?_;refine c ?_ ?_
 . refine z [2,31,1,8,12,10] ?_;exact rt []
 refine z [5] ?_;refine b λr20 h21=>?_;refine b λr22 h23=>?_;refine sd ?_;refine zd [[100],[100]] ?_;refine dd [] (λ_ _ _ _=>c0 (Ql9 _ h21)) ?_;refine zd [[101]] ?_;refine dd [] (λ_ _ _ _=>c0 (Qaz _ h23)) ?_;refine zd [[],[]] ?_;refine de fol ?_;refine z [4] ?_;refine c ?_ ?_
 . refine z [2,31,1,8,12,10] ?_;exact rt []
 refine sjq (λs31=>[(2,i64 (0:Int)),(42,bl s31)]) (λs31=>[]) ?_ ?_
 . intro j29 hj30
   refine sif (λhb32=>?_) (λhb32=>?_)
   . refine b λr33 h34=>?_;refine b λr35 h36=>?_;refine sd ?_;refine zd [[100],[100],[],[]] ?_;refine dd [] (λ_ _ _ _=>obk hb32 ops) ?_;refine zd [[100],[100]] ?_;refine dG [] (λ_ _ _ _=>c0 (Ql9 _ h34)) ?_;refine zd [[101]] ?_;refine dG [] (λ_ _ _ _=>c0 (Qaz _ h36)) ?_;refine zd [[],[],[]] ?_;refine de fol ?_;refine z [4] ?_;exact sj (hj30 _) (eR [])
   refine sd ?_;refine zd [[100],[100],[],[]] ?_;refine dd [] (λ_ _ _ _=>obk hb32 ops) ?_;refine zd [[],[],[],[],[],[],[],[]] ?_;refine de fol ?_;refine z [4] ?_;exact sj (hj30 _) (eR [])
 intro s31
 refine c ?_ ?_
 . refine z [2,31,1,8,12,10] ?_;exact rt []
 refine z [9,11,4,2,31,1,8] ?_;exact rt []
theorem Qvr{n:Nat}{x0}:∀ r,Qjo n x0=some r->FnOk Tryz.prog 162 [str x0] [] (.tup [Jj r.1,Qv r.2]) []:=by
 unfold Qjo
 refine fs Tryz.func162 λw S0 γ hγ=>?_;refine z [2] ?_;refine o (al' 100) ?_;refine o (al' 101) ?_;refine z [1,5,2,30,54,47,1] ?_;refine c ?_ ?_
 . refine z [2] ?_;refine s1 (bld (l:=[str [],sli 3 (List.map Qd []),sli 1 (List.map Qj []),sli 3 (List.map Qd []),sli 3 (List.map Qd [])]) pl_47.h ti_47.h Zm rfl rfl) ?_;refine s1 (bld (l:=[i64 (1:Int),i64 0,i64 0,i64 (4000:Int)]) pl_63.h ti_63.h Qu ⟨_,_,_,(kI (x:=1) rfl),rfl,rfl,rfl,(szk (k:=1) rfl rfl),⟨_,_,_,(kI (x:=4000) rfl),rfl,rfl,rfl,(szk (k:=1) rfl rfl),rfl⟩⟩ rfl) ?_;refine z [34,34,1,8,10] ?_;exact rt []
 refine z [9,4,2,30] ?_;refine cb (ca Qx2) λr1=>?_;refine z [30,35,35] ?_;refine o (al' 102) ?_;refine o (al' 103) ?_;refine z [34,34,1,5,2,32] ?_;refine s1 (bld (l:=[i64 0,i64 0,i64 0,i64 0]) pl_63.h ti_63.h Qu rfl rfl) ?_;refine s1 (neA (p:=(r1.2:Qe)) (q:=((⟨0,0,0,0⟩:Qe):Qe)) Vo rfl eg_63 rfl rfl rfl) ?_;refine z [1] ?_;refine c ?_ ?_
 . refine z [5] ?_;refine sd ?_;refine dx [] [] (λst mm _ _=>og (bld (l:=[str [],sli 3 (List.map Qd []),sli 1 (List.map Qj []),sli 3 (List.map Qd []),sli 3 (List.map Qd [])]) pl_47.h ti_47.h Zm rfl rfl)) ?_;refine zd [[103],[100],[101]] ?_;refine de fol ?_;refine z [4,8,10] ?_;exact rt []
 refine z [9,4,5,2,32] ?_;refine cb (ca Qoj) λr3=>?_;refine z [31,1,2,30,56,1] ?_;refine c ?_ ?_
 . refine z [2] ?_;refine s1 (bld (l:=[str [],sli 3 (List.map Qd []),sli 1 (List.map Qj []),sli 3 (List.map Qd []),sli 3 (List.map Qd [])]) pl_47.h ti_47.h Zm rfl rfl) ?_;refine z [30] ?_;refine s1 (bld (l:=[i64 (2:Int),i64 0,i64 0,i64 r3]) pl_63.h ti_63.h Qu ⟨_,_,_,(kI (x:=2) rfl),rfl,rfl,rfl,(szk (k:=1) rfl rfl),⟨_,_,_,rfl,rfl,rfl,rfl,(szk (k:=1) rfl rfl),rfl⟩⟩ rfl) ?_;refine z [34,34,1,8,10] ?_;exact rt []
 refine z [9,4,5] ?_;refine sd ?_;refine zd [[102],[103],[100],[101]] ?_;refine de fol ?_;refine z [4,8] ?_;exact rt []
theorem Q08{n:Nat}{x0}:∀ r,Qnw n x0=some r->FnOk Tryz.prog 92 [str x0] [] (.tup [Jj r.1,bl r.2]) []:=by
 unfold Qnw
 refine fs Tryz.func92 λw S0 γ hγ=>?_;refine z [2] ?_;refine o (al' 100) ?_;refine z [31,1,5,2] ?_;refine cb (ca Qxy) λr1=>?_;refine z [30,1,7] ?_;refine sloopE 0 Lp.go (λs17=>[(0,str x0),(2,.own 100),(3,bl false),(8,Qj4 r1),(9,i64 s17)]) (λs17=>[(100,.bx 47 (Jj (⟨[],[],[],[],[]⟩:Qr)))]) (λt15=>[(2,.own 100),(3,bl false)]) (λt15=>[(100,.bx 47 (Jj (⟨[],[],[],[],[]⟩:Qr)))]) (eR [(100,100)]) ?_ ?_
 . intro hj16 s17
   refine z [2,46,1,5] ?_;refine c ?_ ?_
   . refine z [9,4,5,7,2] ?_;refine b λy18 h19=>?_;refine s1 (ixV (f:=str) (xs:=([r1.a0,r1.a1,r1.a2,r1.a3,r1.a4,r1.a5]:List (List UInt8))) (y:=y18) Tryz.underlying233 sh_9.h rfl h19 (λ_=>rfl) (λ_=>rfl) rfl rfl rfl) ?_;refine z [31,1,2,30] ?_;refine cb (ca Qzk) λr20=>?_;refine z [30,72,1] ?_;refine c ?_ ?_
     . refine z [2,30] ?_;refine cb (ca Qvr) λr22=>?_;refine z [30,35,35] ?_;refine o (al' 101) ?_;refine o (al' 102) ?_;refine z [34,34,1,2,32,34,31,1,8,12,10] ?_;refine sU ?_;refine z [12,10] ?_;exact rt []
     refine z [9,11,4,6,40,30,3] ?_;exact sgo (eR [(100,100)])
   refine z [14,15] ?_;exact su (sj (hj16 _) (eR [(100,100)]))
 intro t15
 refine slpk ?_;refine z [13,4,2] ?_;refine s1 (bld (l:=[str [],sli 3 (List.map Qd []),sli 1 (List.map Qj []),sli 3 (List.map Qd []),sli 3 (List.map Qd [])]) pl_47.h ti_47.h Zm rfl rfl) ?_;refine z [34,31,1,8] ?_;exact rt []
end Go.Proofs.YtlihkcaoachkdaaGreatDoor
