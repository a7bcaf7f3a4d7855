import Derived.Test.YtlihkcaoachkdaaGreatDoorGen0
import Derived.Test.YtlihkcaoachkdaaGreatDoorGenA1
set_option maxRecDepth 100000
set_option maxHeartbeats 4000000
namespace Go.Proofs.YtlihkcaoachkdaaGreatDoor
open Go Go.RowKit
theorem Qt6{n:Nat}{x0}{x1}:∀ r,Qat n x0 x1=some r->FnOk Tryz.prog 202 [sli 1 (List.map u32 x0),sli 1 (List.map u32 x1)] [] (sli 1 (List.map u32 r)) []:=by
 unfold Qat
 refine fs Tryz.func202 λw S0 γ hγ=>?_;refine z [2] ?_;refine s1 (asg rfl (kLm (k:=1) u32)) ?_;refine z [1] ?_;refine sjq (λs3=>[(0,sli 1 (List.map u32 s3.1)),(1,sli 1 (List.map u32 s3.2)),(4,sli 1 (List.map u32 ([]:List Nat)))]) (λs3=>[]) ?_ ?_
 . intro j1 hj2
   refine z [2,30,39,30,39,46,1] ?_;refine c ?_ ?_
   . refine z [6,30,30,31,31,1] ?_;exact sj (hj2 _) eI
   refine z [9,4] ?_;exact sj (hj2 _) eI
 intro s3
 refine z [2,30] ?_;refine b λr4 h5=>?_;refine o (cG (Qh9 _ h5) [] [(100,50)] []) ?_;refine z [31,1,2,31,1,5,2,30,39,30,1,7] ?_;refine srN (λs37=>[(0,sli 1 (List.map u32 s3.1)),(1,sli 1 (List.map u32 s3.2)),(4,sli 1 (List.map u32 ([]:List Nat))),(5,.own 100),(6,u32 s37.2)]) (λs37=>[(100,.sl 189 1 (List.map u32 s37.1))]) (rE (eR [(100,100)])) ?_ ?_
 . intro i38 x39 s37 hx40
   refine z [7,2,30,31,1,2,31,1] ?_;refine sjq (λs45=>[(0,sli 1 (List.map u32 s3.1)),(1,sli 1 (List.map u32 s3.2)),(4,sli 1 (List.map u32 ([]:List Nat))),(5,.own 100),(6,u32 s37.2),(7,i64 (i38:Int)),(8,u32 s45),(19,i64 (s3.1.length:Int)),(20,i64 (i38:Int))]) (λs45=>[(100,.sl 189 1 (List.map u32 s37.1))]) ?_ ?_
   . intro j43 hj44
     refine z [2,30,30,39,46,1] ?_;refine c ?_ ?_
     . refine z [6,30,30] ?_;refine b λy46 h47=>?_;refine z [43,42,31,1] ?_;exact sj (hj44 _) (eR [(100,100)])
     refine z [9,4] ?_;exact sj (hj44 _) (eR [(100,100)])
   intro s45
   refine z [6,30,30,30,30,43,42,30,30] ?_;refine cb (ca Qgi) λr48=>?_;refine z [30,35,35] ?_;refine b λy50 h51=>?_;refine z [50,53,31,3,11] ?_;exact sgo (eR [(100,100)])
 intro s52
 refine z [13,4,2,30,30,39,30] ?_;refine b λy53 h54=>?_;refine z [50,53,1,2,30] ?_;refine fz 100 [5,45,50] [] ?_;refine cb (ca Xj) λr55=>?_;refine z [31,1,8] ?_;exact rt []
theorem Qkl{n:Nat}{x0}:∀ r,Qbz n x0=some r->FnOk Tryz.prog 149 [sli 1 (List.map Zf x0)] [] (sli 1 (List.map u32 r)) []:=by
 unfold Qbz
 refine fs Tryz.func149 λw S0 γ hγ=>?_;refine z [2] ?_;refine s1 (asg rfl (kLm (k:=1) u32)) ?_;refine z [1,2] ?_;refine s1 (asg rfl (kLm (k:=1) u32)) ?_;refine z [1,5,2,30,39,30,1,7] ?_;refine srN (λs18=>[(2,sli 1 (List.map u32 ([]:List Nat))),(3,sli 1 (List.map u32 s18)),(6,sli 1 (List.map Zf x0))]) (λs18=>[]) (rE eI) ?_ ?_
 . intro i19 x20 s18 hx21
   refine z [7,2,43,42,31,1,6,30,30] ?_;refine cb (ca Xj) λr22=>?_;refine cb (ca Qt6) λr24=>?_;refine z [31,3,11] ?_;exact sgo eI
 intro s26
 refine z [13,4,2,30,31,1,8] ?_;exact rt []
theorem Qp9{n:Nat}{x0}:∀ r,Qf2 n x0=some r->FnOk Tryz.prog 351 [sli 1 (List.map u32 x0)] [] (sli 1 (List.map u32 r)) []:=by
 unfold Qf2
 refine fs Tryz.func351 λw S0 γ hγ=>?_;refine z [2] ?_;refine s1 (asg rfl (kLm (k:=1) u32)) ?_;refine z [1,2,30,39,76,40] ?_;refine b λy1 h2=>?_;refine so (mks (y:=100) (f:=u32) h2 Tryz.underlying32 Y3.h Qdw rfl rfl rfl rfl rfl rfl) ?_;refine z [31,1,5,2,30,39,30,1,7] ?_;refine srN (λs20=>[(0,sli 1 (List.map u32 x0)),(2,sli 1 (List.map u32 ([]:List Nat))),(3,.own 100),(15,sli 1 (List.map u32 x0))]) (λs20=>[(100,.sl 189 1 (List.map u32 s20))]) (rE (eR [(100,100)])) ?_ ?_
 . intro i21 x22 s20 hx23
   refine z [7,2,30,43,42,31,31,1,6,30,30,76,40,30,30,40] ?_;refine b λy24 h25=>?_;refine s1 (slR (f:=u32) h25 Tryz.underlying32 Y3.h rfl rfl (bnd rfl) bnd0) ?_;refine z [30] ?_;refine b λr26 h27=>?_;refine o (cG (Qi3 _ h27) [100] [] []) ?_;refine z [3,11] ?_;exact sgo (eR [(100,100)])
 intro s28
 refine z [13,4,2,30] ?_;refine b λr29 h30=>?_;refine so (callL (em:=[(101,.sl 189 1 (List.map u32 r29))]) (res':=.own 101) [100] [] [(101,50)] [(101,50)] rfl (Qkk _ h30) ⟨Qdj (f:=u32) (λ_=>Qgs) _,trivial⟩ (Qgt) ⟨.inr ⟨100,rfl,.inl ⟨rfl,.inl ⟨_,_,_,rfl,K1 (f:=u32) (λ_=>Ye) s28,rfl⟩⟩⟩,.inl ⟨_,(kI (x:=1) rfl),rn_id Qa3⟩,trivial⟩ (MiF.get (mi:=[]) trivial) trivial rfl ⟨rfl,trivial⟩ ⟨.inl rfl,trivial⟩ rfl ⟨.inl ⟨_,_,rfl,rfl,rc_sl (K1 (f:=u32) (λ_=>Ye) r29)⟩,trivial⟩ trivial ⟨⟨_,rfl⟩,trivial⟩ (Vy rfl) rfl) ?_;refine z [31,1,2,30,39,76] ?_;refine b λy31 h32=>?_;refine so (mks (y:=102) (f:=u32) h32 Tryz.underlying32 Y3.h Qdw rfl rfl rfl rfl rfl rfl) ?_;refine z [31,1,5,2,30,39,30,1,7] ?_;refine srN (λs56=>[(2,sli 1 (List.map u32 ([]:List Nat))),(6,.own 101),(7,.own 102),(39,sli 1 (List.map u32 x0))]) (λs56=>[(101,.sl 189 1 (List.map u32 r29)),(102,.sl 189 1 (List.map u32 s56))]) (rE (eR [(101,101),(102,102)])) ?_ ?_
 . intro i57 x58 s56 hx59
   refine z [7,2,30,43,42,31,31,1,6,30,30,76,40,30,30,76,30,30] ?_;refine cb (ca Qgh) λr60=>?_;refine z [30,35,35] ?_;refine b λy62 h63=>?_;refine z [50,53] ?_;refine sbm (C:=λx=>.sl 189 1 (List.map u32 x)) 102 rfl λz64=>?_;refine b λy65 h66=>?_;refine z [50,53,3,11] ?_;exact sgo (eR [(101,101),(102,102)])
 intro s67
 refine z [13,4,2,30,30] ?_;refine fz 101 [6,62] [] ?_;refine fz 102 [7,63] [] ?_
 refine so (bsl (y:=103) (ls:=List.map Zf ([r29,s67]:List (List Nat))) Tryz.underlying271 ti_32.h rfl rfl rfl rfl rfl ⟨rfl,rfl,(by exact rfl),(by exact rfl),rfl,rfl,(by exact rfl),(by exact rfl),trivial⟩ rfl rfl) ?_
 refine fz 103 [64] [] ?_;refine cb (ca Qkl) λr68=>?_;refine z [31,1,8] ?_;exact rt []
theorem Zu{n:Nat}{x0}{x1}:∀ r,Wu n x0 x1=some r->FnOk Tryz.prog 85 [sli 1 (List.map u32 x0),sli 1 (List.map u32 x1)] [] (sli 1 (List.map u32 r)) []:=by
 unfold Wu
 refine fs Tryz.func85 λw S0 γ hγ=>?_;refine z [2] ?_;refine s1 (asg rfl (kLm (k:=1) u32)) ?_;refine z [1,2,30,39,30,39,40,40] ?_;refine b λy1 h2=>?_;refine so (mks (y:=100) (f:=u32) h2 Tryz.underlying32 Y3.h Qdw rfl rfl rfl rfl rfl rfl) ?_;refine z [31,1,5,2,30,39,30,1,7] ?_;refine srN (λs16=>[(0,sli 1 (List.map u32 x0)),(4,sli 1 (List.map u32 ([]:List Nat))),(5,.own 100),(15,sli 1 (List.map u32 x1))]) (λs16=>[(100,.sl 189 1 (List.map u32 s16))]) (rE (eR [(100,100)])) ?_ ?_
 . intro i17 x18 s16 hx19
   refine z [7,2,30,43,42,31,31,1,6,30,30,30,30] ?_;refine b λr20 h21=>?_;refine o (cG (Qi3 _ h21) [100] [] []) ?_;refine z [3,11] ?_;exact sgo (eR [(100,100)])
 intro s22
 refine z [13,4,2,30] ?_;refine b λr23 h24=>?_;refine so (callL (em:=[(101,.sl 189 1 (List.map u32 r23))]) (res':=.own 101) [100] [] [(101,50)] [(101,50)] rfl (Vb _ h24) ⟨Qdj (f:=u32) (λ_=>Qgs) _,trivial⟩ (Qgt) ⟨.inr ⟨100,rfl,.inl ⟨rfl,.inl ⟨_,_,_,rfl,K1 (f:=u32) (λ_=>Ye) s22,rfl⟩⟩⟩,trivial⟩ (MiF.get (mi:=[]) trivial) trivial rfl ⟨rfl,trivial⟩ ⟨.inl rfl,trivial⟩ rfl ⟨.inl ⟨_,_,rfl,rfl,rc_sl (K1 (f:=u32) (λ_=>Ye) r23)⟩,trivial⟩ trivial ⟨⟨_,rfl⟩,trivial⟩ (Vy rfl) rfl) ?_;refine z [31,1,8] ?_;refine fz 101 [4,29] [] ?_;exact rt []
theorem Qt7{n:Nat}{x0}{x1}:∀ r,Qi1 n x0 x1=some r->FnOk Tryz.prog 348 [sli 1 (List.map u32 x0),i64 x1] [] (.tup [sli 1 (List.map u32 r.1),bl r.2]) []:=by
 unfold Qi1
 refine fs Tryz.func348 λw S0 γ hγ=>?_;refine z [2] ?_;refine s1 (asg rfl (kLm (k:=1) u32)) ?_;refine z [31,1,2,30] ?_;refine cb (ca Qgk) λr1=>?_;refine z [31,1,5] ?_;refine sjq (λs6=>[(0,sli 1 (List.map u32 x0)),(1,i64 x1),(4,sli 1 (List.map u32 ([]:List Nat))),(5,bl false),(6,i64 r1),(22,bl s6)]) (λs6=>[]) ?_ ?_
 . intro j4 hj5
   refine z [6,30,46,30] ?_;refine sifd 13 rfl ?_ ?_
   . refine z [23,23,23,24,24,24,24,23,38,1] ?_;exact sj (hj5 _) eI
   refine z [22,22,22] ?_;refine sifd 16 rfl ?_ ?_
   . refine z [22,22] ?_;refine b λ_ h7=>?_;refine z [22,22,22,37,1] ?_;exact sj (hj5 _) eI
   refine z [23,23,23,23,22,37,1] ?_;exact sj (hj5 _) eI
 intro s6
 refine c ?_ ?_
 . refine z [2] ?_;refine s1 (asg rfl (kLm (k:=1) u32)) ?_;refine z [31,1,8,10] ?_;exact rt []
 refine z [9,4,2] ?_;refine cb (ca Y5) λr8=>?_;refine z [31,1,5,2,30,46,1] ?_;refine c ?_ ?_
 . refine sjq (λs16=>[(0,sli 1 (List.map u32 x0)),(1,i64 x1),(4,sli 1 (List.map u32 ([]:List Nat))),(5,bl false),(7,sli 1 (List.map u32 s16))]) (λs16=>[]) ?_ ?_
   . intro j14 hj15
     refine z [2,30,47,1] ?_;refine c ?_ ?_
     . refine z [6,30] ?_;refine b λr17 h18=>?_;refine o (cG (Vb _ h18) [] [(100,50)] []) ?_;refine z [31,3] ?_;refine fz 100 [7,29] [] ?_;refine z [4] ?_;exact sj (hj15 _) (eR [])
     refine z [9,4] ?_;exact sj (hj15 _) eI
   intro s16
   refine z [2,30,31,31,1,8,10] ?_;exact rt []
 refine z [9,4,5,2,30,83] ?_;refine cb (ca Y5) λr19=>?_;refine cb (ca Qgk) λr21=>?_;refine z [49,31,1,7] ?_;refine sloopE 0 (λt=>t) (λs57=>[(0,sli 1 (List.map u32 x0)),(1,i64 x1),(4,sli 1 (List.map u32 ([]:List Nat))),(5,bl false),(7,sli 1 (List.map u32 s57.1)),(8,i64 s57.2)]) (λs57=>[]) (λt55=>[(4,sli 1 (List.map u32 ([]:List Nat))),(5,bl false),(7,sli 1 (List.map u32 t55))]) (λt55=>[]) eI ?_ ?_
 . intro hj56 s57
   refine z [5,2,30,57,1] ?_;refine c ?_ ?_
   . refine z [9,4] ?_;refine sjq (λs66=>[(0,sli 1 (List.map u32 x0)),(1,i64 x1),(4,sli 1 (List.map u32 ([]:List Nat))),(5,bl false),(7,sli 1 (List.map u32 s66)),(8,i64 s57.2)]) (λs66=>[]) ?_ ?_
     . intro j64 hj65
       refine z [7,2,30] ?_;refine cb (ca Qp9) λr67=>?_;refine z [31,1,2,30,30] ?_;refine b λ_ h69=>?_;refine s1 (shrI (ge0 h69) rfl rfl rfl) ?_;refine z [77,41] ?_;refine sbn (F:=bl) 46 rfl λz70=>?_;refine z [1] ?_;refine c ?_ ?_
       . refine z [6,30,30] ?_;refine cb (ca Zu) λr71=>?_;refine z [31,3,11,4] ?_;exact sj (hj65 _) eI
       refine z [9,11,4] ?_;exact sj (hj65 _) eI
     intro s66
     refine z [6,30,49,31,3] ?_;exact sgo eI
   refine z [14,15] ?_;exact su (sj (hj56 _) eI)
 intro t55
 refine z [13,4,2,30,31,31,1,8] ?_;exact rt []
theorem Qqa{n:Nat}{x0}:∀ r,Qf3 n x0=some r->FnOk Tryz.prog 340 [i64 x0] [] (sli 1 (List.map u32 r)) []:=by
 unfold Qf3
 refine fs Tryz.func340 λw S0 γ hγ=>?_;refine z [2] ?_;refine s1 (asg rfl (kLm (k:=1) u32)) ?_;refine z [1,2] ?_;refine cb (ca Y5) λr1=>?_;refine z [30] ?_;refine cb (ca Qt7) λr3=>?_;refine z [30,35,35,31,31,1,2,30,31,1,8] ?_;exact rt []
theorem Qm1{n:Nat}{x0}{x1}{x2}{x3}:∀ r,Qei n x0 x1 x2 x3=some r->FnOk Tryz.prog 329 [Qq x0,bl x1,str x2,i64 x3] [] (.tup [Qb r.1,Qi r.2]) []:=by
 unfold Qei
 refine fs Tryz.func329 λw S0 γ hγ=>?_;refine z [2] ?_;refine o (bx' 100) ?_;refine o (al' 101) ?_;refine o (al' 102) ?_;refine z [1,2,30,30] ?_;refine cb (ca Qdm) λr1=>?_;refine z [30,35,35] ?_;refine o (al' 103) ?_;refine z [31,34,1,5,2,32] ?_;refine s1 (bld (l:=[i64 0,i64 0,i64 0,i64 0]) pl_63.h ti_63.h Ql rfl rfl) ?_;refine s1 (neA (p:=(r1.2:Qc)) (q:=((⟨0,0,0,0⟩:Qc):Qc)) J9 rfl eg_63 rfl rfl rfl) ?_;refine z [1] ?_;refine c ?_ ?_
 . refine z [5] ?_;refine b λr3 h4=>?_;refine sd ?_;refine dd [] (λ_ _ _ _=>c0 (J3 _ h4)) ?_;refine zd [[103],[101],[102]] ?_;refine de fol ?_;refine z [4,8,10] ?_;exact rt []
 refine z [9,4,2,30,54,30,49] ?_;refine cb (ca Qqa) λr5=>?_;refine z [31,1,2,33,36,30] ?_;refine cb (ca Zu) λr7=>?_;refine z [30] ?_
 refine so (bsl (y:=104) (ls:=List.map Zf ([r7,r1.1]:List (List Nat))) Tryz.underlying271 ti_32.h rfl rfl rfl rfl rfl ⟨rfl,rfl,(by exact rfl),(by exact rfl),rfl,rfl,(by exact rfl),(by exact rfl),trivial⟩ rfl rfl) ?_
 refine fz 104 [37] [] ?_;refine cb (ca Qkl) λr9=>?_;refine z [31,1,2,30,30] ?_;refine s1 (bld (l:=[bl x1,sli 1 (List.map u32 r9)]) pl_51.h ti_51.h J4 ⟨_,_,_,rfl,rfl,rfl,rfl,(szk (k:=1) rfl rfl),⟨_,_,_,rfl,rfl,rfl,rfl,(szk (k:=1) rfl rfl),rfl⟩⟩ rfl) ?_;refine z [30] ?_;refine cb (ca Qgj) λr11=>?_;refine z [30,35,35] ?_;refine o (al' 105) ?_;refine z [34,31,1,2,32] ?_;refine s1 (bld (l:=[i64 0,i64 0,i64 0,i64 0]) pl_63.h ti_63.h Ql rfl rfl) ?_;refine z [34,34,1,8] ?_;exact rt []
theorem Qjt{n:Nat}{x0}:∀ r,Qc9 n x0=some r->FnOk Tryz.prog 315 [str x0] [] (.tup [Qb r.1,Qi r.2]) []:=by
 unfold Qc9
 refine fs Tryz.func315 λw S0 γ hγ=>?_;refine z [2] ?_;refine o (al' 100) ?_;refine o (al' 101) ?_;refine z [1,2,30] ?_;refine cb (ca Qke) λr1=>?_;refine z [31,1,2,30,31,1] ?_;refine sjq (λs7=>[(0,str x0),(2,.own 100),(3,.own 101),(4,i64 r1),(5,str s7)]) (λs7=>[(100,.bx 53 (Qb (⟨(⟨false,[]⟩:Qd),[]⟩:Qa))),(101,.bx 63 (Qi (⟨0,0,0,0⟩:Qc)))]) ?_ ?_
 . intro j5 hj6
   refine z [2,30,57,1] ?_;refine c ?_ ?_
   . refine z [6,30,30] ?_;refine b λy8 h9=>?_;refine s1 (slS h9 Tryz.underlying9 rfl rfl bnd0 (bnd rfl)) ?_;refine z [31,1] ?_;exact sj (hj6 _) (eR [(100,100),(101,101)])
   refine z [9,4] ?_;exact sj (hj6 _) (eR [(100,100),(101,101)])
 intro s7
 refine z [2,30] ?_;refine cb (ca Qrk) λr10=>?_;refine z [30,35,35] ?_;refine o (al' 102) ?_;refine o (al' 103) ?_;refine z [34,34,1,5,7,2,32] ?_;refine s1 (bld (l:=[i64 0,i64 0,i64 0,i64 0]) pl_63.h ti_63.h Ql rfl rfl) ?_;refine s1 (neA (p:=(r10.2:Qc)) (q:=((⟨0,0,0,0⟩:Qc):Qc)) J9 rfl eg_63 rfl rfl rfl) ?_;refine z [31,1] ?_;refine c ?_ ?_
 . refine z [5] ?_;refine b λr12 h13=>?_;refine sd ?_;refine dd [] (λ_ _ _ _=>c0 (J3 _ h13)) ?_;refine zd [[103],[100],[101]] ?_;refine de fol ?_;refine z [4,8,12,10] ?_;exact rt []
 refine z [2,30,46,31,1] ?_;refine c ?_ ?_
 . refine z [5] ?_;refine b λr14 h15=>?_;refine b λr16 h17=>?_;refine sd ?_;refine zd [[102]] ?_;refine dd [] (λ_ _ _ _=>c0 (Y5 _ h15)) ?_;refine dd [] (λ_ _ _ _=>c0 (Qgj _ h17)) ?_;refine zd [[],[],[]] ?_;refine dd [104] (λ_ _ _ _=>al' 104) ?_;refine zd [[104],[]] ?_;refine de fol ?_;refine z [4,2,32] ?_;refine s1 (bld (l:=[i64 0,i64 0,i64 0,i64 0]) pl_63.h ti_63.h Ql rfl rfl) ?_;refine z [34,34,1,8,12,10] ?_;exact rt []
 refine z [2,30,30] ?_;refine b λy18 h19=>?_;refine z [90,66,31,1] ?_;refine c ?_ ?_
 . refine z [2,32,30,30,40] ?_;refine cb (ca Qp8) λr20=>?_;refine z [35,35,34,34,1,8,12,10] ?_;exact rt []
 refine z [9,11,4,5] ?_;refine b λr22 h23=>?_;refine b λr24 h25=>?_;refine sd ?_;refine zd [[102],[]] ?_;refine dd [] (λ_ _ _ _=>c0 (Qj8 _ h23)) ?_;refine zd [[],[],[]] ?_;refine dd [] (λ_ _ _ _=>c0 (Qm1 _ h25)) ?_;refine zd [[],[],[100],[101]] ?_;refine de fol ?_;refine z [4,8] ?_;exact rt []
theorem Qe5{x0}{x1}:∀ r,Qaj x0 x1=some r->FnOk Tryz.prog 291 [Qi x0,i64 x1] [] (Qi r) []:=by
 unfold Qaj
 refine fs Tryz.func291 λw S0 γ hγ=>?_;refine z [2] ?_;refine o (bx' 100) ?_;refine o (al' 101) ?_;refine z [1] ?_;refine sjq (λs3=>[(2,.own 100),(4,.own 101)]) (λs3=>[(100,.bx 63 (Qi s3)),(101,.bx 63 (Qi (⟨0,0,0,0⟩:Qc)))]) ?_ ?_
 . intro j1 hj2
   refine z [2,32] ?_;refine s1 (bld (l:=[i64 0,i64 0,i64 0,i64 0]) pl_63.h ti_63.h Ql rfl rfl) ?_;refine s1 (neA (p:=(x0:Qc)) (q:=((⟨0,0,0,0⟩:Qc):Qc)) J9 rfl eg_63 rfl rfl rfl) ?_;refine z [1] ?_;refine c ?_ ?_
   . refine z [6,33,36,30,40,33] ?_;refine o (stP (Qi (⟨x0.Kind,x0.Step,x0.Stage,wrap64 (x0.At+x1)⟩:Qc)) [3]) ?_;refine z [1] ?_;exact sj (hj2 _) (eR [(100,100),(101,101)])
   refine z [9,4] ?_;exact sj (hj2 _) (eR [(100,100),(101,101)])
 intro s3
 refine z [2,32,34,1,8] ?_;exact rt []
theorem Qm2{n:Nat}{x0}:∀ r,Qgg n x0=some r->FnOk Tryz.prog 290 [str x0] [] (.tup [sli 3 (List.map Qb r.1),Qi r.2]) []:=by
 unfold Qgg
 refine fs Tryz.func290 λw S0 γ hγ=>?_;refine z [2] ?_;refine s1 (asg rfl (kLm (k:=3) Qb)) ?_;refine o (al' 100) ?_;refine z [1,5,2,30,72,1] ?_;refine c ?_ ?_
 . refine z [2] ?_;refine s1 (bld (l:=[i64 0,i64 0,i64 0,i64 0]) pl_63.h ti_63.h Ql rfl rfl) ?_;refine s1 (asg rfl (kLm (k:=3) Qb)) ?_;refine z [34,1,8,10] ?_;exact rt []
 refine z [9,4,2] ?_;refine so (asgN (y:=101) (E:=53) (k:=3) rfl rfl) ?_;refine z [1,2,31,1,5,2,30] ?_;refine cb (ca Qmv) λr1=>?_;refine z [39,30,1,7] ?_;refine srN (λs20=>[(2,sli 3 (List.map Qb ([]:List Qa))),(3,.own 100),(4,.own 101),(5,i64 s20.2),(14,sli 1 (List.map str r1))]) (λs20=>[(100,.bx 63 (Qi (⟨0,0,0,0⟩:Qc))),(101,.sl 53 3 (List.map Qb s20.1))]) (rE (eR [(100,100),(101,101)])) ?_ ?_
 . intro i21 x22 s20 hx23
   refine z [7,2,43,42,31,1,2,30] ?_;refine cb (ca Qjt) λr24=>?_;refine z [30,35,35] ?_;refine o (al' 102) ?_;refine o (al' 103) ?_;refine z [34,34,1,5,2,32] ?_;refine s1 (bld (l:=[i64 0,i64 0,i64 0,i64 0]) pl_63.h ti_63.h Ql rfl rfl) ?_;refine s1 (neA (p:=(r24.2:Qc)) (q:=((⟨0,0,0,0⟩:Qc):Qc)) J9 rfl eg_63 rfl rfl rfl) ?_;refine z [1] ?_;refine c ?_ ?_
   . refine z [2,33,36,30,40,33] ?_;refine o (stP (Qi (⟨r24.2.Kind,r24.2.Step,r24.2.Stage,wrap64 (r24.2.At+s20.2)⟩:Qc)) [3]) ?_;refine z [1,5] ?_;refine sd ?_;refine zd [[103]] ?_;refine dx [] [] (λst mm _ _=>og (asg rfl (kLm (k:=3) Qb))) ?_;refine zd [[100]] ?_;refine de fol ?_;refine z [4,8,10,12] ?_;refine sU ?_;refine z [12,10] ?_;exact rt []
   refine z [9,4,2,30,32] ?_
   refine so (bsl (y:=104) (ls:=List.map Qb ([r24.1]:List Qa)) Tryz.underlying44 ti_53.h rfl rfl rfl rfl rfl ⟨rfl,rfl,(by exact rfl),(by exact rfl),trivial⟩ rfl rfl) ?_
   refine b λy26 h27=>?_;refine o (app' 105) ?_;refine z [31,1,6,30,30,54,40,40,31,3,11] ?_;exact sgo (eR [(100,100),(101,105)])
 intro s28
 refine z [13,4,2,30] ?_;refine s1 (bld (l:=[i64 0,i64 0,i64 0,i64 0]) pl_63.h ti_63.h Ql rfl rfl) ?_;refine z [31,34,1,8] ?_;refine fz 101 [2,4,44] [] ?_;exact rt []
theorem Qoc{n:Nat}{x0}{x1}:∀ r,Qe2 n x0 x1=some r->FnOk Tryz.prog 288 [str x0,i64 x1] [] (.tup [Qb r.1,sli 3 (List.map Qb r.2.1),Qi r.2.2]) []:=by
 unfold Qe2
 refine fs Tryz.func288 λw S0 γ hγ=>?_;refine z [2] ?_;refine o (al' 100) ?_;refine s1 (asg rfl (kLm (k:=3) Qb)) ?_;refine o (al' 101) ?_;refine z [1,2,30] ?_;refine cb (ca Qfz) λr1=>?_;refine z [30,35,35,35,31,31,31,1,2,30] ?_;refine cb (ca Qjt) λr3=>?_;refine z [30,35,35] ?_;refine o (al' 102) ?_;refine o (al' 103) ?_;refine z [34,34,1,5,2,32] ?_;refine s1 (bld (l:=[i64 0,i64 0,i64 0,i64 0]) pl_63.h ti_63.h Ql rfl rfl) ?_;refine s1 (neA (p:=(r3.2:Qc)) (q:=((⟨0,0,0,0⟩:Qc):Qc)) J9 rfl eg_63 rfl rfl rfl) ?_;refine z [1] ?_;refine c ?_ ?_
 . refine z [5] ?_;refine b λr5 h6=>?_;refine sd ?_;refine zd [[102],[103],[]] ?_;refine dd [] (λ_ _ _ _=>c0 (Qe5 _ h6)) ?_;refine zd [[100]] ?_;refine dx [] [] (λst mm _ _=>og (asg rfl (kLm (k:=3) Qb))) ?_;refine zd [[101]] ?_;refine de fol ?_;refine z [4,8,10] ?_;exact rt []
 refine z [9,4,2,30] ?_;refine cb (ca Qm2) λr7=>?_;refine z [30,35,35,31,34,1,5] ?_;refine b λr9 h10=>?_;refine sd ?_;refine zd [[102],[],[103],[],[],[],[],[]] ?_;refine dd [] (λ_ _ _ _=>c0 (Qe5 _ h10)) ?_;refine zd [[100],[],[101]] ?_;refine de fol ?_;refine z [4,8] ?_;exact rt []
theorem Qgl{n:Nat}{x0}{x1}{x2_Name}{x2_C}{x2_A}{x2_B}{x2_E}:∀ r,Ym n x0 x1 x2_Name x2_C x2_A x2_B x2_E=some r->FnOk Tryz.prog 254 [.own 0,str x1,.own 1] [(0,.bx 323 (Jf x0)),(1,.bx 47 (.agg [str x2_Name,.own 2,.own 3,sli 3 (List.map Qb x2_B),sli 3 (List.map Qb x2_E)])),(2,.sl 53 3 (List.map Qb x2_C)),(3,.sl 44 1 (List.map Qe x2_A))] (Qi r.1) [(0,.bx 323 (Jf r.2.1)),(1,.bx 47 (.agg [str r.2.2.1,.own 62,.own 63,sli 3 (List.map Qb r.2.2.2.1),sli 3 (List.map Qb r.2.2.2.2.1)])),(2,.gone),(3,.gone),(62,.sl 53 3 (List.map Qb r.2.2.2.2.2.1)),(63,.sl 44 1 (List.map Qe r.2.2.2.2.2.2))]:=by
 unfold Ym
 refine fs Tryz.func254 λw S0 γ hγ=>?_;refine z [2] ?_;refine o (al' 100) ?_;refine z [1,7] ?_;refine Qyl (λs29=>[(0,.own 0),(1,str x1),(2,.own 1),(6,.own 100)]) (λs29=>[(2,.gone),(3,.gone),(0,.bx 323 (Jf s29.1)),(1,.bx 47 (.agg [str x2_Name,.own 101,.own 102,sli 3 (List.map Qb x2_B),sli 3 (List.map Qb x2_E)])),(101,.sl 53 3 (List.map Qb s29.2.1)),(102,.sl 44 1 (List.map Qe s29.2.2)),(100,.bx 63 (Qi (⟨0,0,0,0⟩:Qc)))]) (eR [(2,2),(3,3),(0,0),(1,1),(101,2),(102,3),(100,100)]) ?_
 intro s29
 refine z [7,2,30] ?_;refine b λr30 h31=>?_;refine o (cG (Zb _ h31) [0] [] []) ?_;refine z [30,35,35,35,31,31,31,1,5,2,30,44,1] ?_;refine c ?_ ?_
 . refine z [2] ?_;refine s1 (bld (l:=[i64 0,i64 0,i64 0,i64 0]) pl_63.h ti_63.h Ql rfl rfl) ?_;refine z [34,1,8,10,12] ?_;refine sU ?_;refine z [12] ?_;exact rt [(0,0),(1,1),(2,2),(3,3),(62,101),(63,102)]
 refine z [9,4,5,2,30] ?_;refine cb (ca Qkf) λr32=>?_;refine z [44,1] ?_;refine c ?_ ?_
 . refine z [2,30,30,30] ?_;refine b λr34 h35=>?_;refine o (cG (Qhg _ h35) [0] [] []) ?_;refine z [1,2] ?_;refine s1 (bld (l:=[i64 0,i64 0,i64 0,i64 0]) pl_63.h ti_63.h Ql rfl rfl) ?_;refine z [34,1,8,10,12] ?_;refine sU ?_;refine z [12] ?_;exact rt [(0,0),(1,1),(2,2),(3,3),(62,101),(63,102)]
 refine z [9,4,2,30,30] ?_;refine cb (ca Qoc) λr36=>?_;refine z [30,35,35,35] ?_;refine o (al' 103) ?_;refine o (al' 104) ?_;refine z [34,31,34,1,5,2,32] ?_;refine s1 (bld (l:=[i64 0,i64 0,i64 0,i64 0]) pl_63.h ti_63.h Ql rfl rfl) ?_;refine s1 (neA (p:=(r36.2.2:Qc)) (q:=((⟨0,0,0,0⟩:Qc):Qc)) J9 rfl eg_63 rfl rfl rfl) ?_;refine z [1] ?_;refine c ?_ ?_
 . refine z [2,32,34,1,8,10,12] ?_;refine sU ?_;refine z [12] ?_;exact rt [(0,0),(1,1),(2,2),(3,3),(62,101),(63,102)]
 refine z [9,4,5] ?_;refine b λy38 h39=>?_;refine sd ?_;refine zd [[],[],[1],[1],[1],[103]] ?_
 refine dx [46] [105] (λst mm ⟨a46,_⟩ ⟨g105,_⟩=>og (bsl (y:=105) (ls:=List.map Qb ([r36.1]:List Qa)) Tryz.underlying44 ti_53.h rfl rfl rfl rfl rfl ⟨rfl,(a46.trans rfl),(by exact rfl),(by exact rfl),trivial⟩ (g105.trans rfl) rfl)) ?_
 refine dd [101,105,106] (λ_ _ _ _=>app' 106) ?_;refine zd [[1],[1]] ?_;refine dd [1] (λ_ _ _ _=>stP (.agg [str x2_Name,.own 106,.own 102,sli 3 (List.map Qb x2_B),sli 3 (List.map Qb x2_E)]) [1]) ?_;refine de fol ?_;refine z [4,6,30,30,48,33,36,30] ?_
 refine so (bsl (y:=107) (ls:=List.map Qe ([r36.2.1]:List (List Qa))) Tryz.underlying45 ti_44.h rfl rfl rfl rfl rfl ⟨rfl,rfl,(by exact rfl),(by exact rfl),trivial⟩ rfl rfl) ?_
 refine b λy40 h41=>?_;refine o (app' 108) ?_;refine z [48,33] ?_;refine o (stP (.agg [str x2_Name,.own 106,.own 108,sli 3 (List.map Qb x2_B),sli 3 (List.map Qb x2_E)]) [2]) ?_;refine z [3,11] ?_;exact sgo (eR [(2,2),(3,3),(0,0),(1,1),(101,106),(102,108),(100,100)])
theorem Qbc{n:Nat}{x0}{x1}:∀ r,Wx n x0 x1=some r->FnOk Tryz.prog 255 [.own 0,str x1] [(0,.bx 323 (Jf x0))] (.tup [sli 3 (List.map Qb r.1),Qi r.2.1]) [(0,.bx 323 (Jf r.2.2))]:=by
 unfold Wx
 refine fs Tryz.func255 λw S0 γ hγ=>?_;refine z [2] ?_;refine s1 (asg rfl (kLm (k:=3) Qb)) ?_;refine o (al' 100) ?_;refine z [1,2,30] ?_;refine b λr1 h2=>?_;refine o (cG (Zb _ h2) [0] [] []) ?_;refine z [30,35,35,35,31,31,31,1,2,30,30] ?_;refine b λy3 h4=>?_;refine z [91] ?_;refine cb (ca Qeu) λr5=>?_;refine z [30,35,35,31,31,1,5,2,30,44,1] ?_;refine c ?_ ?_
 . refine z [2,30] ?_;refine s1 (bld (l:=[i64 (1:Int),i64 0,i64 0,i64 r1.2.1]) pl_63.h ti_63.h Ql ⟨_,_,_,(kI (x:=1) rfl),rfl,rfl,rfl,(szk (k:=1) rfl rfl),⟨_,_,_,rfl,rfl,rfl,rfl,(szk (k:=1) rfl rfl),rfl⟩⟩ rfl) ?_;refine s1 (asg rfl (kLm (k:=3) Qb)) ?_;refine z [34,1,8,10] ?_;exact rt [(0,0)]
 refine z [9,4,2,30] ?_;refine cb (ca Qm2) λr7=>?_;refine z [30,35,35] ?_;refine o (al' 101) ?_;refine z [31,34,1,2,30,32,30,30,54,40,40] ?_;refine cb (ca Qe5) λr9=>?_;refine z [31,34,1,8] ?_;exact rt [(0,0)]
theorem Qqb{n:Nat}{x0}:∀ r,Qf4 n x0=some r->FnOk Tryz.prog 210 [str x0] [] (.tup [Q3 r.1,Qi r.2]) []:=by
 unfold Qf4
 refine fs Tryz.func210 λw S0 γ hγ=>?_;refine z [2] ?_;refine o (al' 100) ?_;refine o (al' 101) ?_;refine z [1,2] ?_;refine so (alOw (y:=102) (ly:=.agg [str [],.own 103,.own 104,sli 3 (List.map Qb []),sli 3 (List.map Qb [])]) [(103,53,3),(104,44,1)] ti_47.h (Qih (Kj (c1:=[.string ⟨#[]⟩]) (zo_of Qct) (Kj (c1:=[.slice none 0 0]) (Qgu rfl) (Kj (c1:=[.slice none 0 0]) (Qgu rfl) (Kj (c1:=[.slice none 0 0]) (zo_of (Kv (k:=3))) (Kj (c1:=[.slice none 0 0]) (zo_of (Kv (k:=3))) (Qgn))))))) ⟨rfl,rfl,trivial⟩ rfl rfl rfl) ?_;refine z [1,2,30] ?_;refine s1 (bld (l:=[str x0,i64 0,bl false]) Qy0.h Qyz.h Ql6 ⟨_,_,_,rfl,rfl,rfl,rfl,(szk (k:=1) rfl rfl),rfl⟩ rfl) ?_;refine o (bx' 105) ?_;refine z [31,1,2,30] ?_;refine b λr1 h2=>?_;refine o (cG (Zb _ h2) [105] [] []) ?_;refine z [30,35,35,35,33] ?_;refine o (stP (.agg [str r1.1,.own 103,.own 104,sli 3 (List.map Qb []),sli 3 (List.map Qb [])]) [0]) ?_;refine z [1,5,2,33,36] ?_;refine s1 (bld (l:=[i64 (2:Int),str r1.1,i64 0]) Qu8.h Qu7.h Qlq ⟨_,_,_,(kI (x:=2) rfl),rfl,rfl,rfl,(szk (k:=1) rfl rfl),⟨_,_,_,rfl,rfl,rfl,rfl,(szk (k:=1) rfl rfl),rfl⟩⟩ rfl) ?_;refine cb (ca Qls) λr3=>?_;refine z [44,1] ?_;refine c ?_ ?_
 . refine z [2,32] ?_;refine s1 (bld (l:=[i64 (1:Int),i64 0,i64 0,i64 0]) pl_63.h ti_63.h Ql ⟨_,_,_,(kI (x:=1) rfl),rfl,rfl,rfl,(szk (k:=1) rfl rfl),rfl⟩ rfl) ?_;refine z [34,34,1,8,10] ?_;refine fz 103 [22] [100,102] ?_;refine fz 104 [22] [100,102] ?_;exact rt []
 refine z [9,4,2,30,30] ?_;refine b λr5 h6=>?_;refine o (cG (Qgl _ h6) [105,102,103,104] [(106,62),(107,63)] []) ?_;refine o (al' 108) ?_;refine z [34,1,5,2,32] ?_;refine s1 (bld (l:=[i64 0,i64 0,i64 0,i64 0]) pl_63.h ti_63.h Ql rfl rfl) ?_;refine s1 (neA (p:=(r5.1:Qc)) (q:=((⟨0,0,0,0⟩:Qc):Qc)) J9 rfl eg_63 rfl rfl rfl) ?_;refine z [1] ?_;refine c ?_ ?_
 . refine z [5] ?_;refine sd ?_;refine zd [[102],[108],[100],[101]] ?_;refine de fol ?_;refine z [4,8,10] ?_;refine fz 106 [30] [100,102] ?_;refine fz 107 [30] [100,102] ?_;exact rt []
 refine z [9,4,5,2,30] ?_;refine b λr7 h8=>?_;refine o (cG (Qbc _ h8) [105] [] []) ?_;refine z [30,35,35,33] ?_;refine o (stP (.agg [str r5.2.2.1,.own 106,.own 107,sli 3 (List.map Qb r7.1),sli 3 (List.map Qb r5.2.2.2.2.1)]) [3]) ?_;refine z [34,1] ?_;refine sjq (λs11=>[(2,.own 100),(3,.own 101),(4,.own 102),(5,.own 105),(6,.own 108),(46,bl s11)]) (λs11=>[(100,.bx 47 (Q3 (⟨[],[],[],[],[]⟩:Qj))),(101,.bx 63 (Qi (⟨0,0,0,0⟩:Qc))),(102,.bx 47 (.agg [str r5.2.2.1,.own 106,.own 107,sli 3 (List.map Qb r7.1),sli 3 (List.map Qb r5.2.2.2.2.1)])),(106,.sl 53 3 (List.map Qb r5.2.2.2.2.2.1)),(107,.sl 44 1 (List.map Qe r5.2.2.2.2.2.2)),(105,.bx 323 (Jf r7.2.2)),(108,.bx 63 (Qi r7.2.1))]) ?_ ?_
 . intro j9 hj10
   refine z [6,32] ?_;refine s1 (bld (l:=[i64 0,i64 0,i64 0,i64 0]) pl_63.h ti_63.h Ql rfl rfl) ?_;refine s1 (neA (p:=(r7.2.1:Qc)) (q:=((⟨0,0,0,0⟩:Qc):Qc)) J9 rfl eg_63 rfl rfl rfl) ?_;refine z [30] ?_;refine sifd 41 rfl ?_ ?_
   . refine z [23,23,23,23,38,1] ?_;exact sj (hj10 _) (eR [(100,100),(101,101),(102,102),(106,106),(107,107),(105,105),(108,108)])
   refine z [22,22,22,22,37,1] ?_;exact sj (hj10 _) (eR [(100,100),(101,101),(102,102),(106,106),(107,107),(105,105),(108,108)])
 intro s11
 refine c ?_ ?_
 . refine z [5] ?_;refine sd ?_;refine zd [[102],[108],[100],[101]] ?_;refine de fol ?_;refine z [4,8,10] ?_;refine fz 106 [47] [100,102] ?_;refine fz 107 [47] [100,102] ?_;exact rt []
 refine z [9,4,5,2,30] ?_;refine b λr12 h13=>?_;refine o (cG (Qbc _ h13) [105] [] []) ?_;refine z [30,35,35,33] ?_;refine o (stP (.agg [str r5.2.2.1,.own 106,.own 107,sli 3 (List.map Qb r7.1),sli 3 (List.map Qb r12.1)]) [4]) ?_;refine z [34,1] ?_;refine sjq (λs16=>[(2,.own 100),(3,.own 101),(4,.own 102),(5,.own 105),(6,.own 108),(63,bl s16)]) (λs16=>[(100,.bx 47 (Q3 (⟨[],[],[],[],[]⟩:Qj))),(101,.bx 63 (Qi (⟨0,0,0,0⟩:Qc))),(102,.bx 47 (.agg [str r5.2.2.1,.own 106,.own 107,sli 3 (List.map Qb r7.1),sli 3 (List.map Qb r12.1)])),(106,.sl 53 3 (List.map Qb r5.2.2.2.2.2.1)),(107,.sl 44 1 (List.map Qe r5.2.2.2.2.2.2)),(105,.bx 323 (Jf r12.2.2)),(108,.bx 63 (Qi r12.2.1))]) ?_ ?_
 . intro j14 hj15
   refine z [6,32] ?_;refine s1 (bld (l:=[i64 0,i64 0,i64 0,i64 0]) pl_63.h ti_63.h Ql rfl rfl) ?_;refine s1 (neA (p:=(r12.2.1:Qc)) (q:=((⟨0,0,0,0⟩:Qc):Qc)) J9 rfl eg_63 rfl rfl rfl) ?_;refine z [30] ?_;refine sifd 58 rfl ?_ ?_
   . refine z [23,23,23,23,38,1] ?_;exact sj (hj15 _) (eR [(100,100),(101,101),(102,102),(106,106),(107,107),(105,105),(108,108)])
   refine z [22,22,22,22,37,1] ?_;exact sj (hj15 _) (eR [(100,100),(101,101),(102,102),(106,106),(107,107),(105,105),(108,108)])
 intro s16
 refine c ?_ ?_
 . refine z [5] ?_;refine sd ?_;refine zd [[102],[108],[100],[101]] ?_;refine de fol ?_;refine z [4,8,10] ?_;refine fz 106 [64] [100,102] ?_;refine fz 107 [64] [100,102] ?_;exact rt []
 refine z [9,4,5] ?_;refine sd ?_;refine zd [[102],[],[105],[105],[105]] ?_;refine dx [70] [] (λst mm ⟨a70,_⟩ _=>og (bld (l:=[i64 (1:Int),i64 0,i64 0,i64 r12.2.2.at_]) pl_63.h ti_63.h Ql ⟨_,_,_,(kI (x:=1) rfl),rfl,rfl,rfl,(szk (k:=1) rfl rfl),⟨_,_,_,(a70.trans rfl),rfl,rfl,rfl,(szk (k:=1) rfl rfl),rfl⟩⟩ rfl)) ?_;refine zd [[100],[101]] ?_;refine de fol ?_;refine z [4,8] ?_;refine fz 106 [66] [100,102] ?_;refine fz 107 [66] [100,102] ?_;exact rt []
theorem Qod{x0}:∀ r,Qae x0=some r->FnOk Tryz.prog 234 [Q3 x0] [] (bl r) []:=by
 unfold Qae
 refine fs Tryz.func234 λw S0 γ hγ=>?_;refine z [2] ?_;refine o (bx' 100) ?_;refine z [31,1,2,33,36,39,31,1,5] ?_;refine sjq (λs3=>[(1,.own 100),(2,bl false),(41,bl s3)]) (λs3=>[(100,.bx 47 (Q3 x0))]) ?_ ?_
 . intro j1 hj2
   refine z [6,30,46,30] ?_;refine sifd 11 rfl ?_ ?_
   . refine z [23,23,38,30,23,23,23,23,23,38,30,23,23,23,23,23,38,30,23,23,23,23,23,23,24,24,24,24,23,38,1] ?_;exact sj (hj2 _) (eR [(100,100)])
   refine z [22,22,37,30] ?_;refine sifd 15 rfl ?_ ?_
   . refine z [23,23,23,23,23,38,30,23,23,23,23,23,38,30,23,23,23,23,23,23,24,24,24,24,23,38,1] ?_;exact sj (hj2 _) (eR [(100,100)])
   refine z [22,22,22,22,22,37,30] ?_;refine sifd 22 rfl ?_ ?_
   . refine z [23,23,23,23,23,38,30,23,23,23,23,23,23,24,24,24,24,23,38,1] ?_;exact sj (hj2 _) (eR [(100,100)])
   refine z [22,22,22,22,22,37,30] ?_;refine sifd 29 rfl ?_ ?_
   . refine z [23,23,23,23,23,23,24,24,24,24,23,38,1] ?_;exact sj (hj2 _) (eR [(100,100)])
   refine z [22,22,22,22,22,22] ?_;refine sifd 35 rfl ?_ ?_
   . refine z [22,22,22,22,22,37,1] ?_;exact sj (hj2 _) (eR [(100,100)])
   refine z [23,23,23,23,22,37,1] ?_;exact sj (hj2 _) (eR [(100,100)])
 intro s3
 refine c ?_ ?_
 . refine z [2,31,1,8,10] ?_;exact rt []
 refine z [9,4,5,2,33,36,39,30,1,7] ?_;refine srN (λs9=>[(2,bl false),(43,sli 1 (List.map Qe x0.A))]) (λs9=>[]) (rE (eR [])) ?_ ?_
 . intro i10 x11 s9 hx12
   refine z [7,2,30,43,42,31,31,1,2,30,39,30,56,1] ?_;refine c ?_ ?_
   . refine z [2,31,1,8,12] ?_;refine sU ?_;refine z [12,10] ?_;exact rt []
   refine z [9,11] ?_;exact sgo eI
 intro s13
 refine z [13,4,2,31,1,8] ?_;exact rt []
theorem Vi{n:Nat}{x0}:∀ r,J2 n x0=some r->FnOk Tryz.prog 81 [Qb x0] [] (.tup [Qq r.1,sli 1 (List.map u32 r.2)]) []:=by
 unfold J2
 refine fs Tryz.func81 λw S0 γ hγ=>?_;refine z [2] ?_;refine o (bx' 100) ?_;refine o (al' 101) ?_;refine s1 (asg rfl (kLm (k:=1) u32)) ?_;refine z [1,5,2,33,36] ?_;refine cb (ca Qi5) λr1=>?_;refine z [1] ?_;refine c ?_ ?_
 . refine z [2] ?_;refine s1 (bld (l:=[bl false,sli 1 (List.map u32 [])]) pl_51.h ti_51.h J4 rfl rfl) ?_;refine cb (ca Y5) λr3=>?_;refine z [34,31,1,8,10] ?_;exact rt []
 refine z [9,4,5] ?_;refine sd ?_;refine zd [[100],[100],[100],[100],[101],[]] ?_;refine de fol ?_;refine z [4,8] ?_;exact rt []
theorem J0{n:Nat}{x0}:∀ r,Jc n x0=some r->FnOk Tryz.prog 51 [Qb x0] [] (Qb r) []:=by
 unfold Jc
 refine fs Tryz.func51 λw S0 γ hγ=>?_;refine z [2] ?_;refine o (bx' 100) ?_;refine o (al' 101) ?_;refine z [1,2,32] ?_;refine cb (ca Vi) λr1=>?_;refine z [35,35] ?_;refine cb (ca Zg) λr3=>?_;refine z [34,1,8] ?_;exact rt []
theorem Qel{n:Nat}{x0}:∀ r,Kk n x0=some r->FnOk Tryz.prog 238 [Qb x0] [] (bl r) []:=by
 unfold Kk
 refine fs Tryz.func238 λw S0 γ hγ=>?_;refine z [2] ?_;refine o (bx' 100) ?_;refine z [31,1,2,32] ?_;refine cb (ca J0) λr1=>?_;refine o (al' 101) ?_;refine z [34,1] ?_;refine sjq (λs9=>[(2,bl s9)]) (λs9=>[]) ?_ ?_
 . intro j7 hj8
   refine z [6,33,45,36,33,45,36,74,30] ?_;refine sifd 13 rfl ?_ ?_
   . refine z [22,22,22,22,22,22,22,22,22,38,30] ?_;refine sifd 24 rfl ?_ ?_
     . refine z [22,22,22,22,22,22,22,38,30] ?_;refine sifd 33 rfl ?_ ?_
       . refine z [22,22,22,22,22,22] ?_;refine b λr10 h11=>?_;refine og' (c0 (Qft _ h11)) ?_;refine z [22,38,30] ?_;refine sifd 43 rfl ?_ ?_
         . refine z [22,22,22,22] ?_;refine b λr12 h13=>?_;refine og' (c0 (Qft _ h13)) ?_;refine z [22,38,31,1] ?_;exact sj (hj8 _) (eR [])
         refine z [23,23,23,23,23,23,37,31,1] ?_;exact sj (hj8 _) (eR [])
       refine z [23,23,23,23,23,23,23,23,37,30,23,23,23,23,23,23,37,31,1] ?_;exact sj (hj8 _) (eR [])
     refine z [23,23,23,23,23,23,23,37,30,23,23,23,23,23,23,23,23,37,30,23,23,23,23,23,23,37,31,1] ?_;exact sj (hj8 _) (eR [])
   refine z [23,23,23,23,23,23,23,23,23,37,30,23,23,23,23,23,23,23,37,30,23,23,23,23,23,23,23,23,37,30,23,23,23,23,23,23,37,31,1] ?_;exact sj (hj8 _) (eR [])
 intro s9
 refine z [8] ?_;exact rt []
theorem Qia{n:Nat}{x0}:∀ r,Ko n x0=some r->FnOk Tryz.prog 239 [Qb x0] [] (i64 r) []:=by
 unfold Ko
 refine fs Tryz.func239 λw S0 γ hγ=>?_;refine z [2] ?_;refine o (bx' 100) ?_;refine z [31,1,5] ?_;refine b λr1 h2=>?_;refine b λr3 h4=>?_;refine sd ?_;refine zd [[100],[],[100]] ?_;refine dd [] (λ_ _ _ _=>c0 (Qgk _ h2)) ?_;refine zd [[100],[100]] ?_;refine dd [] (λ_ _ _ _=>c0 (Qgk _ h4)) ?_;refine zd [[],[]] ?_;refine de fol ?_;refine z [4,8] ?_;exact rt []
theorem Qg4{n:Nat}{x0}:∀ r,Xt n x0=some r->FnOk Tryz.prog 235 [sli 1 (List.map Qe x0)] [] (bl r) []:=by
 unfold Xt
 refine fs Tryz.func235 λw S0 γ hγ=>?_;refine z [2,31,1,5,2,30,39,30,1,7] ?_;refine srN (λs38=>[(2,bl false),(7,sli 1 (List.map Qe x0))]) (λs38=>[]) (rE eI) ?_ ?_
 . intro i39 x40 s38 hx41
   refine z [7,2,43,42,31,1,2,30,39,30,1,7] ?_;refine srN (λs58=>[(2,bl false),(7,sli 1 (List.map Qe x0)),(8,i64 (x0.length:Int)),(9,i64 (i39:Int)),(13,sli 3 (List.map Qb x40))]) (λs58=>[]) (rE eI) ?_ ?_
   . intro i59 x60 s58 hx61
     refine z [7,2,43,42] ?_;refine o (al' 100) ?_;refine z [34,1] ?_;refine sjq (λs68=>[(2,bl false),(7,sli 1 (List.map Qe x0)),(8,i64 (x0.length:Int)),(9,i64 (i39:Int)),(13,sli 3 (List.map Qb x40)),(14,i64 (x40.length:Int)),(15,i64 (i59:Int)),(26,bl s68)]) (λs68=>[]) ?_ ?_
     . intro j66 hj67
       refine z [6,32] ?_;refine cb (ca Qel) λr69=>?_;refine z [44,30] ?_;refine sifd 22 rfl ?_ ?_
       . refine z [23,23,23,38,1] ?_;exact sj (hj67 _) (eR [])
       refine z [22] ?_;refine b λr71 h72=>?_;refine og' (c0 (Qia _ h72)) ?_;refine z [22,37,1] ?_;exact sj (hj67 _) (eR [])
     intro s68
     refine c ?_ ?_
     . refine z [2,31,1,8,12] ?_;refine sU ?_;refine z [12,12] ?_;refine sU ?_;refine z [12,10] ?_;exact rt []
     refine z [9,11] ?_;exact sgo eI
   intro s73
   refine z [13,11] ?_;exact sgo eI
 intro s74
 refine z [13,4,2,31,1,8] ?_;exact rt []
theorem Qib{n:Nat}{x0}{x1}:∀ r,Z0 n x0 x1=some r->FnOk Tryz.prog 151 [Qq x0,Qq x1] [] (Qq r) []:=by
 unfold Z0
 refine fs Tryz.func151 λw S0 γ hγ=>?_;refine z [2] ?_;refine o (bx' 100) ?_;refine o (bx' 101) ?_;refine o (al' 102) ?_;refine z [1,5] ?_;refine b λr1 h2=>?_;refine b λr3 h4=>?_;refine sd ?_;refine zd [[100],[100],[101],[101],[],[100],[100],[101],[101]] ?_;refine dd [] (λ_ _ _ _=>c0 (Zu _ h2)) ?_;refine dd [] (λ_ _ _ _=>c0 (Vx _ h4)) ?_;refine zd [[102]] ?_;refine de fol ?_;refine z [4,8] ?_;exact rt []
theorem Y6{n:Nat}{x0}{x1}:∀ r,V4 n x0 x1=some r->FnOk Tryz.prog 84 [Qq x0,sli 1 (List.map u32 x1)] [] (Qq r) []:=by
 unfold V4
 refine fs Tryz.func84 λw S0 γ hγ=>?_;refine z [2] ?_;refine o (bx' 100) ?_;refine o (al' 101) ?_;refine z [1,2,32,30] ?_;refine s1 (bld (l:=[bl false,sli 1 (List.map u32 x1)]) pl_51.h ti_51.h J4 ⟨_,_,_,rfl,rfl,rfl,rfl,(szk (k:=1) rfl rfl),rfl⟩ rfl) ?_;refine cb (ca Qib) λr1=>?_;refine z [34,1,8] ?_;exact rt []
theorem Qve{n:Nat}{x0}{x1}:∀ r,Qfq n x0 x1=some r->FnOk Tryz.prog 204 [sli 1 (List.map u32 x0),sli 1 (List.map u32 x1)] [] (.tup [sli 1 (List.map u32 r.1),bl r.2]) []:=by
 unfold Qfq
 refine fs Tryz.func204 λw S0 γ hγ=>?_;refine z [2] ?_;refine s1 (asg rfl (kLm (k:=1) u32)) ?_;refine z [31,1,2,30] ?_;refine cb (ca Xj) λr1=>?_;refine z [30] ?_;refine cb (ca Xj) λr3=>?_;refine z [31,31,1,5,2,30,30] ?_;refine cb (ca Qft) λr5=>?_;refine z [46,1] ?_;refine c ?_ ?_
 . refine z [2] ?_;refine s1 (asg rfl (kLm (k:=1) u32)) ?_;refine z [31,1,8,10] ?_;exact rt []
 refine z [9,4,2,30] ?_;refine b λr7 h8=>?_;refine o (cG (Qh9 _ h8) [] [(100,50)] []) ?_;refine z [31,1,2,31,1,5,2,30,39,30,1,7] ?_;refine srN (λs40=>[(0,sli 1 (List.map u32 r1)),(1,sli 1 (List.map u32 r3)),(4,sli 1 (List.map u32 ([]:List Nat))),(5,bl false),(6,.own 100),(7,u32 s40.2)]) (λs40=>[(100,.sl 189 1 (List.map u32 s40.1))]) (rE (eR [(100,100)])) ?_ ?_
 . intro i41 x42 s40 hx43
   refine z [7,2,30,31,1,2,31,1] ?_;refine sjq (λs48=>[(0,sli 1 (List.map u32 r1)),(1,sli 1 (List.map u32 r3)),(4,sli 1 (List.map u32 ([]:List Nat))),(5,bl false),(6,.own 100),(7,u32 s40.2),(8,i64 (i41:Int)),(9,u32 s48),(21,i64 (r1.length:Int)),(22,i64 (i41:Int))]) (λs48=>[(100,.sl 189 1 (List.map u32 s40.1))]) ?_ ?_
   . intro j46 hj47
     refine z [2,30,30,39,46,1] ?_;refine c ?_ ?_
     . refine z [6,30,30] ?_;refine b λy49 h50=>?_;refine z [43,42,31,1] ?_;exact sj (hj47 _) (eR [(100,100)])
     refine z [9,4] ?_;exact sj (hj47 _) (eR [(100,100)])
   intro s48
   refine z [6,30,30,30,30,43,42,30,30] ?_;refine cb (ca Qi6) λr51=>?_;refine z [30,35,35] ?_;refine b λy53 h54=>?_;refine z [50,53,31,3,11] ?_;exact sgo (eR [(100,100)])
 intro s55
 refine z [13,4,2,30] ?_;refine fz 100 [6,47] [] ?_;refine cb (ca Xj) λr56=>?_;refine z [31,31,1,8] ?_;exact rt []
theorem Qvf{n:Nat}{x0}{x1}:∀ r,Qfr n x0 x1=some r->FnOk Tryz.prog 150 [sli 1 (List.map u32 x0),sli 1 (List.map u32 x1)] [] (.tup [sli 1 (List.map u32 r.1),i64 r.2]) []:=by
 unfold Qfr
 refine fs Tryz.func150 λw S0 γ hγ=>?_;refine z [2] ?_;refine s1 (asg rfl (kLm (k:=1) u32)) ?_;refine z [31,1,2,30,30] ?_;refine cb (ca Qft) λr1=>?_;refine z [31,1] ?_;refine sjq (λs5=>[(0,sli 1 (List.map u32 s5.1)),(1,sli 1 (List.map u32 s5.2)),(4,sli 1 (List.map u32 ([]:List Nat))),(5,i64 (0:Int)),(6,i64 r1)]) (λs5=>[]) ?_ ?_
 . intro j3 hj4
   refine z [2,30,46,1] ?_;refine c ?_ ?_
   . refine z [6,30,30,31,31,1] ?_;exact sj (hj4 _) eI
   refine z [9,4] ?_;exact sj (hj4 _) eI
 intro s5
 refine z [2,30,30] ?_;refine cb (ca Qve) λr6=>?_;refine z [30,35,35,31,31,1,2,30,30,31,31,1,8] ?_;exact rt []
theorem Qic{n:Nat}{x0}{x1}:∀ r,Z1 n x0 x1=some r->FnOk Tryz.prog 83 [Qq x0,Qq x1] [] (Qq r) []:=by
 unfold Z1
 refine fs Tryz.func83 λw S0 γ hγ=>?_;refine z [2] ?_;refine o (bx' 100) ?_;refine o (bx' 101) ?_;refine o (al' 102) ?_;refine z [1,5,2,33,36,33,36,74,1] ?_;refine c ?_ ?_
 . refine z [5] ?_;refine b λr1 h2=>?_;refine b λr3 h4=>?_;refine sd ?_;refine zd [[100],[100],[100],[100],[101],[101]] ?_
   refine dx [15,17] [103] (λst mm ⟨a15,a17,_⟩ ⟨g103,_⟩=>og (toV (bsl (y:=103) (ls:=List.map Zf ([x0.Abs,x1.Abs]:List (List Nat))) Tryz.underlying271 ti_32.h rfl rfl rfl rfl rfl ⟨rfl,(a15.trans rfl),(by exact rfl),(by exact rfl),rfl,(a17.trans rfl),(by exact rfl),(by exact rfl),trivial⟩ (g103.trans rfl) rfl) (K1 (f:=Zf) (λ_=>Qdt) ([x0.Abs,x1.Abs]:List (List Nat))))) ?_
   refine dd [] (λ_ _ _ _=>c0 (Qkl _ h2)) ?_;refine dd [] (λ_ _ _ _=>c0 (Vx _ h4)) ?_;refine zd [[102]] ?_;refine de fol ?_;refine z [4,8,10] ?_;exact rt []
 refine z [9,4,2,33,36,33,36] ?_;refine cb (ca Qvf) λr5=>?_;refine z [30,35,35,31,31,1,5,2,30,46,1] ?_;refine c ?_ ?_
 . refine z [2,33,36,30] ?_;refine cb (ca Vx) λr7=>?_;refine z [34,1,8,10] ?_;exact rt []
 refine z [9,4,2,33,36,30] ?_;refine cb (ca Vx) λr9=>?_;refine z [34,1,8] ?_;exact rt []
theorem Yn{n:Nat}{x0}{x1}:∀ r,Kx n x0 x1=some r->FnOk Tryz.prog 26 [Qb x0,Qb x1] [] (Qb r) []:=by
 unfold Kx
 refine fs Tryz.func26 λw S0 γ hγ=>?_;refine z [2] ?_;refine o (bx' 100) ?_;refine o (bx' 101) ?_;refine o (al' 102) ?_;refine z [1,2,32] ?_;refine cb (ca Vi) λr1=>?_;refine z [30,35,35] ?_;refine o (al' 103) ?_;refine z [34,31,1,2,32] ?_;refine cb (ca Vi) λr3=>?_;refine z [30,35,35] ?_;refine o (al' 104) ?_;refine z [34,31,1,5] ?_;refine b λr5 h6=>?_;refine b λr7 h8=>?_;refine b λr9 h10=>?_;refine b λr11 h12=>?_;refine b λr13 h14=>?_;refine sd ?_;refine zd [[103],[]] ?_;refine dd [] (λ_ _ _ _=>c0 (Y6 _ h6)) ?_;refine zd [[104],[]] ?_;refine dd [] (λ_ _ _ _=>c0 (Y6 _ h8)) ?_;refine dd [] (λ_ _ _ _=>c0 (Qic _ h10)) ?_;refine zd [[],[]] ?_;refine dd [] (λ_ _ _ _=>c0 (Zu _ h12)) ?_;refine dd [] (λ_ _ _ _=>c0 (Zg _ h14)) ?_;refine zd [[102]] ?_;refine de fol ?_;refine z [4,8] ?_;exact rt []
theorem Qg5{n:Nat}{x0}:∀ r,X0 n x0=some r->FnOk Tryz.prog 237 [sli 3 (List.map Qb x0)] [] (Qb r) []:=by
 unfold X0
 refine fs Tryz.func237 λw S0 γ hγ=>?_;refine z [2] ?_;refine o (al' 100) ?_;refine z [1,2] ?_;refine cb (ca J3) λr1=>?_;refine o (al' 101) ?_;refine z [34,1,5,2,30,39,30,1,7] ?_;refine srN (λs16=>[(2,.own 100),(3,.own 101),(7,sli 3 (List.map Qb x0))]) (λs16=>[(100,.bx 53 (Qb (⟨(⟨false,[]⟩:Qd),[]⟩:Qa))),(101,.bx 53 (Qb s16))]) (rE (eR [(100,100),(101,101)])) ?_ ?_
 . intro i17 x18 s16 hx19
   refine z [7,2,43,42] ?_;refine o (al' 102) ?_;refine z [34,1,6,32,32] ?_;refine cb (ca Yn) λr20=>?_;refine z [34,3,11] ?_;exact sgo (eR [(100,100),(101,101)])
 intro s22
 refine z [13,4,2,32,34,1,8] ?_;exact rt []
theorem Qlu{n:Nat}{x0}:∀ r,Qbg n x0=some r->FnOk Tryz.prog 158 [Qq x0] [] (Qq r) []:=by
 unfold Qbg
 refine fs Tryz.func158 λw S0 γ hγ=>?_;refine z [2] ?_;refine o (bx' 100) ?_;refine o (al' 101) ?_;refine z [1,5] ?_;refine b λr3 h4=>?_;refine b λr5 h6=>?_;refine sd ?_;refine zd [[100],[100],[],[100],[100]] ?_;refine dd [102] (λ_ _ _ _=>tV (cG (Vb _ h4) [] [(102,50)] [])) ?_;refine dd [] (λ_ _ _ _=>c0 (Vx _ h6)) ?_;refine zd [[101]] ?_;refine de fol ?_;refine z [4,8] ?_;exact rt []
theorem Qfk{n:Nat}{x0}{x1}:∀ r,Yo n x0 x1=some r->FnOk Tryz.prog 87 [Qq x0,Qq x1] [] (Qq r) []:=by
 unfold Yo
 refine fs Tryz.func87 λw S0 γ hγ=>?_;refine z [2] ?_;refine o (bx' 100) ?_;refine o (bx' 101) ?_;refine o (al' 102) ?_;refine z [1,5] ?_;refine b λr1 h2=>?_;refine b λr3 h4=>?_;refine sd ?_;refine zd [[100],[101]] ?_;refine dd [] (λ_ _ _ _=>c0 (Qlu _ h2)) ?_;refine dd [] (λ_ _ _ _=>c0 (Qic _ h4)) ?_;refine zd [[102]] ?_;refine de fol ?_;refine z [4,8] ?_;exact rt []
theorem Qce{n:Nat}{x0}:∀ r,Xc n x0=some r->FnOk Tryz.prog 125 [Qq x0] [] (i64 r) []:=by
 unfold Xc
 refine fs Tryz.func125 λw S0 γ hγ=>?_;refine z [2] ?_;refine o (bx' 100) ?_;refine z [31,1,5,7,2,33,36] ?_;refine cb (ca Qi5) λr1=>?_;refine z [31,1] ?_;refine c ?_ ?_
 . refine z [2,31,1,8,12,10] ?_;exact rt []
 refine z [2,33,36,31,1] ?_;refine c ?_ ?_
 . refine z [2,31,1,8,12,10] ?_;exact rt []
 refine z [9,11,4,2,31,1,8] ?_;exact rt []
theorem Qsw{n:Nat}{x0}{x1}:∀ r,Qc0 n x0 x1=some r->FnOk Tryz.prog 124 [Qq x0,Qq x1] [] (i64 r) []:=by
 unfold Qc0
 refine fs Tryz.func124 λw S0 γ hγ=>?_;refine z [2] ?_;refine o (bx' 100) ?_;refine o (bx' 101) ?_;refine z [31,1,2,32,32] ?_;refine cb (ca Qfk) λr1=>?_;refine cb (ca Qce) λr3=>?_;refine z [31,1,8] ?_;exact rt []
theorem Wy{n:Nat}{x0}{x1}:∀ r,K4 n x0 x1=some r->FnOk Tryz.prog 67 [Qb x0,Qb x1] [] (i64 r) []:=by
 unfold K4
 refine fs Tryz.func67 λw S0 γ hγ=>?_;refine z [2] ?_;refine o (bx' 100) ?_;refine o (bx' 101) ?_;refine z [31,1,2,32] ?_;refine cb (ca Vi) λr1=>?_;refine z [30,35,35] ?_;refine o (al' 102) ?_;refine z [34,31,1,2,32] ?_;refine cb (ca Vi) λr3=>?_;refine z [30,35,35] ?_;refine o (al' 103) ?_;refine z [34,31,1,5] ?_;refine b λr5 h6=>?_;refine b λr7 h8=>?_;refine b λr9 h10=>?_;refine sd ?_;refine zd [[102],[]] ?_;refine dd [] (λ_ _ _ _=>c0 (Y6 _ h6)) ?_;refine zd [[103],[]] ?_;refine dd [] (λ_ _ _ _=>c0 (Y6 _ h8)) ?_;refine dd [] (λ_ _ _ _=>c0 (Qsw _ h10)) ?_;refine zd [[]] ?_;refine de fol ?_;refine z [4,8] ?_;exact rt []
theorem J7{n:Nat}{x0}{x1}:∀ r,Jz n x0 x1=some r->FnOk Tryz.prog 22 [Qb x0,Qb x1] [] (bl r) []:=by
 unfold Jz
 refine fs Tryz.func22 λw S0 γ hγ=>?_;refine z [2] ?_;refine o (bx' 100) ?_;refine o (bx' 101) ?_;refine z [31,1,2,32,32] ?_;refine cb (ca Wy) λr1=>?_;refine z [41,31,1,8] ?_;exact rt []
theorem Qqc{n:Nat}{x0}:∀ r,Qa6 n x0=some r->FnOk Tryz.prog 236 [Q3 x0] [] (bl r) []:=by
 unfold Qa6
 refine fs Tryz.func236 λw S0 γ hγ=>?_;refine z [2] ?_;refine o (bx' 100) ?_;refine z [31,1,5,2,33,36,39,30,1,7] ?_;refine srN (λs12=>[(1,.own 100),(2,bl false),(6,sli 1 (List.map Qe x0.A))]) (λs12=>[(100,.bx 47 (Q3 x0))]) (rE (eR [(100,100)])) ?_ ?_
 . intro i13 x14 s12 hx15
   refine z [7,2,30,43,42,31,31,1,5] ?_;refine b λr16 h17=>?_;refine b λy18 h19=>?_;refine b λr20 h21=>?_;refine sd ?_;refine zd [[]] ?_;refine dd [] (λ_ _ _ _=>c0 (Qg5 _ h17)) ?_;refine zd [[100],[100],[],[],[]] ?_;refine dd [] (λ_ _ _ _=>c0 (J7 _ h21)) ?_;refine zd [[]] ?_;refine de fol ?_;refine z [4] ?_;refine c ?_ ?_
   . refine z [2,31,1,8,12] ?_;refine sU ?_;refine z [12,10] ?_;exact rt []
   refine z [9,11] ?_;exact sgo (eR [(100,100)])
 intro s22
 refine z [13,4,2,31,1,8] ?_;exact rt []
theorem Qik{n:Nat}{x0}:∀ r,Yt n x0=some r->FnOk Tryz.prog 190 [Q3 x0] [] (i64 r) []:=by
 unfold Yt
 refine fs Tryz.func190 λw S0 γ hγ=>?_;refine z [2] ?_;refine o (bx' 100) ?_;refine z [31,1,2] ?_;refine cb (ca J3) λr1=>?_;refine o (al' 101) ?_;refine z [34,1,5,7,2,33,36] ?_;refine s1 (bld (l:=[i64 (2:Int),str x0.Name,i64 0]) Qu8.h Qu7.h Qlq ⟨_,_,_,(kI (x:=2) rfl),rfl,rfl,rfl,(szk (k:=1) rfl rfl),⟨_,_,_,rfl,rfl,rfl,rfl,(szk (k:=1) rfl rfl),rfl⟩⟩ rfl) ?_;refine cb (ca Qls) λr3=>?_;refine z [44,31,1] ?_;refine c ?_ ?_
 . refine z [2,31,1,8,12,10] ?_;exact rt []
 refine z [2,32] ?_;refine cb (ca Qod) λr5=>?_;refine z [44,31,1] ?_;refine c ?_ ?_
 . refine z [2,31,1,8,12,10] ?_;exact rt []
 refine sjq (λs13=>[(1,.own 100),(2,i64 (0:Int)),(3,.own 101),(15,bl s13)]) (λs13=>[(100,.bx 47 (Q3 x0)),(101,.bx 53 (Qb r1))]) ?_ ?_
 . intro j11 hj12
   refine z [6,33,36] ?_;refine cb (ca Qg4) λr14=>?_;refine z [44,30] ?_;refine sifd 20 rfl ?_ ?_
   . refine z [23,23,23,23,23,23,23,23,23,38,31,1] ?_;exact sj (hj12 _) (eR [(100,100),(101,101)])
   refine z [22,22,22,22,22,22] ?_
   refine sg 20 rfl rfl (bsl (y:=102) (ls:=List.map Qe ([x0.B,x0.C,x0.E]:List (List Qa))) Tryz.underlying45 ti_44.h rfl rfl rfl rfl rfl ⟨rfl,rfl,(by exact rfl),(by exact rfl),rfl,rfl,(by exact rfl),(by exact rfl),rfl,rfl,(by exact rfl),(by exact rfl),trivial⟩ rfl rfl) ?_
   refine b λr16 h17=>?_
   refine sg 20 rfl rfl (callL (em:=[]) [102] [] [] [] rfl (Qg4 _ h17) trivial (pl_bl) ⟨.inr ⟨102,rfl,.inl ⟨rfl,.inl ⟨_,_,_,rfl,K1 (f:=Qe) (λ_=>Qdt) ([x0.B,x0.C,x0.E]:List (List Qa)),rfl⟩⟩⟩,trivial⟩ (λ_ _ h=>by cases h) trivial rfl trivial trivial rfl trivial trivial trivial (rn_id (if_bl)) rfl) ?_
   refine z [22,37,31,1] ?_;exact sj (hj12 _) (eR [(100,100),(101,101)])
 intro s13
 refine c ?_ ?_
 . refine z [2,31,1,8,12,10] ?_;exact rt []
 refine z [2,32] ?_;refine cb (ca Qqc) λr18=>?_;refine z [44,31,1] ?_;refine c ?_ ?_
 . refine z [2,31,1,8,12,10] ?_;exact rt []
 refine z [5] ?_;refine b λr20 h21=>?_;refine b λr22 h23=>?_;refine sd ?_;refine zd [[100],[100]] ?_;refine dd [] (λ_ _ _ _=>c0 (Qg5 _ h21)) ?_;refine zd [[101]] ?_;refine dd [] (λ_ _ _ _=>c0 (J7 _ h23)) ?_;refine zd [[],[]] ?_;refine de fol ?_;refine z [4] ?_;refine c ?_ ?_
 . refine z [2,31,1,8,12,10] ?_;exact rt []
 refine sjq (λs31=>[(2,i64 (0:Int)),(42,bl s31)]) (λs31=>[]) ?_ ?_
 . intro j29 hj30
   refine sif (λhb32=>?_) (λhb32=>?_)
   . refine b λr33 h34=>?_;refine b λr35 h36=>?_;refine sd ?_;refine zd [[100],[100],[],[]] ?_;refine dd [] (λ_ _ _ _=>obk hb32 ops) ?_;refine zd [[100],[100]] ?_;refine dG [] (λ_ _ _ _=>c0 (Qg5 _ h34)) ?_;refine zd [[101]] ?_;refine dG [] (λ_ _ _ _=>c0 (J7 _ h36)) ?_;refine zd [[],[],[]] ?_;refine de fol ?_;refine z [4] ?_;exact sj (hj30 _) (eR [])
   refine sd ?_;refine zd [[100],[100],[],[]] ?_;refine dd [] (λ_ _ _ _=>obk hb32 ops) ?_;refine zd [[],[],[],[],[],[],[],[]] ?_;refine de fol ?_;refine z [4] ?_;exact sj (hj30 _) (eR [])
 intro s31
 refine c ?_ ?_
 . refine z [2,31,1,8,12,10] ?_;exact rt []
 refine z [9,11,4,2,31,1,8] ?_;exact rt []
theorem Qoe{n:Nat}{x0}:∀ r,Qe3 n x0=some r->FnOk Tryz.prog 162 [str x0] [] (.tup [Q3 r.1,Qi r.2]) []:=by
 unfold Qe3
 refine fs Tryz.func162 λw S0 γ hγ=>?_;refine z [2] ?_;refine o (al' 100) ?_;refine o (al' 101) ?_;refine z [1,5,2,30,54,47,1] ?_;refine c ?_ ?_
 . refine z [2] ?_;refine s1 (bld (l:=[str [],sli 3 (List.map Qb []),sli 1 (List.map Qe []),sli 3 (List.map Qb []),sli 3 (List.map Qb [])]) pl_47.h ti_47.h W3 rfl rfl) ?_;refine s1 (bld (l:=[i64 (1:Int),i64 0,i64 0,i64 (4000:Int)]) pl_63.h ti_63.h Ql ⟨_,_,_,(kI (x:=1) rfl),rfl,rfl,rfl,(szk (k:=1) rfl rfl),⟨_,_,_,(kI (x:=4000) rfl),rfl,rfl,rfl,(szk (k:=1) rfl rfl),rfl⟩⟩ rfl) ?_;refine z [34,34,1,8,10] ?_;exact rt []
 refine z [9,4,2,30] ?_;refine cb (ca Qqb) λr1=>?_;refine z [30,35,35] ?_;refine o (al' 102) ?_;refine o (al' 103) ?_;refine z [34,34,1,5,2,32] ?_;refine s1 (bld (l:=[i64 0,i64 0,i64 0,i64 0]) pl_63.h ti_63.h Ql rfl rfl) ?_;refine s1 (neA (p:=(r1.2:Qc)) (q:=((⟨0,0,0,0⟩:Qc):Qc)) J9 rfl eg_63 rfl rfl rfl) ?_;refine z [1] ?_;refine c ?_ ?_
 . refine z [5] ?_;refine sd ?_;refine dx [] [] (λst mm _ _=>og (bld (l:=[str [],sli 3 (List.map Qb []),sli 1 (List.map Qe []),sli 3 (List.map Qb []),sli 3 (List.map Qb [])]) pl_47.h ti_47.h W3 rfl rfl)) ?_;refine zd [[103],[100],[101]] ?_;refine de fol ?_;refine z [4,8,10] ?_;exact rt []
 refine z [9,4,5,2,32] ?_;refine cb (ca Qik) λr3=>?_;refine z [31,1,2,30,56,1] ?_;refine c ?_ ?_
 . refine z [2] ?_;refine s1 (bld (l:=[str [],sli 3 (List.map Qb []),sli 1 (List.map Qe []),sli 3 (List.map Qb []),sli 3 (List.map Qb [])]) pl_47.h ti_47.h W3 rfl rfl) ?_;refine z [30] ?_;refine s1 (bld (l:=[i64 (2:Int),i64 0,i64 0,i64 r3]) pl_63.h ti_63.h Ql ⟨_,_,_,(kI (x:=2) rfl),rfl,rfl,rfl,(szk (k:=1) rfl rfl),⟨_,_,_,rfl,rfl,rfl,rfl,(szk (k:=1) rfl rfl),rfl⟩⟩ rfl) ?_;refine z [34,34,1,8,10] ?_;exact rt []
 refine z [9,4,5] ?_;refine sd ?_;refine zd [[102],[103],[100],[101]] ?_;refine de fol ?_;refine z [4,8] ?_;exact rt []
theorem Qsx{n:Nat}{x0}:∀ r,Qh3 n x0=some r->FnOk Tryz.prog 92 [str x0] [] (.tup [Q3 r.1,bl r.2]) []:=by
 unfold Qh3
 refine fs Tryz.func92 λw S0 γ hγ=>?_;refine z [2] ?_;refine o (al' 100) ?_;refine z [31,1,5,2] ?_;refine cb (ca Qp7) λr1=>?_;refine z [30,1,7] ?_;refine sloopE 0 Lp.go (λs17=>[(0,str x0),(2,.own 100),(3,bl false),(8,Qfg r1),(9,i64 s17)]) (λs17=>[(100,.bx 47 (Q3 (⟨[],[],[],[],[]⟩:Qj)))]) (λt15=>[(2,.own 100),(3,bl false)]) (λt15=>[(100,.bx 47 (Q3 (⟨[],[],[],[],[]⟩:Qj)))]) (eR [(100,100)]) ?_ ?_
 . intro hj16 s17
   refine z [2,46,1,5] ?_;refine c ?_ ?_
   . refine z [9,4,5,7,2] ?_;refine b λy18 h19=>?_;refine s1 (ixV (f:=str) (xs:=([r1.a0,r1.a1,r1.a2,r1.a3,r1.a4,r1.a5]:List (List UInt8))) (y:=y18) Tryz.underlying233 sh_9.h rfl h19 (λ_=>rfl) (λ_=>rfl) rfl rfl rfl) ?_;refine z [31,1,2,30] ?_;refine cb (ca Qrj) λr20=>?_;refine z [30,72,1] ?_;refine c ?_ ?_
     . refine z [2,30] ?_;refine cb (ca Qoe) λr22=>?_;refine z [30,35,35] ?_;refine o (al' 101) ?_;refine o (al' 102) ?_;refine z [34,34,1,2,32,34,31,1,8,12,10] ?_;refine sU ?_;refine z [12,10] ?_;exact rt []
     refine z [9,11,4,6,40,30,3] ?_;exact sgo (eR [(100,100)])
   refine z [14,15] ?_;exact su (sj (hj16 _) (eR [(100,100)]))
 intro t15
 refine slpk ?_;refine z [13,4,2] ?_;refine s1 (bld (l:=[str [],sli 3 (List.map Qb []),sli 1 (List.map Qe []),sli 3 (List.map Qb []),sli 3 (List.map Qb [])]) pl_47.h ti_47.h W3 rfl rfl) ?_;refine z [34,31,1,8] ?_;exact rt []
theorem Qi7{n:Nat}{x0}{x1}:∀ r,Qax n x0 x1=some r->FnOk Tryz.prog 101 [Qb x0,Qb x1] [] (.tup [Qb r.1,bl r.2]) []:=by
 unfold Qax
 refine fs Tryz.func101 λw S0 γ hγ=>?_;refine z [2] ?_;refine o (bx' 100) ?_;refine o (bx' 101) ?_;refine o (al' 102) ?_;refine z [31,1,2,32] ?_;refine cb (ca Vi) λr1=>?_;refine z [30,35,35] ?_;refine o (al' 103) ?_;refine z [34,31,1,2,32] ?_;refine cb (ca Vi) λr3=>?_;refine z [30,35,35] ?_;refine o (al' 104) ?_;refine z [34,31,1,5,2,32] ?_;refine cb (ca Qce) λr5=>?_;refine z [41,1] ?_;refine c ?_ ?_
 . refine z [2] ?_;refine cb (ca J3) λr7=>?_;refine z [34,31,1,8,10] ?_;exact rt []
 refine z [9,4,2,32,30] ?_;refine cb (ca Y6) λr9=>?_;refine o (al' 105) ?_;refine z [34,1,2,33,36,33,36,75,33] ?_;refine o (stP (Qq (⟨(r9.Neg != r3.1.Neg),r9.Abs⟩:Qd)) [0]) ?_;refine z [1,5] ?_;refine b λr11 h12=>?_;refine b λr13 h14=>?_;refine sd ?_;refine zd [[105],[],[104],[104]] ?_;refine dd [] (λ_ _ _ _=>c0 (Zu _ h12)) ?_;refine dd [] (λ_ _ _ _=>c0 (Zg _ h14)) ?_;refine zd [[102],[]] ?_;refine de fol ?_;refine z [4,8] ?_;exact rt []
theorem Qg6{n:Nat}{x0}{x1}:∀ r,Qcc n x0 x1=some r->FnOk Tryz.prog 47 [i64 x0,i64 x1] [] (.tup [Qb r.1,bl r.2]) []:=by
 unfold Qcc
 refine fs Tryz.func47 λw S0 γ hγ=>?_;refine z [2] ?_;refine o (al' 100) ?_;refine z [31,1,2,30] ?_;refine cb (ca J3) λr1=>?_;refine z [30] ?_;refine cb (ca J3) λr3=>?_;refine cb (ca Qi7) λr5=>?_;refine z [35,35,34,31,1,8] ?_;exact rt []
theorem Qfl{n:Nat}{x0}{x1}:∀ r,Qbk n x0 x1=some r->FnOk Tryz.prog 169 [i64 x0,i64 x1] [] (Qb r) []:=by
 unfold Qbk
 refine fs Tryz.func169 λw S0 γ hγ=>?_;refine z [2] ?_;refine o (al' 100) ?_;refine z [1,2,30,30] ?_;refine cb (ca Qg6) λr1=>?_;refine z [30,35,35] ?_;refine o (al' 101) ?_;refine z [34,31,1,2,32,34,1,8] ?_;exact rt []
theorem Qro{n:Nat}:∀ r,Qgx n =some r->FnOk Tryz.prog 100 [] [] (Kb r) []:=by
 unfold Qgx
 refine fs Tryz.func100 λw S0 γ hγ=>?_;refine z [2] ?_;refine o (al' 100) ?_;refine z [1,2] ?_;refine cb (ca Qfl) λr1=>?_;refine cb (ca Qfl) λr3=>?_;refine cb (ca Qfl) λr5=>?_;refine cb (ca J3) λr7=>?_;refine cb (ca Qfl) λr9=>?_;refine s1 (bld (l:=[Qb r1,Qb r3,Qb r5,Qb r7,Qb r9,i64 (16:Int),i64 (100:Int)]) pl_55.h ti_55.h Qda ⟨_,_,_,rfl,rfl,rfl,rfl,(szk (k:=3) rfl rfl),⟨_,_,_,rfl,rfl,rfl,rfl,(szk (k:=3) rfl rfl),⟨_,_,_,rfl,rfl,rfl,rfl,(szk (k:=3) rfl rfl),⟨_,_,_,rfl,rfl,rfl,rfl,(szk (k:=3) rfl rfl),⟨_,_,_,rfl,rfl,rfl,rfl,(szk (k:=3) rfl rfl),⟨_,_,_,(kI (x:=16) rfl),rfl,rfl,rfl,(szk (k:=1) rfl rfl),⟨_,_,_,(kI (x:=100) rfl),rfl,rfl,rfl,(szk (k:=1) rfl rfl),rfl⟩⟩⟩⟩⟩⟩⟩ rfl) ?_;refine z [34,1,8] ?_;exact rt []
theorem Qak{x0}{x1}:∀ r,V5 x0 x1=some r->FnOk Tryz.prog 232 [i64 x0,i64 x1] [] (bl r) []:=by
 unfold V5
 refine fs Tryz.func232 λw S0 γ hγ=>?_;refine z [2,31,1] ?_;refine sjq (λs3=>[(4,bl s3)]) (λs3=>[]) ?_ ?_
 . intro j1 hj2
   refine z [6,30,57,30] ?_;refine sifd 7 rfl ?_ ?_
   . refine z [22,22,22,38,31,1] ?_;exact sj (hj2 _) eI
   refine z [23,23,23,37,31,1] ?_;exact sj (hj2 _) eI
 intro s3
 refine z [8] ?_;exact rt []
theorem Qrp{x0}:∀ r,Qb3 x0=some r->FnOk Tryz.prog 230 [Ju x0] [] (bl r) []:=by
 unfold Qb3
 refine fs Tryz.func230 λw S0 γ hγ=>?_;refine z [2] ?_;refine o (bx' 100) ?_;refine z [31,1] ?_;refine sjq (λs7=>[(2,bl s7)]) (λs7=>[]) ?_ ?_
 . intro j5 hj6
   refine z [6,33,36,49] ?_;refine cb (ca Qak) λr8=>?_;refine z [30] ?_;refine sifd 7 rfl ?_ ?_
   . refine z [22,22] ?_;refine b λr10 h11=>?_;refine og' (c0 (Qak _ h11)) ?_;refine z [38,30] ?_;refine sifd 12 rfl ?_ ?_
     . refine z [22,22,22,22,22,22,38,30] ?_;refine sifd 20 rfl ?_ ?_
       . refine z [22,22,22,22,38,31,1] ?_;exact sj (hj6 _) (eR [])
       refine z [23,23,23,23,37,31,1] ?_;exact sj (hj6 _) (eR [])
     refine z [23,23,23,23,23,23,37,30,23,23,23,23,37,31,1] ?_;exact sj (hj6 _) (eR [])
   refine z [23,23,23,37,30,23,23,23,23,23,23,37,30,23,23,23,23,37,31,1] ?_;exact sj (hj6 _) (eR [])
 intro s7
 refine z [8] ?_;exact rt []
theorem Qpm{x0}:∀ r,Qdk x0=some r->FnOk Tryz.prog 273 [Jy x0] [] (Qe4 r) []:=by
 unfold Qdk
 refine fs Tryz.func273 λw S0 γ hγ=>?_;refine z [2] ?_;refine o (bx' 100) ?_;refine o (al' 101) ?_;refine z [1,2,33,36,33,36,33,36] ?_;refine s1 (bld (l:=[i64 x0.Op,i64 x0.A,i64 x0.B]) Qre.h Qki.h Qbo ⟨_,_,_,rfl,rfl,rfl,rfl,(szk (k:=1) rfl rfl),⟨_,_,_,rfl,rfl,rfl,rfl,(szk (k:=1) rfl rfl),⟨_,_,_,rfl,rfl,rfl,rfl,(szk (k:=1) rfl rfl),rfl⟩⟩⟩ rfl) ?_;refine z [34,1,8] ?_;exact rt []
theorem Qrq{x0}:∀ r,Qb4 x0=some r->FnOk Tryz.prog 274 [Qb x0] [] (bl r) []:=by
 unfold Qb4
 refine fs Tryz.func274 λw S0 γ hγ=>?_;refine z [2] ?_;refine o (bx' 100) ?_;refine z [31,1] ?_;refine sjq (λs3=>[(2,bl s3)]) (λs3=>[]) ?_ ?_
 . intro j1 hj2
   refine z [6,33,45,36,44,30] ?_;refine sifd 7 rfl ?_ ?_
   . refine z [22,22,22,22,22,38,30] ?_;refine sifd 14 rfl ?_ ?_
     . refine z [22,22,22,22,38,31,1] ?_;exact sj (hj2 _) (eR [])
     refine z [23,23,23,23,37,31,1] ?_;exact sj (hj2 _) (eR [])
   refine z [23,23,23,23,23,37,30,23,23,23,23,37,31,1] ?_;exact sj (hj2 _) (eR [])
 intro s3
 refine z [8] ?_;exact rt []
theorem Qkm{x0}:∀ r,Qad x0=some r->FnOk Tryz.prog 275 [Jy x0] [] (sli 1 (List.map i64 r)) []:=by
 unfold Qad
 refine fs Tryz.func275 λw S0 γ hγ=>?_;refine z [2] ?_;refine o (bx' 100) ?_;refine s1 (asg rfl (kLm (k:=1) i64)) ?_;refine z [1,5,2,33,36,1,7] ?_;refine sjq (λs3=>[(1,.own 100),(2,sli 1 (List.map i64 ([]:List Int))),(4,i64 x0.Op),(5,bl s3)]) (λs3=>[(100,.bx 164 (Jy x0))]) ?_ ?_
 . intro j1 hj2
   refine z [2,41,31,1] ?_;refine c ?_ ?_
   . refine z [9,4] ?_;exact sj (hj2 _) (eR [(100,100)])
   refine z [6,41,31,1] ?_;exact sj (hj2 _) (eR [(100,100)])
 intro s3
 refine c ?_ ?_
 . refine z [2,33,36] ?_
   refine so (bsl (y:=101) (ls:=List.map i64 ([x0.A]:List Int)) Tryz.underlying23 ti_3.h rfl rfl rfl rfl rfl ⟨rfl,rfl,(by exact rfl),(by exact rfl),trivial⟩ rfl rfl) ?_
   refine z [31,1,8,12,10] ?_;refine fz 101 [2,10] [] ?_;exact rt []
 refine sjq (λs6=>[(1,.own 100),(2,sli 1 (List.map i64 ([]:List Int))),(11,bl s6)]) (λs6=>[(100,.bx 164 (Jy x0))]) ?_ ?_
 . intro j4 hj5
   refine z [2,41,31,1] ?_;refine c ?_ ?_
   . refine z [9,4] ?_;exact sj (hj5 _) (eR [(100,100)])
   refine z [2,41,31,1] ?_;refine c ?_ ?_
   . refine z [9,4] ?_;exact sj (hj5 _) (eR [(100,100)])
   refine z [2,41,31,1] ?_;refine c ?_ ?_
   . refine z [9,4] ?_;exact sj (hj5 _) (eR [(100,100)])
   refine z [6,41,31,1] ?_;exact sj (hj5 _) (eR [(100,100)])
 intro s6
 refine c ?_ ?_
 . refine z [2,33,36,33,36] ?_
   refine so (bsl (y:=101) (ls:=List.map i64 ([x0.A,x0.B]:List Int)) Tryz.underlying23 ti_3.h rfl rfl rfl rfl rfl ⟨rfl,rfl,(by exact rfl),(by exact rfl),rfl,rfl,(by exact rfl),(by exact rfl),trivial⟩ rfl rfl) ?_
   refine z [31,1,8,12,10] ?_;refine fz 101 [2,20] [] ?_;exact rt []
 refine z [9,11,4,2] ?_;refine s1 (asg rfl (kLm (k:=1) i64)) ?_;refine z [1,8] ?_;exact rt []
end Go.Proofs.YtlihkcaoachkdaaGreatDoor
