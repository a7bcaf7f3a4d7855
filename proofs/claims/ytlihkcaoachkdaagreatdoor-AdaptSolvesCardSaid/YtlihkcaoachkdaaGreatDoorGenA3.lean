import Derived.Test.YtlihkcaoachkdaaGreatDoorGen0
import Derived.Test.YtlihkcaoachkdaaGreatDoorGenA1
import Derived.Test.YtlihkcaoachkdaaGreatDoorGenA2
set_option maxRecDepth 100000
set_option maxHeartbeats 4000000
namespace Go.Proofs.YtlihkcaoachkdaaGreatDoor
open Go Go.RowKit
theorem Qjy{n:Nat}{x0_p}{x0_t}{x0_h}{x0_y}{x0_g}{x0_out_Ys}{x0_out_Ks}{x0_out_Next}{x0_out_Err}{x1}:∀ r,X9 n x0_p x0_t x0_h x0_y x0_g x0_out_Ys x0_out_Ks x0_out_Next x0_out_Err x1=some r->FnOk Tryz.prog 219 [.own 0,sli 3 (List.map Qd x1)] [(0,.bx 247 (.agg [Jg x0_p,Qd x0_t,Qd x0_h,sli 3 (List.map Qd x0_y),.own 1,.agg [.own 2,.own 3,sli 3 (List.map Qd x0_out_Next),sli 3 (List.map Qd x0_out_Err)]])),(1,.bx 298 (Qs x0_g)),(2,.sl 44 1 (List.map Qj x0_out_Ys)),(3,.sl 44 1 (List.map Qj x0_out_Ks))] (sli 3 (List.map Qd r)) [(0,.bx 247 (.agg [Jg x0_p,Qd x0_t,Qd x0_h,sli 3 (List.map Qd x0_y),.own 1,.agg [.own 2,.own 3,sli 3 (List.map Qd x0_out_Next),sli 3 (List.map Qd x0_out_Err)]])),(1,.bx 298 (Qs x0_g)),(2,.sl 44 1 (List.map Qj x0_out_Ys)),(3,.sl 44 1 (List.map Qj x0_out_Ks))]:=by
 unfold X9
 refine fs Tryz.func219 λw S0 γ hγ=>?_;refine z [2] ?_;refine s1 (asg rfl (kLm (k:=3) Qd)) ?_;refine z [1,5] ?_;refine b λr3 h4=>?_;refine b λr5 h6=>?_;refine sd ?_;refine zd [[],[0],[0],[0],[],[]] ?_;refine dd [0,1,2,3] (λ_ _ _ _=>cG (Qh6 _ h4) [0,1,2,3] [] [0,1,2,3]) ?_
 refine dx [11,14] [100] (λst mm ⟨a11,a14,_⟩ ⟨g100,_⟩=>og (toV (bsl (y:=100) (ls:=List.map Qj ([x0_y,r3]:List (List Qb))) Tryz.underlying45 ti_44.h rfl rfl rfl rfl rfl ⟨rfl,(a11.trans rfl),(by exact rfl),(by exact rfl),rfl,(a14.trans rfl),(by exact rfl),(by exact rfl),trivial⟩ (g100.trans rfl) rfl) (J7 (f:=Qj) (λ_=>Qlc) ([x0_y,r3]:List (List Qb))))) ?_
 refine dd [] (λ_ _ _ _=>c0 (Qyq _ h6)) ?_;refine zd [[],[],[],[],[]] ?_;refine de fol ?_;refine z [4,2,30,31,1,8] ?_;exact rt [(0,0),(1,1),(2,2),(3,3)]
theorem Qp5{x0}{x1}:∀ r,Qb6 x0 x1=some r->FnOk Tryz.prog 323 [.ptr 0 0,i64 x1] [(0,.bx 298 (Qs x0))] (.tup []) [(0,.bx 298 (Qs r))]:=by
 unfold Qb6
 refine fs Tryz.func323 λw S0 γ hγ=>?_;refine z [2,30,48,45,36,40,48,45] ?_;refine o (stP (Qs (⟨(⟨wrap64 (x0.Count.Seen+(1:Int)),x0.Count.Peak⟩:Qac),x0.limit⟩:Qn)) [0,0]) ?_;refine z [1,6,30,30,48,45,36,30,88,48,45] ?_;refine o (stP (Qs (⟨(⟨wrap64 (x0.Count.Seen+(1:Int)),max x0.Count.Peak x1⟩:Qac),x0.limit⟩:Qn)) [0,1]) ?_;refine z [3] ?_;exact rt [(0,0)]
theorem Qiz{n:Nat}{x0}{x1}:∀ r,Xn n x0 x1=some r->FnOk Tryz.prog 301 [.own 0,Qd x1] [(0,.bx 298 (Qs x0))] (bl r.1) [(0,.bx 298 (Qs r.2))]:=by
 unfold Xn
 refine fs Tryz.func301 λw S0 γ hγ=>?_;refine z [2] ?_;refine o (bx' 100) ?_;refine z [31,1,2,32] ?_;refine cb (ca Qpe) λr1=>?_;refine z [31,1,2,30,48,33,30] ?_;refine b λr3 h4=>?_;refine o (cG (Qp5 _ h4) [0] [] []) ?_;refine z [1,2,30,30,48,33,36,58,31,1,8] ?_;exact rt [(0,0)]
theorem Qq9{n:Nat}{x0}{x1}:∀ r,Qa5 n x0 x1=some r->FnOk Tryz.prog 264 [.own 0,sli 3 (List.map Qd x1)] [(0,.bx 298 (Qs x0))] (.tup [i64 r.1,bl r.2.1]) [(0,.bx 298 (Qs r.2.2))]:=by
 unfold Qa5
 refine fs Tryz.func264 λw S0 γ hγ=>?_;refine z [2,31,31,1,5,2,30,39,30,1,7] ?_;refine srN (λs14=>[(0,.own 0),(1,sli 3 (List.map Qd x1)),(4,i64 (0:Int)),(5,bl false),(8,sli 3 (List.map Qd x1))]) (λs14=>[(0,.bx 298 (Qs s14))]) (rE (eR [(0,0)])) ?_ ?_
 . intro i15 x16 s14 hx17
   refine z [7,2,30,43,42] ?_;refine o (al' 100) ?_;refine z [31,34,1,2,30,32] ?_;refine b λr18 h19=>?_;refine o (cG (Qiz _ h19) [0] [] []) ?_;refine z [44,1] ?_;refine c ?_ ?_
   . refine z [2,30,31,31,1,8,12] ?_;refine sU ?_;refine z [12,10] ?_;exact rt [(0,0)]
   refine z [9,11] ?_;exact sgo (eR [(0,0)])
 intro s20
 refine z [13,4,2,30,39,31,31,1,8] ?_;exact rt [(0,0)]
theorem Qfq{n:Nat}{x0_p}{x0_t}{x0_h}{x0_y}{x0_g}{x0_out_Ys}{x0_out_Ks}{x0_out_Next}{x0_out_Err}{x1}{x2}:∀ r,V9 n x0_p x0_t x0_h x0_y x0_g x0_out_Ys x0_out_Ks x0_out_Next x0_out_Err x1 x2=some r->FnOk Tryz.prog 220 [.own 0,sli 3 (List.map Qd x1),i64 x2] [(0,.bx 247 (.agg [Jg x0_p,Qd x0_t,Qd x0_h,sli 3 (List.map Qd x0_y),.own 1,.agg [.own 2,.own 3,sli 3 (List.map Qd x0_out_Next),sli 3 (List.map Qd x0_out_Err)]])),(1,.bx 298 (Qs x0_g)),(2,.sl 44 1 (List.map Qj x0_out_Ys)),(3,.sl 44 1 (List.map Qj x0_out_Ks))] (Qp r.1) [(0,.bx 247 (.agg [Jg x0_p,Qd x0_t,Qd x0_h,sli 3 (List.map Qd x0_y),.own 1,.agg [.own 2,.own 3,sli 3 (List.map Qd x0_out_Next),sli 3 (List.map Qd x0_out_Err)]])),(1,.bx 298 (Qs r.2)),(2,.sl 44 1 (List.map Qj x0_out_Ys)),(3,.sl 44 1 (List.map Qj x0_out_Ks))]:=by
 unfold V9
 refine fs Tryz.func220 λw S0 γ hγ=>?_;refine z [2] ?_;refine o (al' 100) ?_;refine z [1,5,2,30,48,33,36,30] ?_;refine b λr1 h2=>?_;refine o (cG (Qq9 _ h2) [1] [] []) ?_;refine z [30,35,35,31,31,1,2,30,44,1] ?_;refine c ?_ ?_
 . refine z [2,30,30,40] ?_;refine s1 (bld (l:=[i64 (6:Int),i64 0,i64 x2,i64 (wrap64 ((300:Int)+r1.1))]) pl_63.h ti_63.h Qt ⟨_,_,_,(kI (x:=6) rfl),rfl,rfl,rfl,(szk (k:=1) rfl rfl),⟨_,_,_,rfl,rfl,rfl,rfl,(szk (k:=1) rfl rfl),⟨_,_,_,rfl,rfl,rfl,rfl,(szk (k:=1) rfl rfl),rfl⟩⟩⟩ rfl) ?_;refine z [34,1,8,10] ?_;exact rt [(0,0),(1,1),(2,2),(3,3)]
 refine z [9,4,2] ?_;refine s1 (bld (l:=[i64 0,i64 0,i64 0,i64 0]) pl_63.h ti_63.h Qt rfl rfl) ?_;refine z [34,1,8] ?_;exact rt [(0,0),(1,1),(2,2),(3,3)]
theorem Qzj{n:Nat}{x0}{x1}{x2}{x3}:∀ r,Qfw n x0 x1 x2 x3=some r->FnOk Tryz.prog 262 [Jg x0,Qd x1,Qd x2,i64 x3] [] (Qd r) []:=by
 unfold Qfw
 refine fs Tryz.func262 λw S0 γ hγ=>?_;refine z [2] ?_;refine o (bx' 100) ?_;refine o (bx' 101) ?_;refine o (bx' 102) ?_;refine o (al' 103) ?_;refine z [1,5] ?_;refine sjq (λs3=>[(3,i64 x3),(4,.own 100),(5,.own 101),(6,.own 102),(8,.own 103),(18,bl s3)]) (λs3=>[(100,.bx 49 (Jg x0)),(101,.bx 53 (Qd x1)),(102,.bx 53 (Qd x2)),(103,.bx 53 (Qd (⟨(⟨false,[]⟩:Qf),[]⟩:Qb)))]) ?_ ?_
 . intro j1 hj2
   refine z [6,30,46,30] ?_;refine sifd 11 rfl ?_ ?_
   . refine z [23,23,23,23,23,23,38,1] ?_;exact sj (hj2 _) (eR [(100,100),(101,101),(102,102),(103,103)])
   refine z [22,22,22,22,22,22,37,1] ?_;exact sj (hj2 _) (eR [(100,100),(101,101),(102,102),(103,103)])
 intro s3
 refine c ?_ ?_
 . refine z [2,32] ?_;refine cb (ca Wh) λr4=>?_;refine z [34,1,8,10] ?_;exact rt []
 refine z [9,4,5] ?_;refine b λy6 h7=>?_;refine b λr8 h9=>?_;refine b λr10 h11=>?_;refine sd ?_;refine zd [[101],[102],[100],[],[100],[],[],[]] ?_;refine dd [] (λ_ _ _ _=>c0 (Qfp _ h9)) ?_;refine dd [] (λ_ _ _ _=>c0 (Qhe _ h11)) ?_;refine zd [[103]] ?_;refine de fol ?_;refine z [4,8] ?_;exact rt []
theorem Q44{x0}{x1}{x2}:∀ r,Qog x0 x1 x2=some r->FnOk Tryz.prog 261 [Jg x0,Qd x1,sli 3 (List.map Qd x2)] [] (Qc8 r) []:=by
 unfold Qog
 refine fs Tryz.func261 λw S0 γ hγ=>?_;refine z [2] ?_;refine o (bx' 100) ?_;refine o (bx' 101) ?_;refine o (al' 102) ?_;refine z [1,2,32,30,33,36] ?_;refine s1 (bld (l:=[Qd x1,sli 3 (List.map Qd x2),sli 3 (List.map Qd x0.P)]) Q4x.h Qvo.h Qlz ⟨_,_,_,rfl,rfl,rfl,rfl,(szk (k:=3) rfl rfl),⟨_,_,_,rfl,rfl,rfl,rfl,(szk (k:=1) rfl rfl),⟨_,_,_,rfl,rfl,rfl,rfl,(szk (k:=1) rfl rfl),rfl⟩⟩⟩ rfl) ?_;refine z [34,1,8] ?_;exact rt []
theorem Qss{n:Nat}{x0}:∀ r,Qgv n x0=some r->FnOk Tryz.prog 335 [sli 3 (List.map Qd x0)] [] (sli 3 (List.map Qd r)) []:=by
 unfold Qgv
 refine fs Tryz.func335 λw S0 γ hγ=>?_;refine z [2] ?_;refine s1 (asg rfl (kLm (k:=3) Qd)) ?_;refine z [1,2] ?_;refine so (asgN (y:=100) (E:=53) (k:=3) rfl rfl) ?_;refine z [1,5,2,30,39,30,1,7] ?_;refine srN (λs18=>[(2,sli 3 (List.map Qd ([]:List Qb))),(3,.own 100),(6,sli 3 (List.map Qd x0))]) (λs18=>[(100,.sl 53 3 (List.map Qd s18))]) (rE (eR [(100,100)])) ?_ ?_
 . intro i19 x20 s18 hx21
   refine z [7,2,43,42] ?_;refine o (al' 101) ?_;refine z [34,1,6,30,32] ?_;refine cb (ca Wh) λr22=>?_
   refine so (bsl (y:=102) (ls:=List.map Qd ([r22]:List Qb)) Tryz.underlying44 ti_53.h rfl rfl rfl rfl rfl ⟨rfl,rfl,(by exact rfl),(by exact rfl),trivial⟩ rfl rfl) ?_
   refine b λy24 h25=>?_;refine o (app' 103) ?_;refine z [31,3,11] ?_;exact sgo (eR [(100,103)])
 intro s26
 refine z [13,4,2,30,31,1,8] ?_;refine fz 100 [2,3,18] [] ?_;exact rt []
theorem Q2d{n:Nat}{x0}:∀ r,Qk3 n x0=some r->FnOk Tryz.prog 321 [Qc8 x0] [] (Qc8 r) []:=by
 unfold Qk3
 refine fs Tryz.func321 λw S0 γ hγ=>?_;refine z [2] ?_;refine o (bx' 100) ?_;refine o (al' 101) ?_;refine z [1,5] ?_;refine b λr1 h2=>?_;refine b λr3 h4=>?_;refine b λr5 h6=>?_;refine sd ?_;refine zd [[100],[100]] ?_;refine dd [] (λ_ _ _ _=>c0 (Wh _ h2)) ?_;refine zd [[100],[100]] ?_;refine dd [] (λ_ _ _ _=>c0 (Qss _ h4)) ?_;refine zd [[100],[100]] ?_;refine dd [] (λ_ _ _ _=>c0 (Qss _ h6)) ?_;refine dx [5,8,11] [] (λst mm ⟨a5,a8,a11,_⟩ _=>og (bld (l:=[Qd r1,sli 3 (List.map Qd r3),sli 3 (List.map Qd r5)]) Q4x.h Qvo.h Qlz ⟨_,_,_,(a5.trans rfl),rfl,rfl,rfl,(szk (k:=3) rfl rfl),⟨_,_,_,(a8.trans rfl),rfl,rfl,rfl,(szk (k:=1) rfl rfl),⟨_,_,_,(a11.trans rfl),rfl,rfl,rfl,(szk (k:=1) rfl rfl),rfl⟩⟩⟩ rfl)) ?_;refine zd [[101]] ?_;refine de fol ?_;refine z [4,8] ?_;exact rt []
theorem Q3w{n:Nat}{x0}:∀ r,Qjp n x0=some r->FnOk Tryz.prog 377 [Qd x0] [] (Qd r) []:=by
 unfold Qjp
 refine fs Tryz.func377 λw S0 γ hγ=>?_;refine z [2] ?_;refine o (bx' 100) ?_;refine o (al' 101) ?_;refine z [1,2,32] ?_;refine cb (ca Wh) λr1=>?_;refine o (al' 102) ?_;refine z [34,1,2,33,36] ?_;refine cb (ca Qud) λr3=>?_;refine z [33] ?_;refine o (stP (Qd (⟨r3,r1.Den⟩:Qb)) [0]) ?_;refine z [1,2,32,34,1,8] ?_;exact rt []
theorem Qtu{n:Nat}{x0_g}{x1}:∀ r,Qel n x0_g x1=some r->FnOk Tryz.prog 372 [.agg [.own 0],Qd x1] [(0,.bx 298 (Qs x0_g))] (Qd r) [(0,.bx 298 (Qs x0_g))]:=by
 unfold Qel
 refine fs Tryz.func372 λw S0 γ hγ=>?_;refine z [2] ?_;refine o (bx' 100) ?_;refine o (bx' 101) ?_;refine o (al' 102) ?_;refine z [1,2,32] ?_;refine cb (ca Q3w) λr1=>?_;refine z [34,1,8] ?_;exact rt [(0,0)]
theorem Qst{n:Nat}{x0}{x1}:∀ r,Qex n x0 x1=some r->FnOk Tryz.prog 379 [sli 1 (List.map u32 x0),i64 x1] [] (sli 1 (List.map u32 r)) []:=by
 unfold Qex
 refine fs Tryz.func379 λw S0 γ hγ=>?_;refine z [2] ?_;refine s1 (asg rfl (kLm (k:=1) u32)) ?_;refine z [1,2] ?_;refine cb (ca Qda) λr1=>?_;refine z [31,1,5,2,30,30,1,7] ?_;refine sloopE 0 (λt=>t) (λs11=>[(0,sli 1 (List.map u32 x0)),(4,sli 1 (List.map u32 ([]:List Nat))),(5,sli 1 (List.map u32 s11.1)),(7,i64 x1),(8,i64 s11.2)]) (λs11=>[]) (λt9=>[(4,sli 1 (List.map u32 ([]:List Nat))),(5,sli 1 (List.map u32 t9))]) (λt9=>[]) eI ?_ ?_
 . intro hj10 s11
   refine z [2,46,1,5] ?_;refine c ?_ ?_
   . refine z [9,4,5,7,6,30,30] ?_;refine cb (ca Qd5) λr12=>?_;refine z [31,3,11,4,6,40,30,3] ?_;exact sgo eI
   refine z [14,15] ?_;exact su (sj (hj10 _) eI)
 intro t9
 refine z [13,4,2,30,31,1,8] ?_;exact rt []
theorem Q3x{n:Nat}{x0}{x1}:∀ r,Qjq n x0 x1=some r->FnOk Tryz.prog 378 [Qd x0,i64 x1] [] (.tup [Qd r.1,bl r.2]) []:=by
 unfold Qjq
 refine fs Tryz.func378 λw S0 γ hγ=>?_;refine z [2] ?_;refine o (bx' 100) ?_;refine o (al' 101) ?_;refine z [31,1,5] ?_;refine sjq (λs5=>[(1,i64 x1),(2,.own 100),(4,.own 101),(5,bl false),(24,bl s5)]) (λs5=>[(100,.bx 53 (Qd x0)),(101,.bx 53 (Qd (⟨(⟨false,[]⟩:Qf),[]⟩:Qb)))]) ?_ ?_
 . intro j3 hj4
   refine z [6,30,46,30] ?_;refine sifd 12 rfl ?_ ?_
   . refine z [23,23,38,30,23,23,23,24,24,24,23,38,1] ?_;exact sj (hj4 _) (eR [(100,100),(101,101)])
   refine z [22,22,37,30] ?_;refine sifd 16 rfl ?_ ?_
   . refine z [23,23,23,24,24,24,23,38,1] ?_;exact sj (hj4 _) (eR [(100,100),(101,101)])
   refine z [22,22,22] ?_;refine sifd 19 rfl ?_ ?_
   . refine z [22] ?_;refine b λr6 h7=>?_;refine og' (c0 (Qh5 _ h7)) ?_;refine z [22,22,37,1] ?_;exact sj (hj4 _) (eR [(100,100),(101,101)])
   refine z [23,23,23,22,37,1] ?_;exact sj (hj4 _) (eR [(100,100),(101,101)])
 intro s5
 refine c ?_ ?_
 . refine z [2] ?_;refine cb (ca V7) λr8=>?_;refine z [34,31,1,8,10] ?_;exact rt []
 refine z [9,4,2,32] ?_;refine cb (ca Wh) λr10=>?_;refine o (al' 102) ?_;refine z [34,1,2,30,30,82,88,31,1,5] ?_;refine b λr12 h13=>?_;refine b λr14 h15=>?_;refine sd ?_;refine zd [[102],[],[102],[]] ?_;refine dd [] (λ_ _ _ _=>c0 (Qst _ h13)) ?_;refine zd [[102],[102],[]] ?_;refine dd [] (λ_ _ _ _=>c0 (Qst _ h15)) ?_;refine zd [[],[]] ?_;refine de fol ?_;refine z [4] ?_;refine sjq (λs18=>[(4,.own 101),(5,bl false),(6,.own 102),(7,i64 (max x1 (wrap64 (-x1)))),(8,sli 1 (List.map u32 s18.1)),(9,sli 1 (List.map u32 s18.2))]) (λs18=>[(101,.bx 53 (Qd (⟨(⟨false,[]⟩:Qf),[]⟩:Qb))),(102,.bx 53 (Qd r10))]) ?_ ?_
 . intro j16 hj17
   refine z [2,30,46,1] ?_;refine c ?_ ?_
   . refine z [6,30,30,31,31,1] ?_;exact sj (hj17 _) (eR [(101,101),(102,102)])
   refine z [9,4] ?_;exact sj (hj17 _) (eR [(101,101),(102,102)])
 intro s18
 refine sjq (λs25=>[(4,.own 101),(5,bl true)]) (λs25=>[(101,.bx 53 (Qd s25))]) ?_ ?_
 . intro j23 hj24
   refine z [6,33,45,36,30] ?_;refine sifd 48 rfl ?_ ?_
   . refine z [22,22,22,38,30] ?_;refine s1 (bld (l:=[bl (decide ((Int.tmod (max x1 (wrap64 (-x1))) (2:Int))=(1:Int))),sli 1 (List.map u32 s18.1)]) pl_51.h ti_51.h Vp ⟨_,_,_,rfl,rfl,rfl,rfl,(szk (k:=1) rfl rfl),⟨_,_,_,rfl,rfl,rfl,rfl,(szk (k:=1) rfl rfl),rfl⟩⟩ rfl) ?_;refine cb (ca Qm8) λr26=>?_;refine z [30] ?_;refine s1 (bld (l:=[Q2 r26,sli 1 (List.map u32 s18.2)]) pl_53.h ti_53.h Jz ⟨_,_,_,rfl,rfl,rfl,rfl,(szk (k:=2) rfl rfl),⟨_,_,_,rfl,rfl,rfl,rfl,(szk (k:=1) rfl rfl),rfl⟩⟩ rfl) ?_;refine z [34,31,1] ?_;exact sj (hj24 _) (eR [(101,101)])
   refine z [23,23,23,37,30] ?_;refine s1 (bld (l:=[bl false,sli 1 (List.map u32 s18.1)]) pl_51.h ti_51.h Vp ⟨_,_,_,rfl,rfl,rfl,rfl,(szk (k:=1) rfl rfl),⟨_,_,_,rfl,rfl,rfl,rfl,(szk (k:=1) rfl rfl),rfl⟩⟩ rfl) ?_;refine cb (ca Qm8) λr28=>?_;refine z [30] ?_;refine s1 (bld (l:=[Q2 r28,sli 1 (List.map u32 s18.2)]) pl_53.h ti_53.h Jz ⟨_,_,_,rfl,rfl,rfl,rfl,(szk (k:=2) rfl rfl),⟨_,_,_,rfl,rfl,rfl,rfl,(szk (k:=1) rfl rfl),rfl⟩⟩ rfl) ?_;refine z [34,31,1] ?_;exact sj (hj24 _) (eR [(101,101)])
 intro s25
 refine z [8] ?_;exact rt []
theorem Qtv{n:Nat}{x0_g}{x1}{x2}:∀ r,Qem n x0_g x1 x2=some r->FnOk Tryz.prog 374 [.agg [.own 0],Qd x1,i64 x2] [(0,.bx 298 (Qs x0_g))] (.tup [Qd r.1,bl r.2]) [(0,.bx 298 (Qs x0_g))]:=by
 unfold Qem
 refine fs Tryz.func374 λw S0 γ hγ=>?_;refine z [2] ?_;refine o (bx' 100) ?_;refine o (bx' 101) ?_;refine o (al' 102) ?_;refine z [31,1,2,32,30] ?_;refine cb (ca Q3x) λr1=>?_;refine z [35,35,34,31,1,8] ?_;exact rt [(0,0)]
theorem Qtw{n:Nat}{x0_g}{x1}{x2}:∀ r,Qen n x0_g x1 x2=some r->FnOk Tryz.prog 369 [.agg [.own 0],Qd x1,Qd x2] [(0,.bx 298 (Qs x0_g))] (Qd r) [(0,.bx 298 (Qs x0_g))]:=by
 unfold Qen
 refine fs Tryz.func369 λw S0 γ hγ=>?_;refine z [2] ?_;refine o (bx' 100) ?_;refine o (bx' 101) ?_;refine o (bx' 102) ?_;refine o (al' 103) ?_;refine z [1,2,32,32] ?_;refine cb (ca Qhe) λr1=>?_;refine z [34,1,8] ?_;exact rt [(0,0)]
theorem Qtx{n:Nat}{x0_g}{x1}{x2}:∀ r,Qeo n x0_g x1 x2=some r->FnOk Tryz.prog 376 [.agg [.own 0],Qd x1,Qd x2] [(0,.bx 298 (Qs x0_g))] (Qd r) [(0,.bx 298 (Qs x0_g))]:=by
 unfold Qeo
 refine fs Tryz.func376 λw S0 γ hγ=>?_;refine z [2] ?_;refine o (bx' 100) ?_;refine o (bx' 101) ?_;refine o (bx' 102) ?_;refine o (al' 103) ?_;refine z [1,2,32,32] ?_;refine cb (ca Qvu) λr1=>?_;refine z [34,1,8] ?_;exact rt [(0,0)]
theorem Qty{n:Nat}{x0_g}{x1}{x2}:∀ r,Qep n x0_g x1 x2=some r->FnOk Tryz.prog 371 [.agg [.own 0],Qd x1,Qd x2] [(0,.bx 298 (Qs x0_g))] (Qd r) [(0,.bx 298 (Qs x0_g))]:=by
 unfold Qep
 refine fs Tryz.func371 λw S0 γ hγ=>?_;refine z [2] ?_;refine o (bx' 100) ?_;refine o (bx' 101) ?_;refine o (bx' 102) ?_;refine o (al' 103) ?_;refine z [1,2,32,32] ?_;refine cb (ca Qfp) λr1=>?_;refine z [34,1,8] ?_;exact rt [(0,0)]
theorem Qtz{n:Nat}{x0_g}{x1}{x2}:∀ r,Qeq n x0_g x1 x2=some r->FnOk Tryz.prog 375 [.agg [.own 0],Qd x1,Qd x2] [(0,.bx 298 (Qs x0_g))] (.tup [Qd r.1,bl r.2]) [(0,.bx 298 (Qs x0_g))]:=by
 unfold Qeq
 refine fs Tryz.func375 λw S0 γ hγ=>?_;refine z [2] ?_;refine o (bx' 100) ?_;refine o (bx' 101) ?_;refine o (bx' 102) ?_;refine o (al' 103) ?_;refine z [31,1,2,32,32] ?_;refine cb (ca Qq8) λr1=>?_;refine z [35,35,34,31,1,8] ?_;exact rt [(0,0)]
theorem Qup{n:Nat}{x0_g}{x1}:∀ r,Qfn n x0_g x1=some r->FnOk Tryz.prog 373 [.agg [.own 0],Qd x1] [(0,.bx 298 (Qs x0_g))] (Qd r) [(0,.bx 298 (Qs x0_g))]:=by
 unfold Qfn
 refine fs Tryz.func373 λw S0 γ hγ=>?_;refine z [2] ?_;refine o (bx' 100) ?_;refine o (bx' 101) ?_;refine o (al' 102) ?_;refine z [1,2,32] ?_;refine cb (ca Wh) λr1=>?_;refine z [34,1,8] ?_;exact rt [(0,0)]
theorem Qe4{n:Nat}{x0_Arith_g}{x1}{x2}:∀ r,Vy n x0_Arith_g x1 x2=some r->FnOk Tryz.prog 345 [.agg [.agg [.own 0]],Vg x1,X0 x2] [(0,.bx 298 (Qs x0_Arith_g))] (Qd r) [(0,.bx 298 (Qs x0_Arith_g))]:=by
 unfold Vy
 refine fs Tryz.func345 λw S0 γ hγ=>?_;refine z [2] ?_;refine o (bx' 100) ?_;refine o (bx' 101) ?_;refine o (bx' 102) ?_;refine o (al' 103) ?_;refine z [1,5,2,33,36,1,7,2,41,31,1] ?_;refine c ?_ ?_
 . refine z [2,33] ?_
   refine s1 (ldB [0] rfl (by exact rfl) Qlk.h (by exact rfl) (by exact rfl) rfl rfl (.inl rfl)) ?_
   refine s1 (mkIf Tryz.underlying393 rfl rfl) ?_;refine z [33,36] ?_;refine b λr1 h2=>?_;refine s1 (okm rfl rfl (callI (em:=[(0,.bx 298 (Qs x0_Arith_g))]) (res':=Qd r1) [(0,0)] [] [(0,0)] rfl Q4z (Qup _ h2) (Qb1 (Xa (W1 rfl) (Yu))) ⟨⟨_,rfl,rn_id J4⟩,trivial⟩ (MiF.get (mi:=[(0,_)]) ⟨⟨_,_,rfl,rfl,rc_bx (rn_id Kw)⟩,trivial⟩) ⟨⟨_,rfl⟩,trivial⟩ rfl trivial ⟨.inr rfl,trivial⟩ rfl ⟨.inl ⟨_,_,rfl,rfl,rc_bx (rn_id Kw)⟩,trivial⟩ ⟨⟨_,rfl⟩,trivial⟩ trivial (rn_id J4) rfl)) ?_;refine z [34,1,8,12,10] ?_;exact rt [(0,0)]
 refine z [2,41,31,1] ?_;refine c ?_ ?_
 . refine z [2,33,36,33,36] ?_;refine b λy3 h4=>?_;refine z [43,42,34,1,8,12,10] ?_;exact rt [(0,0)]
 refine z [2,41,31,1] ?_;refine c ?_ ?_
 . refine z [2,33,36,33,36] ?_;refine b λy5 h6=>?_;refine z [43,42,34,1,8,12,10] ?_;exact rt [(0,0)]
 refine z [9,11,4,2,33,36,34,1,8] ?_;exact rt [(0,0)]
theorem Qe5{n:Nat}{x0_Arith_g}{x1}{x2}{x3}:∀ r,Ki n x0_Arith_g x1 x2 x3=some r->FnOk Tryz.prog 336 [.agg [.agg [.own 0]],Vg x1,X0 x2,.own 1] [(0,.bx 298 (Qs x0_Arith_g)),(1,.sl 53 3 (List.map Qd x3))] (.tup [Qd r.1,bl r.2]) [(0,.bx 298 (Qs x0_Arith_g)),(1,.sl 53 3 (List.map Qd x3))]:=by
 unfold Ki
 refine fs Tryz.func336 λw S0 γ hγ=>?_;refine z [2] ?_;refine o (bx' 100) ?_;refine o (bx' 101) ?_;refine o (bx' 102) ?_;refine o (al' 103) ?_;refine z [31,1,5,2,33,36,1,7,2,41,31,1] ?_;refine c ?_ ?_
 . refine z [5] ?_;refine b λy1 h2=>?_;refine b λr3 h4=>?_;refine sd ?_;refine zd [[100]] ?_
   refine dx [14] [100] (λst mm ⟨a14,_⟩ ⟨g100,_⟩=>og (ldB [0] (g100.trans rfl) (by exact rfl) Qlk.h (by exact rfl) (by exact rfl) rfl (a14.trans rfl) (.inl rfl))) ?_
   refine dx [15] [] (λst mm ⟨a15,_⟩ _=>og (mkIf Tryz.underlying393 rfl (a15.trans rfl))) ?_;refine zd [[],[101],[101],[1],[1]] ?_;refine dx [16,21] [0] (λst mm ⟨a16,a21,_⟩ ⟨g0,_⟩=>og (okm (g0.trans rfl) rfl (callI (em:=[(0,.bx 298 (Qs x0_Arith_g))]) (res':=Qd r3) [(0,0)] [] [(0,0)] (a16.trans rfl) Q3g (Qtu _ h4) (Qb1 (Xa (W1 rfl) (Yu))) ⟨⟨_,(a21.trans rfl),rn_id J4⟩,trivial⟩ (MiF.get (mi:=[(0,_)]) ⟨⟨_,_,rfl,(g0.trans rfl),rc_bx (rn_id Kw)⟩,trivial⟩) ⟨⟨_,rfl⟩,trivial⟩ rfl trivial ⟨.inr rfl,trivial⟩ rfl ⟨.inl ⟨_,_,rfl,rfl,rc_bx (rn_id Kw)⟩,trivial⟩ ⟨⟨_,rfl⟩,trivial⟩ trivial (rn_id J4) rfl))) ?_;refine zd [[103],[]] ?_;refine de fol ?_;refine z [4,8,12,10] ?_;exact rt [(0,0),(1,1)]
 refine z [2,41,31,1] ?_;refine c ?_ ?_
 . refine z [5] ?_;refine b λy5 h6=>?_;refine b λr7 h8=>?_;refine sd ?_;refine zd [[100]] ?_
   refine dx [25] [100] (λst mm ⟨a25,_⟩ ⟨g100,_⟩=>og (ldB [0] (g100.trans rfl) (by exact rfl) Qlk.h (by exact rfl) (by exact rfl) rfl (a25.trans rfl) (.inl rfl))) ?_
   refine dx [26] [] (λst mm ⟨a26,_⟩ _=>og (mkIf Tryz.underlying393 rfl (a26.trans rfl))) ?_;refine zd [[],[101],[101],[1],[1],[101],[101]] ?_;refine dx [27,32,34] [0] (λst mm ⟨a27,a32,a34,_⟩ ⟨g0,_⟩=>og (okm (g0.trans rfl) rfl (callI (em:=[(0,.bx 298 (Qs x0_Arith_g))]) (res':=.tup [Qd r7.1,bl r7.2]) [(0,0)] [] [(0,0)] (a27.trans rfl) Q3h (Qtv _ h8) (Qb1 (Xa (W1 rfl) (Yu))) ⟨⟨_,(a32.trans rfl),rn_id J4⟩,⟨_,(a34.trans rfl),rn_id Qdt⟩,trivial⟩ (MiF.get (mi:=[(0,_)]) ⟨⟨_,_,rfl,(g0.trans rfl),rc_bx (rn_id Kw)⟩,trivial⟩) ⟨⟨_,rfl⟩,trivial⟩ rfl trivial ⟨.inr rfl,trivial⟩ rfl ⟨.inl ⟨_,_,rfl,rfl,rc_bx (rn_id Kw)⟩,trivial⟩ ⟨⟨_,rfl⟩,trivial⟩ trivial (Qfr (Xa (rn_id J4) (Xa (rn_id if_bl) (Yu)))) rfl))) ?_;refine zd [[],[],[103],[]] ?_;refine de fol ?_;refine z [4,8,12,10] ?_;exact rt [(0,0),(1,1)]
 refine z [2,41,31,1] ?_;refine c ?_ ?_
 . refine z [5] ?_;refine b λy9 h10=>?_;refine b λy11 h12=>?_;refine b λr13 h14=>?_;refine sd ?_;refine zd [[100]] ?_
   refine dx [40] [100] (λst mm ⟨a40,_⟩ ⟨g100,_⟩=>og (ldB [0] (g100.trans rfl) (by exact rfl) Qlk.h (by exact rfl) (by exact rfl) rfl (a40.trans rfl) (.inl rfl))) ?_
   refine dx [41] [] (λst mm ⟨a41,_⟩ _=>og (mkIf Tryz.underlying393 rfl (a41.trans rfl))) ?_;refine zd [[],[101],[101],[1],[1],[],[101],[101],[1],[1]] ?_;refine dx [42,47,52] [0] (λst mm ⟨a42,a47,a52,_⟩ ⟨g0,_⟩=>og (okm (g0.trans rfl) rfl (callI (em:=[(0,.bx 298 (Qs x0_Arith_g))]) (res':=Qd r13) [(0,0)] [] [(0,0)] (a42.trans rfl) Q3i (Qtw _ h14) (Qb1 (Xa (W1 rfl) (Yu))) ⟨⟨_,(a47.trans rfl),rn_id J4⟩,⟨_,(a52.trans rfl),rn_id J4⟩,trivial⟩ (MiF.get (mi:=[(0,_)]) ⟨⟨_,_,rfl,(g0.trans rfl),rc_bx (rn_id Kw)⟩,trivial⟩) ⟨⟨_,rfl⟩,trivial⟩ rfl trivial ⟨.inr rfl,trivial⟩ rfl ⟨.inl ⟨_,_,rfl,rfl,rc_bx (rn_id Kw)⟩,trivial⟩ ⟨⟨_,rfl⟩,trivial⟩ trivial (rn_id J4) rfl))) ?_;refine zd [[103],[]] ?_;refine de fol ?_;refine z [4,8,12,10] ?_;exact rt [(0,0),(1,1)]
 refine z [2,41,31,1] ?_;refine c ?_ ?_
 . refine z [5] ?_;refine b λy15 h16=>?_;refine b λy17 h18=>?_;refine b λr19 h20=>?_;refine sd ?_;refine zd [[100]] ?_
   refine dx [56] [100] (λst mm ⟨a56,_⟩ ⟨g100,_⟩=>og (ldB [0] (g100.trans rfl) (by exact rfl) Qlk.h (by exact rfl) (by exact rfl) rfl (a56.trans rfl) (.inl rfl))) ?_
   refine dx [57] [] (λst mm ⟨a57,_⟩ _=>og (mkIf Tryz.underlying393 rfl (a57.trans rfl))) ?_;refine zd [[],[101],[101],[1],[1],[],[101],[101],[1],[1]] ?_;refine dx [58,63,68] [0] (λst mm ⟨a58,a63,a68,_⟩ ⟨g0,_⟩=>og (okm (g0.trans rfl) rfl (callI (em:=[(0,.bx 298 (Qs x0_Arith_g))]) (res':=Qd r19) [(0,0)] [] [(0,0)] (a58.trans rfl) Q3j (Qtx _ h20) (Qb1 (Xa (W1 rfl) (Yu))) ⟨⟨_,(a63.trans rfl),rn_id J4⟩,⟨_,(a68.trans rfl),rn_id J4⟩,trivial⟩ (MiF.get (mi:=[(0,_)]) ⟨⟨_,_,rfl,(g0.trans rfl),rc_bx (rn_id Kw)⟩,trivial⟩) ⟨⟨_,rfl⟩,trivial⟩ rfl trivial ⟨.inr rfl,trivial⟩ rfl ⟨.inl ⟨_,_,rfl,rfl,rc_bx (rn_id Kw)⟩,trivial⟩ ⟨⟨_,rfl⟩,trivial⟩ trivial (rn_id J4) rfl))) ?_;refine zd [[103],[]] ?_;refine de fol ?_;refine z [4,8,12,10] ?_;exact rt [(0,0),(1,1)]
 refine z [2,41,31,1] ?_;refine c ?_ ?_
 . refine z [5] ?_;refine b λy21 h22=>?_;refine b λy23 h24=>?_;refine b λr25 h26=>?_;refine sd ?_;refine zd [[100]] ?_
   refine dx [72] [100] (λst mm ⟨a72,_⟩ ⟨g100,_⟩=>og (ldB [0] (g100.trans rfl) (by exact rfl) Qlk.h (by exact rfl) (by exact rfl) rfl (a72.trans rfl) (.inl rfl))) ?_
   refine dx [73] [] (λst mm ⟨a73,_⟩ _=>og (mkIf Tryz.underlying393 rfl (a73.trans rfl))) ?_;refine zd [[],[101],[101],[1],[1],[],[101],[101],[1],[1]] ?_;refine dx [74,79,84] [0] (λst mm ⟨a74,a79,a84,_⟩ ⟨g0,_⟩=>og (okm (g0.trans rfl) rfl (callI (em:=[(0,.bx 298 (Qs x0_Arith_g))]) (res':=Qd r25) [(0,0)] [] [(0,0)] (a74.trans rfl) Q3k (Qty _ h26) (Qb1 (Xa (W1 rfl) (Yu))) ⟨⟨_,(a79.trans rfl),rn_id J4⟩,⟨_,(a84.trans rfl),rn_id J4⟩,trivial⟩ (MiF.get (mi:=[(0,_)]) ⟨⟨_,_,rfl,(g0.trans rfl),rc_bx (rn_id Kw)⟩,trivial⟩) ⟨⟨_,rfl⟩,trivial⟩ rfl trivial ⟨.inr rfl,trivial⟩ rfl ⟨.inl ⟨_,_,rfl,rfl,rc_bx (rn_id Kw)⟩,trivial⟩ ⟨⟨_,rfl⟩,trivial⟩ trivial (rn_id J4) rfl))) ?_;refine zd [[103],[]] ?_;refine de fol ?_;refine z [4,8,12,10] ?_;exact rt [(0,0),(1,1)]
 refine z [2,41,31,1] ?_;refine c ?_ ?_
 . refine z [5] ?_;refine b λy27 h28=>?_;refine b λy29 h30=>?_;refine b λr31 h32=>?_;refine sd ?_;refine zd [[100]] ?_
   refine dx [88] [100] (λst mm ⟨a88,_⟩ ⟨g100,_⟩=>og (ldB [0] (g100.trans rfl) (by exact rfl) Qlk.h (by exact rfl) (by exact rfl) rfl (a88.trans rfl) (.inl rfl))) ?_
   refine dx [89] [] (λst mm ⟨a89,_⟩ _=>og (mkIf Tryz.underlying393 rfl (a89.trans rfl))) ?_;refine zd [[],[101],[101],[1],[1],[],[101],[101],[1],[1]] ?_;refine dx [90,95,100] [0] (λst mm ⟨a90,a95,a100,_⟩ ⟨g0,_⟩=>og (okm (g0.trans rfl) rfl (callI (em:=[(0,.bx 298 (Qs x0_Arith_g))]) (res':=.tup [Qd r31.1,bl r31.2]) [(0,0)] [] [(0,0)] (a90.trans rfl) Q3l (Qtz _ h32) (Qb1 (Xa (W1 rfl) (Yu))) ⟨⟨_,(a95.trans rfl),rn_id J4⟩,⟨_,(a100.trans rfl),rn_id J4⟩,trivial⟩ (MiF.get (mi:=[(0,_)]) ⟨⟨_,_,rfl,(g0.trans rfl),rc_bx (rn_id Kw)⟩,trivial⟩) ⟨⟨_,rfl⟩,trivial⟩ rfl trivial ⟨.inr rfl,trivial⟩ rfl ⟨.inl ⟨_,_,rfl,rfl,rc_bx (rn_id Kw)⟩,trivial⟩ ⟨⟨_,rfl⟩,trivial⟩ trivial (Qfr (Xa (rn_id J4) (Xa (rn_id if_bl) (Yu)))) rfl))) ?_;refine zd [[],[],[103],[]] ?_;refine de fol ?_;refine z [4,8,12,10] ?_;exact rt [(0,0),(1,1)]
 refine z [9,11,4,2,32,32,32] ?_;refine b λr33 h34=>?_;refine o (cG (Qe4 _ h34) [0] [] [0]) ?_;refine z [34,31,1,8] ?_;exact rt [(0,0),(1,1)]
theorem Qsu{n:Nat}{x0_g}{x1}:∀ r,Qb3 n x0_g x1=some r->FnOk Tryz.prog 370 [.agg [.own 0],Qd x1] [(0,.bx 298 (Qs x0_g))] (bl r.1) [(0,.bx 298 (Qs r.2))]:=by
 unfold Qb3
 refine fs Tryz.func370 λw S0 γ hγ=>?_;refine z [2] ?_;refine o (bx' 100) ?_;refine o (bx' 101) ?_;refine z [31,1,2,33,36,32] ?_;refine b λr1 h2=>?_;refine o (cG (Qiz _ h2) [0] [] []) ?_;refine z [31,1,8] ?_;exact rt [(0,0)]
theorem Qfe{n:Nat}{x0_Arith_g}{x1}{x2}:∀ r,Vc n x0_Arith_g x1 x2=some r->FnOk Tryz.prog 322 [.agg [.agg [.own 0]],K8 x1,X0 x2] [(0,.bx 298 (Qs x0_Arith_g))] (.tup [sli 3 (List.map Qd r.1),Qp r.2.1]) [(0,.bx 298 (Qs r.2.2))]:=by
 unfold Vc
 refine fs Tryz.func322 λw S0 γ hγ=>?_;refine z [2] ?_;refine o (bx' 100) ?_;refine o (bx' 101) ?_;refine o (bx' 102) ?_;refine s1 (asg rfl (kLm (k:=3) Qd)) ?_;refine o (al' 103) ?_;refine z [1,5] ?_;refine sjq (λs5=>[(3,.own 100),(4,.own 101),(5,.own 102),(6,sli 3 (List.map Qd ([]:List Qb))),(7,.own 103),(31,bl s5)]) (λs5=>[(0,.bx 298 (Qs x0_Arith_g)),(100,.bx 395 (.agg [.agg [.own 0]])),(101,.bx 43 (K8 x1)),(102,.bx 397 (X0 x2)),(103,.bx 63 (Qp (⟨0,0,0,0⟩:Qe)))]) ?_ ?_
 . intro j3 hj4
   refine z [6,32] ?_;refine cb (ca Qnd) λr6=>?_;refine z [44,30] ?_;refine sifd 16 rfl ?_ ?_
   . refine z [23,23,23,23,23,23,38,30,23,23,23,23,23,23,38,1] ?_;exact sj (hj4 _) (eR [(0,0),(100,100),(101,101),(102,102),(103,103)])
   refine z [22,22,22,22,22,22,37,30] ?_;refine sifd 24 rfl ?_ ?_
   . refine z [23,23,23,23,23,23,38,1] ?_;exact sj (hj4 _) (eR [(0,0),(100,100),(101,101),(102,102),(103,103)])
   refine z [22,22,22,22,22,22,37,1] ?_;exact sj (hj4 _) (eR [(0,0),(100,100),(101,101),(102,102),(103,103)])
 intro s5
 refine c ?_ ?_
 . refine z [2] ?_;refine s1 (bld (l:=[i64 (2:Int),i64 0,i64 0,i64 0]) pl_63.h ti_63.h Qt ⟨_,_,_,(kI (x:=2) rfl),rfl,rfl,rfl,(szk (k:=1) rfl rfl),rfl⟩ rfl) ?_;refine s1 (asg rfl (kLm (k:=3) Qd)) ?_;refine z [34,1,8,10] ?_;exact rt [(0,0)]
 refine z [9,4,2] ?_;refine so (asgN (y:=104) (E:=53) (k:=3) rfl rfl) ?_;refine z [1,5,2,33,36,39,30,1,7] ?_;refine srN (λs29=>[(3,.own 100),(5,.own 102),(6,sli 3 (List.map Qd ([]:List Qb))),(7,.own 103),(8,.own 104),(34,sli 6 (List.map Vg x1.Code))]) (λs29=>[(0,.bx 298 (Qs s29.1)),(100,.bx 395 (.agg [.agg [.own 0]])),(102,.bx 397 (X0 x2)),(103,.bx 63 (Qp (⟨0,0,0,0⟩:Qe))),(104,.sl 53 3 (List.map Qd s29.2))]) (rE (eR [(0,0),(100,100),(102,102),(103,103),(104,104)])) ?_ ?_
 . intro i30 x31 s29 hx32
   refine z [7,2,30,43,42] ?_;refine o (al' 105) ?_;refine z [31,34,1,2,32,32,32,30] ?_;refine b λr33 h34=>?_;refine o (cG (Qe5 _ h34) [0,104] [] [0,104]) ?_;refine z [30,35,35] ?_;refine o (al' 106) ?_;refine z [34,31,1,5,7,2,30,44,31,1] ?_;refine c ?_ ?_
   . refine z [2,30] ?_;refine s1 (bld (l:=[i64 (3:Int),i64 0,i64 0,i64 (i30:Int)]) pl_63.h ti_63.h Qt ⟨_,_,_,(kI (x:=3) rfl),rfl,rfl,rfl,(szk (k:=1) rfl rfl),⟨_,_,_,rfl,rfl,rfl,rfl,(szk (k:=1) rfl rfl),rfl⟩⟩ rfl) ?_;refine s1 (asg rfl (kLm (k:=3) Qd)) ?_;refine z [34,1,8,12,10,12] ?_;refine sU ?_;refine z [12,10] ?_;exact rt [(0,0)]
   refine z [2,33] ?_
   refine s1 (ldB [0] rfl (by exact rfl) Qlk.h (by exact rfl) (by exact rfl) rfl rfl (.inl rfl)) ?_
   refine s1 (mkIf Tryz.underlying393 rfl rfl) ?_;refine z [32] ?_;refine b λr35 h36=>?_;refine so (callI (em:=[(0,.bx 298 (Qs r35.2))]) (res':=bl r35.1) [(0,0)] [] [(0,0)] rfl Q14 (Qsu _ h36) (Qb1 (Xa (W1 rfl) (Yu))) ⟨⟨_,rfl,rn_id J4⟩,trivial⟩ (MiF.get (mi:=[(0,_)]) ⟨⟨_,_,rfl,rfl,rc_bx (rn_id Kw)⟩,trivial⟩) ⟨⟨_,rfl⟩,trivial⟩ rfl trivial ⟨.inr rfl,trivial⟩ rfl ⟨.inl ⟨_,_,rfl,rfl,rc_bx (rn_id Kw)⟩,trivial⟩ ⟨⟨_,rfl⟩,trivial⟩ trivial (rn_id if_bl) rfl) ?_;refine z [44,31,1] ?_;refine c ?_ ?_
   . refine z [2,30] ?_;refine s1 (bld (l:=[i64 (6:Int),i64 0,i64 0,i64 (i30:Int)]) pl_63.h ti_63.h Qt ⟨_,_,_,(kI (x:=6) rfl),rfl,rfl,rfl,(szk (k:=1) rfl rfl),⟨_,_,_,rfl,rfl,rfl,rfl,(szk (k:=1) rfl rfl),rfl⟩⟩ rfl) ?_;refine s1 (asg rfl (kLm (k:=3) Qd)) ?_;refine z [34,1,8,12,10,12] ?_;refine sU ?_;refine z [12,10] ?_;exact rt [(0,0)]
   refine z [9,11,4,6,30,32] ?_
   refine so (bsl (y:=107) (ls:=List.map Qd ([r33.1]:List Qb)) Tryz.underlying44 ti_53.h rfl rfl rfl rfl rfl ⟨rfl,rfl,(by exact rfl),(by exact rfl),trivial⟩ rfl rfl) ?_
   refine b λy37 h38=>?_;refine o (app' 108) ?_;refine z [31,3,11] ?_;exact sgo (eR [(0,0),(100,100),(102,102),(103,103),(104,108)])
 intro s39
 refine z [13,4,2,30] ?_;refine s1 (bld (l:=[i64 0,i64 0,i64 0,i64 0]) pl_63.h ti_63.h Qt rfl rfl) ?_;refine z [31,34,1,8] ?_;refine fz 104 [6,8,68] [] ?_;exact rt [(0,0)]
theorem Q3y{n:Nat}{x0}{x1}{x2}:∀ r,Qmc n x0 x1 x2=some r->FnOk Tryz.prog 298 [K8 x0,Qc8 x1,i64 x2] [] (.tup [sli 3 (List.map Qd r.1),Qp r.2]) []:=by
 unfold Qmc
 refine fs Tryz.func298 λw S0 γ hγ=>?_;refine z [2] ?_;refine o (bx' 100) ?_;refine o (bx' 101) ?_;refine s1 (asg rfl (kLm (k:=3) Qd)) ?_;refine o (al' 102) ?_;refine z [1,2,32] ?_;refine cb (ca Q2d) λr1=>?_;refine z [34,1,2,30] ?_;refine b λr3 h4=>?_;refine o (cG (Que _ h4) [] [(103,50)] []) ?_;refine s1 (bld (l:=[.own 103]) Q9v.h Q0o.h (K9 (Qh (c1:=[.pointer none]) Qvk (Kc))) ⟨_,_,_,rfl,rfl,rfl,rfl,(szk (k:=1) rfl rfl),rfl⟩ rfl) ?_;refine s1 (bld (l:=[.agg [.own 103]]) Q9w.h Q0p.h (K9 (Qh (c1:=[.pointer none]) (K9 (Qh (c1:=[.pointer none]) Qvk (Kc))) (Kc))) ⟨_,_,_,rfl,rfl,rfl,rfl,(szk (k:=1) rfl rfl),rfl⟩ rfl) ?_;refine so (al (y:=104) (ly:=.agg [.agg [.por 0]]) Q0p.h (K9 (Qh (c1:=[.pointer none]) (K9 (Qh (c1:=[.pointer none]) Qvk (Kc))) (Kc))) rfl rfl) ?_;refine z [34,1,2,32,32,33,36,33,36,33,36] ?_;refine s1 (bld (l:=[Qd r1.T,sli 3 (List.map Qd r1.Y),sli 3 (List.map Qd r1.P)]) Q9x.h Q4y.h Qm3 ⟨_,_,_,rfl,rfl,rfl,rfl,(szk (k:=3) rfl rfl),⟨_,_,_,rfl,rfl,rfl,rfl,(szk (k:=1) rfl rfl),⟨_,_,_,rfl,rfl,rfl,rfl,(szk (k:=1) rfl rfl),rfl⟩⟩⟩ rfl) ?_;refine b λr5 h6=>?_;refine o (cG (Qfe _ h6) [103] [] []) ?_;refine z [35,35,31,34,1,8] ?_;exact rt []
theorem Q3z{n:Nat}{x0}{x1}:∀ r,Qmd n x0 x1=some r->FnOk Tryz.prog 299 [K8 x0,sli 3 (List.map Qd x1)] [] (sli 3 (List.map Qd r)) []:=by
 unfold Qmd
 refine fs Tryz.func299 λw S0 γ hγ=>?_;refine z [2] ?_;refine o (bx' 100) ?_;refine s1 (asg rfl (kLm (k:=3) Qd)) ?_;refine z [1,5] ?_;refine sjq (λs5=>[(1,sli 3 (List.map Qd x1)),(2,.own 100),(4,sli 3 (List.map Qd ([]:List Qb))),(18,bl s5)]) (λs5=>[(100,.bx 43 (K8 x0))]) ?_ ?_
 . intro j3 hj4
   refine z [6,32] ?_;refine cb (ca Qnd) λr6=>?_;refine z [44,30] ?_;refine sifd 11 rfl ?_ ?_
   . refine z [23,23,23,23,23,23,38,1] ?_;exact sj (hj4 _) (eR [(100,100)])
   refine z [22,22,22,22,22,22,37,1] ?_;exact sj (hj4 _) (eR [(100,100)])
 intro s5
 refine c ?_ ?_
 . refine z [2] ?_;refine s1 (asg rfl (kLm (k:=3) Qd)) ?_;refine z [1,8,10] ?_;exact rt []
 refine z [9,4,2] ?_;refine so (asgN (y:=101) (E:=53) (k:=3) rfl rfl) ?_;refine z [1,5,2,33,36,39,30,1,7] ?_;refine srN (λs29=>[(1,sli 3 (List.map Qd x1)),(4,sli 3 (List.map Qd ([]:List Qb))),(5,.own 101),(20,sli 1 (List.map i64 x0.Outs))]) (λs29=>[(101,.sl 53 3 (List.map Qd s29))]) (rE (eR [(101,101)])) ?_ ?_
 . intro i30 x31 s29 hx32
   refine z [7,2,43,42,31,1,6,30,30,30] ?_;refine b λy33 h34=>?_;refine z [43,42] ?_;refine cb (ca Wh) λr35=>?_
   refine so (bsl (y:=102) (ls:=List.map Qd ([r35]:List Qb)) Tryz.underlying44 ti_53.h rfl rfl rfl rfl rfl ⟨rfl,rfl,(by exact rfl),(by exact rfl),trivial⟩ rfl rfl) ?_
   refine b λy37 h38=>?_;refine o (app' 103) ?_;refine z [31,3,11] ?_;exact sgo (eR [(101,103)])
 intro s39
 refine z [13,4,2,30,31,1,8] ?_;refine fz 101 [4,5,35] [] ?_;exact rt []
theorem Q2e{n:Nat}{x0}{x1}{x2}:∀ r,Qh3 n x0 x1 x2=some r->FnOk Tryz.prog 260 [K8 x0,Qc8 x1,i64 x2] [] (.tup [sli 3 (List.map Qd r.1),Qp r.2]) []:=by
 unfold Qh3
 refine fs Tryz.func260 λw S0 γ hγ=>?_;refine z [2] ?_;refine o (bx' 100) ?_;refine o (bx' 101) ?_;refine s1 (asg rfl (kLm (k:=3) Qd)) ?_;refine o (al' 102) ?_;refine z [1,2,32,32,30] ?_;refine cb (ca Q3y) λr1=>?_;refine z [30,35,35] ?_;refine o (al' 103) ?_;refine z [31,34,1,5,2,32] ?_;refine s1 (bld (l:=[i64 0,i64 0,i64 0,i64 0]) pl_63.h ti_63.h Qt rfl rfl) ?_;refine s1 (neA (p:=(r1.2:Qe)) (q:=((⟨0,0,0,0⟩:Qe):Qe)) K4 rfl eg_63 rfl rfl rfl) ?_;refine z [1] ?_;refine c ?_ ?_
 . refine z [5] ?_;refine sd ?_;refine zd [[103]] ?_;refine dx [] [] (λst mm _ _=>og (asg rfl (kLm (k:=3) Qd))) ?_;refine zd [[102]] ?_;refine de fol ?_;refine z [4,8,10] ?_;exact rt []
 refine z [9,4,5] ?_;refine b λr3 h4=>?_;refine sd ?_;refine zd [[100],[]] ?_;refine dd [] (λ_ _ _ _=>c0 (Q3z _ h4)) ?_;refine zd [[103],[],[102]] ?_;refine de fol ?_;refine z [4,8] ?_;exact rt []
theorem Qp6{n:Nat}{x0_p}{x0_t}{x0_h}{x0_y}{x0_g}{x0_out_Ys}{x0_out_Ks}{x0_out_Next}{x0_out_Err}{x1}:∀ r,Xo n x0_p x0_t x0_h x0_y x0_g x0_out_Ys x0_out_Ks x0_out_Next x0_out_Err x1=some r->FnOk Tryz.prog 218 [.own 0,i64 x1] [(0,.bx 247 (.agg [Jg x0_p,Qd x0_t,Qd x0_h,sli 3 (List.map Qd x0_y),.own 1,.agg [.own 2,.own 3,sli 3 (List.map Qd x0_out_Next),sli 3 (List.map Qd x0_out_Err)]])),(1,.bx 298 (Qs x0_g)),(2,.sl 44 1 (List.map Qj x0_out_Ys)),(3,.sl 44 1 (List.map Qj x0_out_Ks))] (Qp r.1) [(0,.bx 247 (.agg [Jg r.2.1,Qd r.2.2.1,Qd r.2.2.2.1,sli 3 (List.map Qd r.2.2.2.2.1),.own 1,.agg [.own 62,.own 63,sli 3 (List.map Qd r.2.2.2.2.2.1),sli 3 (List.map Qd r.2.2.2.2.2.2.1)]])),(1,.bx 298 (Qs r.2.2.2.2.2.2.2.1)),(2,.gone),(3,.gone),(62,.sl 44 1 (List.map Qj r.2.2.2.2.2.2.2.2.1)),(63,.sl 44 1 (List.map Qj r.2.2.2.2.2.2.2.2.2))]:=by
 unfold Xo
 refine fs Tryz.func218 λw S0 γ hγ=>?_;refine z [2] ?_;refine o (al' 100) ?_;refine z [1,2,30,30,48,33,45,45,36,30] ?_;refine b λy1 h2=>?_;refine z [43,42] ?_;refine b λr3 h4=>?_;refine o (cG (Qjy _ h4) [0,1,2,3] [] [0,1,2,3]) ?_;refine z [31,1,5,2,30,30,30] ?_;refine b λr5 h6=>?_;refine o (cG (Qfq _ h6) [0,1,2,3] [] [0,2,3]) ?_;refine o (al' 101) ?_;refine z [34,1,2,32] ?_;refine s1 (bld (l:=[i64 0,i64 0,i64 0,i64 0]) pl_63.h ti_63.h Qt rfl rfl) ?_;refine s1 (neA (p:=(r5.1:Qe)) (q:=((⟨0,0,0,0⟩:Qe):Qe)) K4 rfl eg_63 rfl rfl rfl) ?_;refine z [1] ?_;refine c ?_ ?_
 . refine z [2,32,34,1,8,10] ?_;exact rt [(0,0),(1,1),(2,2),(3,3),(62,2),(63,3)]
 refine z [9,4,5] ?_;refine b λr7 h8=>?_;refine b λr9 h10=>?_;refine b λr11 h12=>?_;refine sd ?_;refine zd [[],[0],[0],[],[0],[],[0],[0],[0],[],[0],[0],[0],[],[0],[0],[0],[],[0],[0],[0],[]] ?_;refine dd [] (λ_ _ _ _=>c0 (Qzj _ h8)) ?_;refine zd [[]] ?_;refine dd [] (λ_ _ _ _=>c0 (Q44 _ h10)) ?_;refine zd [[],[0],[0],[],[0]] ?_;refine dd [] (λ_ _ _ _=>c0 (Q2e _ h12)) ?_;refine zd [[],[],[]] ?_;refine dd [102] (λ_ _ _ _=>al' 102) ?_;refine zd [[],[102]] ?_;refine de fol ?_;refine z [4,5,2,32] ?_;refine s1 (bld (l:=[i64 0,i64 0,i64 0,i64 0]) pl_63.h ti_63.h Qt rfl rfl) ?_;refine s1 (neA (p:=(r11.2:Qe)) (q:=((⟨0,0,0,0⟩:Qe):Qe)) K4 rfl eg_63 rfl rfl rfl) ?_;refine z [1] ?_;refine c ?_ ?_
 . refine z [2,30,33] ?_;refine o (stP (Qp (⟨r11.2.Kind,r11.2.Step,x1,r11.2.At⟩:Qe)) [2]) ?_;refine z [1,2,32,34,1,8,10] ?_;exact rt [(0,0),(1,1),(2,2),(3,3),(62,2),(63,3)]
 refine z [9,4,2,30,30,48,33,45,36,30] ?_
 refine so (bsl (y:=103) (ls:=List.map Qj ([r3]:List (List Qb))) Tryz.underlying45 ti_44.h rfl rfl rfl rfl rfl ⟨rfl,rfl,(by exact rfl),(by exact rfl),trivial⟩ rfl rfl) ?_
 refine b λy13 h14=>?_;refine o (app' 104) ?_;refine z [48,33,45] ?_;refine o (stP (.agg [Jg x0_p,Qd x0_t,Qd x0_h,sli 3 (List.map Qd x0_y),.own 1,.agg [.own 104,.own 3,sli 3 (List.map Qd x0_out_Next),sli 3 (List.map Qd x0_out_Err)]]) [5,0]) ?_;refine z [1,2,30,30,48,33,45,36,30] ?_
 refine so (bsl (y:=105) (ls:=List.map Qj ([r11.1]:List (List Qb))) Tryz.underlying45 ti_44.h rfl rfl rfl rfl rfl ⟨rfl,rfl,(by exact rfl),(by exact rfl),trivial⟩ rfl rfl) ?_
 refine b λy15 h16=>?_;refine o (app' 106) ?_;refine z [48,33,45] ?_;refine o (stP (.agg [Jg x0_p,Qd x0_t,Qd x0_h,sli 3 (List.map Qd x0_y),.own 1,.agg [.own 104,.own 106,sli 3 (List.map Qd x0_out_Next),sli 3 (List.map Qd x0_out_Err)]]) [5,1]) ?_;refine z [1,2,32,34,1,8] ?_;exact rt [(0,0),(1,1),(2,2),(3,3),(62,104),(63,106)]
theorem Q45{n:Nat}{x0}{x1}:∀ r,Qoh n x0 x1=some r->FnOk Tryz.prog 265 [sli 3 (List.map Qd x0),sli 3 (List.map Qd x1)] [] (.tup [sli 3 (List.map Qd r.1),bl r.2]) []:=by
 unfold Qoh
 refine fs Tryz.func265 λw S0 γ hγ=>?_;refine z [2] ?_;refine s1 (asg rfl (kLm (k:=3) Qd)) ?_;refine z [31,1,2,30] ?_;refine cb (ca V7) λr1=>?_;refine z [30] ?_;refine b λr3 h4=>?_;refine o (cG (Qla _ h4) [] [(100,50)] []) ?_;refine fz 100 [9] [] ?_
 refine so (bsl (y:=101) (ls:=List.map Qj ([x0,r3]:List (List Qb))) Tryz.underlying45 ti_44.h rfl rfl rfl rfl rfl ⟨rfl,rfl,(by exact rfl),(by exact rfl),rfl,rfl,(by exact rfl),(by exact rfl),trivial⟩ rfl rfl) ?_
 refine fz 101 [10] [] ?_;refine cb (ca Qyq) λr5=>?_;refine z [35,35,31,31,1,8] ?_;exact rt []
theorem Q04{n:Nat}{x0}:∀ r,Qey n x0=some r->FnOk Tryz.prog 221 [Jm x0] [] (sli 3 (List.map Qd r)) []:=by
 unfold Qey
 refine fs Tryz.func221 λw S0 γ hγ=>?_;refine z [2] ?_;refine o (bx' 100) ?_;refine s1 (asg rfl (kLm (k:=3) Qd)) ?_;refine z [1,5] ?_;refine sjq (λs5=>[(1,.own 100),(2,sli 3 (List.map Qd ([]:List Qb))),(13,bl s5)]) (λs5=>[(100,.bx 47 (Jm x0))]) ?_ ?_
 . intro j3 hj4
   refine z [6,32] ?_;refine cb (ca Qp2) λr6=>?_;refine z [44,30] ?_;refine sifd 8 rfl ?_ ?_
   . refine z [23,23,23,23,38,1] ?_;exact sj (hj4 _) (eR [(100,100)])
   refine z [22,22,22,22,37,1] ?_;exact sj (hj4 _) (eR [(100,100)])
 intro s5
 refine c ?_ ?_
 . refine z [2] ?_;refine s1 (asg rfl (kLm (k:=3) Qd)) ?_;refine z [1,8,10] ?_;exact rt []
 refine z [9,4,2,33,36,33,36] ?_;refine cb (ca Q45) λr8=>?_;refine z [30,35,35,31,31,1,2,30,31,1,8] ?_;exact rt []
theorem Qsb{n:Nat}{x0_p}{x0_t}{x0_h}{x0_y}{x0_g}{x0_out_Ys}{x0_out_Ks}{x0_out_Next}{x0_out_Err}:∀ r,Qbq n x0_p x0_t x0_h x0_y x0_g x0_out_Ys x0_out_Ks x0_out_Next x0_out_Err=some r->FnOk Tryz.prog 171 [.own 0] [(0,.bx 247 (.agg [Jg x0_p,Qd x0_t,Qd x0_h,sli 3 (List.map Qd x0_y),.own 1,.agg [.own 2,.own 3,sli 3 (List.map Qd x0_out_Next),sli 3 (List.map Qd x0_out_Err)]])),(1,.bx 298 (Qs x0_g)),(2,.sl 44 1 (List.map Qj x0_out_Ys)),(3,.sl 44 1 (List.map Qj x0_out_Ks))] (Qp r.1) [(0,.bx 247 (.agg [Jg r.2.1,Qd r.2.2.1,Qd r.2.2.2.1,sli 3 (List.map Qd r.2.2.2.2.1),.own 1,.agg [.own 62,.own 63,sli 3 (List.map Qd r.2.2.2.2.2.1),sli 3 (List.map Qd r.2.2.2.2.2.2.1)]])),(1,.bx 298 (Qs r.2.2.2.2.2.2.2.1)),(2,.gone),(3,.gone),(62,.sl 44 1 (List.map Qj r.2.2.2.2.2.2.2.2.1)),(63,.sl 44 1 (List.map Qj r.2.2.2.2.2.2.2.2.2))]:=by
 unfold Qbq
 refine fs Tryz.func171 λw S0 γ hγ=>?_;refine z [2] ?_;refine o (al' 100) ?_;refine z [1,2,30,48,33,45,36] ?_;refine o (al' 101) ?_;refine z [34,1,5,2,33,36,39,30,1,7] ?_;refine srN (λs14=>[(0,.own 0),(2,.own 100),(3,.own 101)]) (λs14=>[(2,.gone),(3,.gone),(0,.bx 247 (.agg [Jg s14.1,Qd s14.2.1,Qd s14.2.2.1,sli 3 (List.map Qd s14.2.2.2.1),.own 1,.agg [.own 102,.own 103,sli 3 (List.map Qd s14.2.2.2.2.2.2.2.1),sli 3 (List.map Qd s14.2.2.2.2.2.2.2.2)]])),(1,.bx 298 (Qs s14.2.2.2.2.1)),(102,.sl 44 1 (List.map Qj s14.2.2.2.2.2.1)),(103,.sl 44 1 (List.map Qj s14.2.2.2.2.2.2.1)),(100,.bx 63 (Qp (⟨0,0,0,0⟩:Qe))),(101,.bx 47 (Jm x0_p.Scheme))]) (rE (eR [(2,2),(3,3),(0,0),(1,1),(102,2),(103,3),(100,100),(101,101)])) ?_ ?_
 . intro i15 x16 s14 hx17
   refine z [7,2,30,31,1,2,30,30] ?_;refine b λr18 h19=>?_;refine o (cG (Qp6 _ h19) [0,1,102,103] [(104,62),(105,63)] []) ?_;refine o (al' 106) ?_;refine z [34,1,2,32] ?_;refine s1 (bld (l:=[i64 0,i64 0,i64 0,i64 0]) pl_63.h ti_63.h Qt rfl rfl) ?_;refine s1 (neA (p:=(r18.1:Qe)) (q:=((⟨0,0,0,0⟩:Qe):Qe)) K4 rfl eg_63 rfl rfl rfl) ?_;refine z [1] ?_;refine c ?_ ?_
   . refine z [2,32,34,1,8,12] ?_;refine sU ?_;refine z [12,10] ?_;exact rt [(0,0),(1,1),(2,2),(3,3),(62,104),(63,105)]
   refine z [9,11] ?_;exact sgo (eR [(2,2),(3,3),(0,0),(1,1),(102,104),(103,105),(100,100),(101,101)])
 intro s20
 refine z [13,4,2,30,30,33,36] ?_;refine b λr21 h22=>?_;refine o (cG (Qjy _ h22) [0,1,102,103] [] [0,1,102,103]) ?_;refine z [48,33,45] ?_;refine o (stP (.agg [Jg s20.1,Qd s20.2.1,Qd s20.2.2.1,sli 3 (List.map Qd s20.2.2.2.1),.own 1,.agg [.own 102,.own 103,sli 3 (List.map Qd r21),sli 3 (List.map Qd s20.2.2.2.2.2.2.2.2)]]) [5,2]) ?_;refine z [1,5,5] ?_;refine b λr23 h24=>?_;refine sd ?_;refine zd [[],[],[0],[0],[],[0],[101],[101],[]] ?_;refine dd [0,1,102,103] (λ_ _ _ _=>cG (Qfq _ h24) [0,1,102,103] [] [0,102,103]) ?_;refine dd [104] (λ_ _ _ _=>al' 104) ?_;refine zd [[104]] ?_;refine de fol ?_;refine z [4,2,32] ?_;refine s1 (bld (l:=[i64 0,i64 0,i64 0,i64 0]) pl_63.h ti_63.h Qt rfl rfl) ?_;refine s1 (neA (p:=(r23.1:Qe)) (q:=((⟨0,0,0,0⟩:Qe):Qe)) K4 rfl eg_63 rfl rfl rfl) ?_;refine z [1] ?_;refine c ?_ ?_
 . refine z [2,32,34,1,8,10] ?_;exact rt [(0,0),(1,1),(2,2),(3,3),(62,102),(63,103)]
 refine z [9,4] ?_;refine sjq (λs31=>[(0,.own 0),(2,.own 100),(3,.own 101)]) (λs31=>[(2,.gone),(3,.gone),(0,.bx 247 (.agg [Jg s20.1,Qd s20.2.1,Qd s20.2.2.1,sli 3 (List.map Qd s20.2.2.2.1),.own 1,.agg [.own 102,.own 103,sli 3 (List.map Qd r21),sli 3 (List.map Qd s31)]])),(1,.bx 298 (Qs r23.2)),(102,.sl 44 1 (List.map Qj s20.2.2.2.2.2.1)),(103,.sl 44 1 (List.map Qj s20.2.2.2.2.2.2.1)),(100,.bx 63 (Qp (⟨0,0,0,0⟩:Qe))),(101,.bx 47 (Jm x0_p.Scheme))]) ?_ ?_
 . intro j29 hj30
   refine z [2,32] ?_;refine cb (ca Q04) λr32=>?_;refine z [31,1,2,30,39,47,1] ?_;refine c ?_ ?_
   . refine z [6,30,30,30] ?_;refine b λr34 h35=>?_;refine o (cG (Qh6 _ h35) [0,1,102,103] [] [0,1,102,103]) ?_;refine z [48,33,45] ?_;refine o (stP (.agg [Jg s20.1,Qd s20.2.1,Qd s20.2.2.1,sli 3 (List.map Qd s20.2.2.2.1),.own 1,.agg [.own 102,.own 103,sli 3 (List.map Qd r21),sli 3 (List.map Qd r34)]]) [5,3]) ?_;refine z [1] ?_;exact sj (hj30 _) (eR [(2,2),(3,3),(0,0),(1,1),(102,102),(103,103),(100,100),(101,101)])
   refine z [9,4] ?_;exact sj (hj30 _) (eR [(2,2),(3,3),(0,0),(1,1),(102,102),(103,103),(100,100),(101,101)])
 intro s31
 refine z [5] ?_;refine b λr36 h37=>?_;refine sd ?_;refine zd [[],[],[0],[0],[],[0],[101],[101],[],[]] ?_;refine dd [0,1,102,103] (λ_ _ _ _=>cG (Qfq _ h37) [0,1,102,103] [] [0,102,103]) ?_;refine zd [[100]] ?_;refine de fol ?_;refine z [4,8] ?_;exact rt [(0,0),(1,1),(2,2),(3,3),(62,102),(63,103)]
theorem Q46{n:Nat}{x0}{x1}{x2}{x3}:∀ r,Qlj n x0 x1 x2 x3=some r->FnOk Tryz.prog 105 [Jg x0,Qd x1,Qd x2,sli 3 (List.map Qd x3)] [] (.tup [Qk6 r.1,Qp r.2]) []:=by
 unfold Qlj
 refine fs Tryz.func105 λw S0 γ hγ=>?_;refine z [2] ?_;refine o (bx' 100) ?_;refine o (bx' 101) ?_;refine o (bx' 102) ?_;refine o (al' 103) ?_;refine o (al' 104) ?_;refine z [1,5] ?_;refine sjq (λs5=>[(3,sli 3 (List.map Qd x3)),(4,.own 100),(5,.own 101),(6,.own 102),(8,.own 103),(9,.own 104),(22,bl s5)]) (λs5=>[(100,.bx 49 (Jg x0)),(101,.bx 53 (Qd x1)),(102,.bx 53 (Qd x2)),(103,.bx 183 (Qk6 (⟨[],[],[],[]⟩:Qay))),(104,.bx 63 (Qp (⟨0,0,0,0⟩:Qe)))]) ?_ ?_
 . intro j3 hj4
   refine z [6,32] ?_;refine cb (ca Qsr) λr6=>?_;refine z [44,30] ?_;refine sifd 15 rfl ?_ ?_
   . refine z [23,23,23,23,23,23,38,1] ?_;exact sj (hj4 _) (eR [(100,100),(101,101),(102,102),(103,103),(104,104)])
   refine z [22,22,22,22,22,22,37,1] ?_;exact sj (hj4 _) (eR [(100,100),(101,101),(102,102),(103,103),(104,104)])
 intro s5
 refine c ?_ ?_
 . refine z [2] ?_;refine s1 (bld (l:=[sli 1 (List.map Qj []),sli 1 (List.map Qj []),sli 3 (List.map Qd []),sli 3 (List.map Qd [])]) Q4w.h Qsm.h Qm2 rfl rfl) ?_;refine s1 (bld (l:=[i64 (2:Int),i64 0,i64 0,i64 0]) pl_63.h ti_63.h Qt ⟨_,_,_,(kI (x:=2) rfl),rfl,rfl,rfl,(szk (k:=1) rfl rfl),rfl⟩ rfl) ?_;refine z [34,34,1,8,10] ?_;exact rt []
 refine z [9,4,5] ?_;refine b λr8 h9=>?_;refine sd ?_;refine zd [[100],[101],[102],[],[100],[100]] ?_;refine dd [105] (λ_ _ _ _=>cG (Que _ h9) [] [(105,50)] []) ?_;refine dx [25,26,27,28,31] [106,107] (λst mm ⟨a25,a26,a27,a28,a31,_⟩ ⟨g106,g107,_⟩=>og (bldO (l:=[Jg x0,Qd x1,Qd x2,sli 3 (List.map Qd x3),.own 105,.agg [.own 106,.own 107,sli 3 (List.map Qd []),sli 3 (List.map Qd [])]]) [(106,44,1),(107,44,1)] Q9t.h Q9s.h (Qle (Kz (c1:=[.slice none 0 0,.slice none 0 0,.int .i64 0,.int .i64 0,.string ⟨#[]⟩,.slice none 0 0,.slice none 0 0,.slice none 0 0,.slice none 0 0,.slice none 0 0,.int .i64 0]) (zo_of Qd3) (Kz (c1:=[.bool false,.slice none 0 0,.slice none 0 0]) (zo_of Jz) (Kz (c1:=[.bool false,.slice none 0 0,.slice none 0 0]) (zo_of Jz) (Kz (c1:=[.slice none 0 0]) (zo_of (J6 (k:=3))) (Kz (c1:=[.pointer none]) (zo_of Qvk) (Kz (c1:=[.slice none 0 0,.slice none 0 0,.slice none 0 0,.slice none 0 0]) (Qle (Kz (c1:=[.slice none 0 0]) (Qht rfl) (Kz (c1:=[.slice none 0 0]) (Qht rfl) (Kz (c1:=[.slice none 0 0]) (zo_of (J6 (k:=3))) (Kz (c1:=[.slice none 0 0]) (zo_of (J6 (k:=3))) (Qiu)))))) (Qiu)))))))) ⟨(g106.trans rfl),(g107.trans rfl),trivial⟩ rfl ⟨_,_,_,(a25.trans rfl),rfl,rfl,rfl,(szk (k:=11) rfl rfl),⟨_,_,_,(a26.trans rfl),rfl,rfl,rfl,(szk (k:=3) rfl rfl),⟨_,_,_,(a27.trans rfl),rfl,rfl,rfl,(szk (k:=3) rfl rfl),⟨_,_,_,(a28.trans rfl),rfl,rfl,rfl,(szk (k:=1) rfl rfl),⟨_,_,_,(a31.trans rfl),rfl,rfl,rfl,(szk (k:=1) rfl rfl),rfl⟩⟩⟩⟩⟩ rfl)) ?_;refine dd [108] (λ_ _ _ _=>bx' 108) ?_;refine zd [[]] ?_;refine de fol ?_;refine z [4,5,2,30] ?_;refine b λr10 h11=>?_;refine o (cG (Qsb _ h11) [108,105,106,107] [(109,62),(110,63)] []) ?_;refine o (al' 111) ?_;refine z [34,1,2,32] ?_;refine s1 (bld (l:=[i64 0,i64 0,i64 0,i64 0]) pl_63.h ti_63.h Qt rfl rfl) ?_;refine s1 (neA (p:=(r10.1:Qe)) (q:=((⟨0,0,0,0⟩:Qe):Qe)) K4 rfl eg_63 rfl rfl rfl) ?_;refine z [1] ?_;refine c ?_ ?_
 . refine z [5] ?_;refine sd ?_;refine dx [] [] (λst mm _ _=>og (bld (l:=[sli 1 (List.map Qj []),sli 1 (List.map Qj []),sli 3 (List.map Qd []),sli 3 (List.map Qd [])]) Q4w.h Qsm.h Qm2 rfl rfl)) ?_;refine zd [[111],[103],[104]] ?_;refine de fol ?_;refine z [4,8,10] ?_;exact rt []
 refine z [9,4,2,30,48,33,36] ?_;refine s1 (bld (l:=[i64 0,i64 0,i64 0,i64 0]) pl_63.h ti_63.h Qt rfl rfl) ?_;refine z [34,34,1,8] ?_;refine fz 109 [44] [103,108] ?_;refine fz 110 [44] [103,108] ?_;exact rt []
theorem Q30{n:Nat}{x0}:∀ r,Qjr n x0=some r->FnOk Tryz.prog 173 [Qd x0] [] (Qd r) []:=by
 unfold Qjr
 refine fs Tryz.func173 λw S0 γ hγ=>?_;refine z [2] ?_;refine o (bx' 100) ?_;refine o (al' 101) ?_;refine z [1,2,32] ?_;refine cb (ca Wh) λr1=>?_;refine o (al' 102) ?_;refine z [34,1,2,33,45] ?_;refine o (stP (Qd (⟨(⟨false,r1.Num.Abs⟩:Qf),r1.Den⟩:Qb)) [0,0]) ?_;refine z [1,2,32,34,1,8] ?_;exact rt []
theorem Q31{n:Nat}{x0}:∀ r,Qjs n x0=some r->FnOk Tryz.prog 172 [sli 3 (List.map Qd x0)] [] (Qd r) []:=by
 unfold Qjs
 refine fs Tryz.func172 λw S0 γ hγ=>?_;refine z [2] ?_;refine o (al' 100) ?_;refine z [1,2] ?_;refine cb (ca V7) λr1=>?_;refine o (al' 101) ?_;refine z [34,1,5,2,30,39,30,1,7] ?_;refine srN (λs30=>[(2,.own 100),(3,.own 101),(7,sli 3 (List.map Qd x0))]) (λs30=>[(100,.bx 53 (Qd (⟨(⟨false,[]⟩:Qf),[]⟩:Qb))),(101,.bx 53 (Qd s30))]) (rE (eR [(100,100),(101,101)])) ?_ ?_
 . intro i31 x32 s30 hx33
   refine z [7,2,30,43,42] ?_;refine o (al' 102) ?_;refine z [31,34,1] ?_;refine sjq (λs38=>[(2,.own 100),(3,.own 101),(5,.own 102),(7,sli 3 (List.map Qd x0)),(8,i64 (x0.length:Int)),(9,i64 (i31:Int)),(21,bl s38)]) (λs38=>[(100,.bx 53 (Qd (⟨(⟨false,[]⟩:Qf),[]⟩:Qb))),(101,.bx 53 (Qd s30)),(102,.bx 53 (Qd x32))]) ?_ ?_
   . intro j36 hj37
     refine z [6,30,41,30] ?_;refine sifd 16 rfl ?_ ?_
     . refine z [23,23,23,23,38,1] ?_;exact sj (hj37 _) (eR [(100,100),(101,101),(102,102)])
     refine z [22,22] ?_;refine b λr39 h40=>?_;refine og' (c0 (Qbd _ h40)) ?_;refine z [22,37,1] ?_;exact sj (hj37 _) (eR [(100,100),(101,101),(102,102)])
   intro s38
   refine c ?_ ?_
   . refine z [6,32] ?_;refine cb (ca Wh) λr41=>?_;refine z [34,3,11] ?_;exact sgo (eR [(100,100),(101,101)])
   refine z [9,11] ?_;exact sgo (eR [(100,100),(101,101)])
 intro s43
 refine z [13,4,2,32,34,1,8] ?_;exact rt []
theorem Q32{n:Nat}{x0}:∀ r,Qjt n x0=some r->FnOk Tryz.prog 106 [sli 3 (List.map Qd x0)] [] (Qd r) []:=by
 unfold Qjt
 refine fs Tryz.func106 λw S0 γ hγ=>?_;refine z [2] ?_;refine o (al' 100) ?_;refine z [1,2] ?_;refine cb (ca V7) λr1=>?_;refine o (al' 101) ?_;refine z [34,1,5,2,30,39,30,1,7] ?_;refine srN (λs22=>[(2,.own 100),(3,.own 101),(7,sli 3 (List.map Qd x0))]) (λs22=>[(100,.bx 53 (Qd (⟨(⟨false,[]⟩:Qf),[]⟩:Qb))),(101,.bx 53 (Qd s22))]) (rE (eR [(100,100),(101,101)])) ?_ ?_
 . intro i23 x24 s22 hx25
   refine z [7,2,43,42] ?_;refine o (al' 102) ?_;refine z [34,1] ?_;refine b λr26 h27=>?_;refine b λr28 h29=>?_;refine sd ?_;refine zd [[101],[102]] ?_;refine dd [] (λ_ _ _ _=>c0 (Q30 _ h27)) ?_
   refine dx [13,15] [103] (λst mm ⟨a13,a15,_⟩ ⟨g103,_⟩=>og (toV (bsl (y:=103) (ls:=List.map Qd ([s22,r26]:List Qb)) Tryz.underlying44 ti_53.h rfl rfl rfl rfl rfl ⟨rfl,(a13.trans rfl),(by exact rfl),(by exact rfl),rfl,(a15.trans rfl),(by exact rfl),(by exact rfl),trivial⟩ (g103.trans rfl) rfl) (J7 (f:=Qd) (λ_=>J4) ([s22,r26]:List Qb)))) ?_
   refine dd [] (λ_ _ _ _=>c0 (Q31 _ h29)) ?_;refine zd [[101]] ?_;refine de fol ?_;refine z [11] ?_;exact sgo (eR [(100,100),(101,101)])
 intro s30
 refine z [13,4,2,32,34,1,8] ?_;exact rt []
theorem Qxh{n:Nat}{x0}{x1}:∀ r,Qez n x0 x1=some r->FnOk Tryz.prog 107 [Vv x0,Qd x1] [] (bl r) []:=by
 unfold Qez
 refine fs Tryz.func107 λw S0 γ hγ=>?_;refine z [2] ?_;refine o (bx' 100) ?_;refine o (bx' 101) ?_;refine z [31,1,2,32,33,36] ?_;refine cb (ca Qbd) λr1=>?_;refine z [58,31,1,8] ?_;exact rt []
theorem Qzk{n:Nat}{x0}{x1}:∀ r,Qfx n x0 x1=some r->FnOk Tryz.prog 303 [Q2 x0,Q2 x1] [] (.tup [Q2 r.1,Q2 r.2.1,bl r.2.2]) []:=by
 unfold Qfx
 refine fs Tryz.func303 λw S0 γ hγ=>?_;refine z [2] ?_;refine o (bx' 100) ?_;refine o (bx' 101) ?_;refine o (al' 102) ?_;refine o (al' 103) ?_;refine z [31,1,2,33,36,33,36] ?_;refine cb (ca Qjx) λr1=>?_;refine z [30,35,35,35,31,31,31,1,5,2,30,44,1] ?_;refine c ?_ ?_
 . refine z [2] ?_;refine s1 (bld (l:=[bl false,sli 1 (List.map u32 [])]) pl_51.h ti_51.h Vp rfl rfl) ?_;refine s1 (bld (l:=[bl false,sli 1 (List.map u32 [])]) pl_51.h ti_51.h Vp rfl rfl) ?_;refine z [34,34,31,1,8,10] ?_;exact rt []
 refine z [9,4,2,33,36,33,36,75,30] ?_;refine cb (ca Yo) λr3=>?_;refine z [34,1,5] ?_;refine b λr5 h6=>?_;refine b λr7 h8=>?_;refine sd ?_;refine zd [[100],[102],[101]] ?_;refine dd [] (λ_ _ _ _=>c0 (Qpf _ h6)) ?_;refine dd [] (λ_ _ _ _=>c0 (Qk8 _ h8)) ?_;refine zd [[103]] ?_;refine de fol ?_;refine z [4] ?_;refine sjq (λs21=>[(4,.own 102),(5,.own 103),(6,bl r1.2.2)]) (λs21=>[(102,.bx 51 (Q2 s21.1)),(103,.bx 51 (Q2 s21.2))]) ?_ ?_
 . intro j19 hj20
   refine z [5] ?_;refine b λr22 h23=>?_;refine b λr24 h25=>?_;refine sd ?_;refine zd [[103]] ?_;refine dd [] (λ_ _ _ _=>c0 (Qg3 _ h23)) ?_;refine zd [[101]] ?_;refine dd [] (λ_ _ _ _=>c0 (Qg3 _ h25)) ?_;refine zd [[],[]] ?_;refine de fol ?_;refine z [4] ?_;refine c ?_ ?_
   . refine z [5] ?_;refine b λr26 h27=>?_;refine b λr28 h29=>?_;refine sd ?_;refine zd [[102]] ?_;refine dd [] (λ_ _ _ _=>c0 (Qq5 _ h27)) ?_;refine dd [] (λ_ _ _ _=>c0 (Qk8 _ h29)) ?_;refine zd [[102]] ?_;refine de fol ?_;refine z [4,6,32,32] ?_;refine cb (ca Qpg) λr30=>?_;refine z [34,1] ?_;exact sj (hj20 _) (eR [(102,102),(103,103)])
   refine z [9,4] ?_;exact sj (hj20 _) (eR [(102,102),(103,103)])
 intro s21
 refine z [5] ?_;refine sd ?_;refine zd [[102],[103],[102],[103],[]] ?_;refine de fol ?_;refine z [4,8] ?_;exact rt []
theorem Q05{n:Nat}{x0}:∀ r,Qgw n x0=some r->FnOk Tryz.prog 267 [Qd x0] [] (Q2 r) []:=by
 unfold Qgw
 refine fs Tryz.func267 λw S0 γ hγ=>?_;refine z [2] ?_;refine o (bx' 100) ?_;refine o (al' 101) ?_;refine z [1,2,32] ?_;refine cb (ca Xu) λr1=>?_;refine z [30,35,35] ?_;refine o (al' 102) ?_;refine z [34,31,1,2,32,30] ?_;refine s1 (bld (l:=[bl false,sli 1 (List.map u32 r1.2)]) pl_51.h ti_51.h Vp ⟨_,_,_,rfl,rfl,rfl,rfl,(szk (k:=1) rfl rfl),rfl⟩ rfl) ?_;refine cb (ca Qzk) λr3=>?_;refine z [30,35,35,35] ?_;refine o (al' 103) ?_;refine o (al' 104) ?_;refine z [34,34,31,1,2,32,34,1,8] ?_;exact rt []
theorem Q2f{n:Nat}{x0}{x1}:∀ r,Qh4 n x0 x1=some r->FnOk Tryz.prog 223 [Qd x0,i64 x1] [] (Qd r) []:=by
 unfold Qh4
 refine fs Tryz.func223 λw S0 γ hγ=>?_;refine z [2] ?_;refine o (bx' 100) ?_;refine o (al' 101) ?_;refine z [1,5] ?_;refine b λr1 h2=>?_;refine b λr3 h4=>?_;refine b λr5 h6=>?_;refine sd ?_;refine zd [[100],[]] ?_;refine dd [] (λ_ _ _ _=>c0 (V7 _ h2)) ?_;refine dd [] (λ_ _ _ _=>c0 (Qfp _ h4)) ?_;refine dd [] (λ_ _ _ _=>c0 (Q05 _ h6)) ?_;refine dd [102] (λ_ _ _ _=>al' 102) ?_;refine zd [[102]] ?_;refine de fol ?_;refine z [4,5] ?_;refine b λr7 h8=>?_;refine b λr9 h10=>?_;refine sd ?_;refine zd [[102],[]] ?_;refine dd [] (λ_ _ _ _=>c0 (Qq5 _ h8)) ?_
 refine dx [16] [] (λst mm ⟨a16,_⟩ _=>og (fld Q7z (by exact rfl) (by exact rfl) (by exact rfl) rfl (a16.trans rfl))) ?_
 refine dd [] (λ_ _ _ _=>c0 (Qmi _ h10)) ?_;refine zd [[],[],[]] ?_;refine dd [103] (λ_ _ _ _=>al' 103) ?_;refine zd [[103],[]] ?_;refine de fol ?_;refine z [4,2,32,34,1,8] ?_;exact rt []
theorem Qzl{n:Nat}{x0}{x1}:∀ r,Qfy n x0 x1=some r->FnOk Tryz.prog 174 [Vv x0,Qd x1] [] (Qd r) []:=by
 unfold Qfy
 refine fs Tryz.func174 λw S0 γ hγ=>?_;refine z [2] ?_;refine o (bx' 100) ?_;refine o (bx' 101) ?_;refine o (al' 102) ?_;refine z [1,5] ?_;refine b λr1 h2=>?_;refine b λr3 h4=>?_;refine sd ?_;refine zd [[100],[100],[100],[100]] ?_;refine dd [] (λ_ _ _ _=>c0 (Qfp _ h2)) ?_;refine zd [[101]] ?_;refine dd [] (λ_ _ _ _=>c0 (Qq8 _ h4)) ?_;refine zd [[],[],[]] ?_;refine dd [103] (λ_ _ _ _=>al' 103) ?_;refine zd [[103],[]] ?_;refine de fol ?_;refine z [4,5,2,30,44,1] ?_;refine c ?_ ?_
 . refine z [2,33,36] ?_;refine cb (ca Wh) λr5=>?_;refine z [34,1,8,10] ?_;exact rt []
 refine z [9,4,2,32,33,36] ?_;refine cb (ca Q2f) λr7=>?_;refine z [34,1,5,7,2,32,33,36] ?_;refine cb (ca Qbd) λr9=>?_;refine z [46,31,1] ?_;refine c ?_ ?_
 . refine z [2,33,36] ?_;refine cb (ca Wh) λr11=>?_;refine z [34,1,8,12,10] ?_;exact rt []
 refine z [2,32,33,36] ?_;refine cb (ca Qbd) λr13=>?_;refine z [47,31,1] ?_;refine c ?_ ?_
 . refine z [2,33,36] ?_;refine cb (ca Wh) λr15=>?_;refine z [34,1,8,12,10] ?_;exact rt []
 refine z [9,11,4,2,32,34,1,8] ?_;exact rt []
theorem Q2g{n:Nat}{x0}{x1}{x2}:∀ r,Qk4 n x0 x1 x2=some r->FnOk Tryz.prog 108 [Vv x0,Qd x1,Qd x2] [] (Qd r) []:=by
 unfold Qk4
 refine fs Tryz.func108 λw S0 γ hγ=>?_;refine z [2] ?_;refine o (bx' 100) ?_;refine o (bx' 101) ?_;refine o (bx' 102) ?_;refine o (al' 103) ?_;refine z [1,5] ?_;refine b λr1 h2=>?_;refine b λr3 h4=>?_;refine sd ?_;refine zd [[101],[100],[102]] ?_;refine dd [] (λ_ _ _ _=>c0 (Qzl _ h2)) ?_;refine dd [] (λ_ _ _ _=>c0 (Qfp _ h4)) ?_;refine zd [[103]] ?_;refine de fol ?_;refine z [4,8] ?_;exact rt []
theorem Qml{n:Nat}{x0_k}{x0_h_Tries}{x0_h_T}{x0_h_Y}{x0_want}:∀ r,Xg n x0_k x0_h_Tries x0_h_T x0_h_Y x0_want=some r->FnOk Tryz.prog 56 [.own 0] [(0,.bx 119 (.agg [Ke x0_k,.agg [.own 1,Qd x0_h_T,sli 3 (List.map Qd x0_h_Y)],Qd x0_want])),(1,.sl 82 14 (List.map Kq x0_h_Tries))] (Qp r.1) [(0,.bx 119 (.agg [Ke r.2.1,.agg [.own 61,Qd r.2.2.1,sli 3 (List.map Qd r.2.2.2.1)],Qd r.2.2.2.2.1])),(1,.gone),(61,.sl 82 14 (List.map Kq r.2.2.2.2.2))]:=by
 unfold Xg
 refine fs Tryz.func56 λw S0 γ hγ=>?_;refine z [2] ?_;refine o (al' 100) ?_;refine z [1,5] ?_;refine b λr1 h2=>?_;refine sd ?_;refine zd [[],[0],[0],[],[0],[],[0],[0],[],[0],[],[0],[0],[0]] ?_;refine dd [] (λ_ _ _ _=>c0 (Q3t _ h2)) ?_;refine dd [101] (λ_ _ _ _=>al' 101) ?_;refine zd [[101]] ?_;refine de fol ?_;refine z [4,5] ?_;refine b λr3 h4=>?_;refine sd ?_;refine zd [[],[0],[0],[],[0],[],[0],[0],[],[0],[101],[],[0],[0],[],[0]] ?_;refine dd [] (λ_ _ _ _=>c0 (Q46 _ h4)) ?_;refine zd [[],[],[]] ?_;refine dd [102] (λ_ _ _ _=>al' 102) ?_;refine dd [103] (λ_ _ _ _=>al' 103) ?_;refine zd [[102],[103]] ?_;refine de fol ?_;refine z [4,5,2,32] ?_;refine s1 (bld (l:=[i64 0,i64 0,i64 0,i64 0]) pl_63.h ti_63.h Qt rfl rfl) ?_;refine s1 (neA (p:=(r3.2:Qe)) (q:=((⟨0,0,0,0⟩:Qe):Qe)) K4 rfl eg_63 rfl rfl rfl) ?_;refine z [1] ?_;refine c ?_ ?_
 . refine z [2,30,48,33,45,36,55,40,33] ?_;refine o (stP (Qp (⟨r3.2.Kind,wrap64 ((x0_h_Tries.length:Int)+(1:Int)),r3.2.Stage,r3.2.At⟩:Qe)) [1]) ?_;refine z [1,2,32,34,1,8,10] ?_;exact rt [(0,0),(1,1),(61,1)]
 refine z [9,4,2,33,36] ?_;refine cb (ca Q32) λr5=>?_;refine o (al' 104) ?_;refine z [34,1,5] ?_;refine b λr7 h8=>?_;refine sd ?_;refine zd [[],[0],[0],[],[0],[],[0],[0],[0],[101],[104],[],[0],[0],[],[0],[],[0],[0],[],[0],[104]] ?_;refine dd [] (λ_ _ _ _=>c0 (Qxh _ h8)) ?_;refine dx [62,66,67,68,73,80] [] (λst mm ⟨a62,a66,a67,a68,a73,a80,_⟩ _=>og (bld (l:=[Qd x0_h_T,Qd x0_want,Qd r1,Qd r5,sli 3 (List.map Qd x0_h_Y),bl r7]) pl_82.h ti_82.h Qo7 ⟨_,_,_,(a62.trans rfl),rfl,rfl,rfl,(szk (k:=3) rfl rfl),⟨_,_,_,(a66.trans rfl),rfl,rfl,rfl,(szk (k:=3) rfl rfl),⟨_,_,_,(a67.trans rfl),rfl,rfl,rfl,(szk (k:=3) rfl rfl),⟨_,_,_,(a68.trans rfl),rfl,rfl,rfl,(szk (k:=3) rfl rfl),⟨_,_,_,(a73.trans rfl),rfl,rfl,rfl,(szk (k:=1) rfl rfl),⟨_,_,_,(a80.trans rfl),rfl,rfl,rfl,(szk (k:=1) rfl rfl),rfl⟩⟩⟩⟩⟩⟩ rfl)) ?_;refine dd [105] (λ_ _ _ _=>al' 105) ?_;refine zd [[105]] ?_;refine de fol ?_;refine z [4,5] ?_;refine b λy9 h10=>?_;refine sd ?_;refine zd [[],[],[0],[0],[],[0],[105]] ?_
 refine dx [88] [106] (λst mm ⟨a88,_⟩ ⟨g106,_⟩=>og (bsl (y:=106) (ls:=List.map Kq ([(⟨x0_h_T,x0_want,r1,r5,x0_h_Y,r7⟩:Jf)]:List Jf)) Tryz.underlying59 ti_82.h rfl rfl rfl rfl rfl ⟨rfl,(a88.trans rfl),(by exact rfl),(by exact rfl),trivial⟩ (g106.trans rfl) rfl)) ?_
 refine dd [1,106,107] (λ_ _ _ _=>app' 107) ?_;refine zd [[0],[0],[]] ?_;refine dd [0] (λ_ _ _ _=>stP (.agg [Ke x0_k,.agg [.own 107,Qd x0_h_T,sli 3 (List.map Qd x0_h_Y)],Qd x0_want]) [1,0]) ?_;refine de fol ?_;refine z [4] ?_;refine sjq (λs15=>[(0,.own 0),(2,.own 100),(3,.own 101),(5,.own 103),(6,.own 104)]) (λs15=>[(1,.gone),(0,.bx 119 (.agg [Ke x0_k,.agg [.own 107,Qd s15.1,sli 3 (List.map Qd s15.2)],Qd x0_want])),(107,.sl 82 14 (List.map Kq y9)),(100,.bx 63 (Qp (⟨0,0,0,0⟩:Qe))),(101,.bx 53 (Qd r1)),(103,.bx 63 (Qp r3.2)),(104,.bx 53 (Qd r5))]) ?_ ?_
 . intro j13 hj14
   refine z [2,33,36,1] ?_;refine c ?_ ?_
   . refine b λr16 h17=>?_;refine sd ?_;refine zd [[],[],[],[0],[0],[],[0],[101]] ?_;refine dd [] (λ_ _ _ _=>c0 (Qhe _ h17)) ?_;refine zd [[102],[102],[0],[0],[]] ?_;refine dd [0] (λ_ _ _ _=>stP (.agg [Ke x0_k,.agg [.own 107,Qd r16,sli 3 (List.map Qd x0_h_Y)],Qd x0_want]) [1,1]) ?_;refine zd [[0],[0],[]] ?_;refine dd [0] (λ_ _ _ _=>stP (.agg [Ke x0_k,.agg [.own 107,Qd r16,sli 3 (List.map Qd r3.1.Next)],Qd x0_want]) [1,2]) ?_;refine de fol ?_;refine z [4] ?_;exact sj (hj14 _) (eR [(1,1),(0,0),(107,107),(100,100),(101,101),(103,103),(104,104)])
   refine z [9,4] ?_;exact sj (hj14 _) (eR [(1,1),(0,0),(107,107),(100,100),(101,101),(103,103),(104,104)])
 intro s15
 refine z [5] ?_;refine b λr18 h19=>?_;refine sd ?_;refine zd [[],[],[0],[0],[],[0],[101],[104]] ?_;refine dd [] (λ_ _ _ _=>c0 (Q2g _ h19)) ?_;refine zd [[0],[0]] ?_;refine dd [0] (λ_ _ _ _=>stP (.agg [Ke x0_k,.agg [.own 107,Qd s15.1,sli 3 (List.map Qd s15.2)],Qd r18]) [2]) ?_;refine de fol ?_;refine z [4,2,32,34,1,8] ?_;exact rt [(0,0),(1,1),(61,107)]
theorem Qsv{n:Nat}{x0}:∀ r,Qe1 n x0=some r->FnOk Tryz.prog 12 [Ke x0] [] (.tup [Kr r.1,Qp r.2]) []:=by
 unfold Qe1
 refine fs Tryz.func12 λw S0 γ hγ=>?_;refine z [2] ?_;refine o (bx' 100) ?_;refine o (al' 101) ?_;refine o (al' 102) ?_;refine z [1,16,5,2,32] ?_;refine cb (ca Ql1) λr1=>?_;refine z [44,1] ?_;refine c ?_ ?_
 . refine z [2] ?_;refine s1 (bld (l:=[sli 14 (List.map Kq []),Qd (⟨(⟨false,[]⟩:Qf),[]⟩:Qb),sli 3 (List.map Qd [])]) pl_61.h ti_61.h Qgc rfl rfl) ?_;refine s1 (bld (l:=[i64 (2:Int),i64 0,i64 0,i64 0]) pl_63.h ti_63.h Qt ⟨_,_,_,(kI (x:=2) rfl),rfl,rfl,rfl,(szk (k:=1) rfl rfl),rfl⟩ rfl) ?_;refine z [34,34,1,8,10,18] ?_;exact rt []
 refine z [9,4,5] ?_;refine b λr3 h4=>?_;refine b λr5 h6=>?_;refine b λr7 h8=>?_;refine b λr9 h10=>?_;refine sd ?_;refine zd [[100],[100],[100]] ?_;refine dd [] (λ_ _ _ _=>c0 (Wh _ h4)) ?_;refine dd [] (λ_ _ _ _=>c0 (V7 _ h6)) ?_;refine zd [[100],[100]] ?_;refine dd [103] (λ_ _ _ _=>tV (cG (Qla _ h8) [] [(103,50)] [])) ?_;refine dx [15,19] [104] (λst mm ⟨a15,a19,_⟩ ⟨g104,_⟩=>og (bldO (l:=[.own 104,Qd r3,sli 3 (List.map Qd r7)]) [(104,82,14)] pl_61.h ti_61.h (Qle (Kz (c1:=[.slice none 0 0]) (Qht rfl) (Kz (c1:=[.bool false,.slice none 0 0,.slice none 0 0]) (zo_of Jz) (Kz (c1:=[.slice none 0 0]) (zo_of (J6 (k:=3))) (Qiu))))) ⟨(g104.trans rfl),trivial⟩ rfl ⟨_,_,_,(a15.trans rfl),rfl,rfl,rfl,(szk (k:=3) rfl rfl),⟨_,_,_,(a19.trans rfl),rfl,rfl,rfl,(szk (k:=1) rfl rfl),rfl⟩⟩ rfl)) ?_;refine zd [[100],[100]] ?_;refine dd [] (λ_ _ _ _=>c0 (Wh _ h10)) ?_;refine dx [20,12,23] [] (λst mm ⟨a20,a12,a23,_⟩ _=>og (bld (l:=[Ke x0,.agg [.own 104,Qd r3,sli 3 (List.map Qd r7)],Qd r9]) Q9p.h Q9o.h Qvn ⟨_,_,_,(a12.trans rfl),rfl,rfl,rfl,(szk (k:=38) rfl rfl),⟨_,_,_,(a20.trans rfl),rfl,rfl,rfl,(szk (k:=5) rfl rfl),⟨_,_,_,(a23.trans rfl),rfl,rfl,rfl,(szk (k:=3) rfl rfl),rfl⟩⟩⟩ rfl)) ?_;refine dd [105] (λ_ _ _ _=>bx' 105) ?_;refine zd [[]] ?_;refine de fol ?_;refine z [4,2] ?_;refine o (al' 106) ?_;refine z [1,2] ?_;refine s1 (mkC (l:=[106]) ⟨rfl,trivial⟩ rfl) ?_;refine z [31,1,5,20,4,5,7] ?_;refine sloopE 0 (λt=>t) (λs57=>[(2,.own 101),(3,.own 102),(4,.own 105),(5,.own 106),(6,.clo 53 [106])]) (λs57=>[(101,.bx 61 (Kr (⟨[],(⟨(⟨false,[]⟩:Qf),[]⟩:Qb),[]⟩:Ji))),(102,.bx 63 (Qp (⟨0,0,0,0⟩:Qe))),(105,.bx 119 (.agg [Ke s57.1,.agg [.own 104,Qd s57.2.2.1,sli 3 (List.map Qd s57.2.2.2.1)],Qd s57.2.2.2.2.1])),(104,.sl 82 14 (List.map Kq s57.2.1)),(106,.bx 63 (Qp s57.2.2.2.2.2))]) (λt55=>[(2,.own 101),(3,.own 102),(4,.own 105),(5,.own 106)]) (λt55=>[(101,.bx 61 (Kr (⟨[],(⟨(⟨false,[]⟩:Qf),[]⟩:Qb),[]⟩:Ji))),(102,.bx 63 (Qp (⟨0,0,0,0⟩:Qe))),(105,.bx 119 (.agg [Ke t55.1,.agg [.own 104,Qd t55.2.2.1,sli 3 (List.map Qd t55.2.2.2.1)],Qd t55.2.2.2.2.1])),(104,.sl 82 14 (List.map Kq t55.2.1)),(106,.bx 63 (Qp t55.2.2.2.2.2))]) (eR [(101,101),(102,102),(105,105),(104,104),(106,106)]) ?_ ?_
 . intro hj56 s57
   refine z [5,2,30] ?_;refine b λr58 h59=>?_;refine o (cG (Qph _ h59) [105,104] [] [105,104]) ?_;refine z [44,1] ?_;refine c ?_ ?_
   . refine z [9,4,7] ?_;refine sjq (λs70=>[(2,.own 101),(3,.own 102),(4,.own 105),(5,.own 106),(6,.clo 53 [106]),(39,bl s70.2.2.2.2.2.2)]) (λs70=>[(101,.bx 61 (Kr (⟨[],(⟨(⟨false,[]⟩:Qf),[]⟩:Qb),[]⟩:Ji))),(102,.bx 63 (Qp (⟨0,0,0,0⟩:Qe))),(105,.bx 119 (.agg [Ke s70.1,.agg [.own 104,Qd s70.2.2.1,sli 3 (List.map Qd s70.2.2.2.1)],Qd s70.2.2.2.2.1])),(104,.sl 82 14 (List.map Kq s70.2.1)),(106,.bx 63 (Qp s70.2.2.2.2.2.1))]) ?_ ?_
     . intro j68 hj69
       refine z [6,30,30] ?_;refine b λr71 h72=>?_;refine o (cG (Qp3 _ h72) [105,104] [] [105,104]) ?_;refine b λr73 h74=>?_;refine so (callC (la:=[_]) (lc:=[0]) (em:=[(106,.bx 63 (Qp r73.2))]) (res':=bl r73.1) [(0,106)] [] [(106,0)] rfl (Qp4 _ h74) rfl rfl ⟨⟨_,rfl,rn_id Qc1⟩,trivial⟩ (MiF.get (mi:=[(0,_)]) ⟨⟨_,_,rfl,rfl,rc_bx (rn_id Qc1)⟩,trivial⟩) ⟨⟨_,rfl⟩,trivial⟩ rfl trivial ⟨.inr rfl,trivial⟩ rfl ⟨.inl ⟨_,_,rfl,rfl,rc_bx (rn_id Qc1)⟩,trivial⟩ ⟨⟨_,rfl⟩,trivial⟩ trivial (rn_id if_bl) rfl) ?_;refine z [30] ?_;refine sifd 34 rfl ?_ ?_
       . refine z [23,23,23,23,38,1] ?_;exact sj (hj69 _) (eR [(101,101),(102,102),(105,105),(104,104),(106,106)])
       refine z [22,22] ?_;refine b λr75 h76=>?_;refine og' (cG (Qml _ h76) [105,104] [(107,61)] []) ?_;refine b λr77 h78=>?_;refine sg 34 rfl rfl (callC (la:=[_]) (lc:=[0]) (em:=[(106,.bx 63 (Qp r77.2))]) (res':=bl r77.1) [(0,106)] [] [(106,0)] rfl (Qp4 _ h78) rfl rfl ⟨⟨_,rfl,rn_id Qc1⟩,trivial⟩ (MiF.get (mi:=[(0,_)]) ⟨⟨_,_,rfl,rfl,rc_bx (rn_id Qc1)⟩,trivial⟩) ⟨⟨_,rfl⟩,trivial⟩ rfl trivial ⟨.inr rfl,trivial⟩ rfl ⟨.inl ⟨_,_,rfl,rfl,rc_bx (rn_id Qc1)⟩,trivial⟩ ⟨⟨_,rfl⟩,trivial⟩ trivial (rn_id if_bl) rfl) ?_;refine z [37,1] ?_;exact sj (hj69 _) (eR [(101,101),(102,102),(105,105),(104,107),(106,106)])
     intro s70
     refine c ?_ ?_
     . refine z [14,21] ?_;exact su (sj (hj56 _) (eR [(101,101),(102,102),(105,105),(104,104),(106,106)]))
     refine z [9,11] ?_;exact sgo (eR [(101,101),(102,102),(105,105),(104,104),(106,106)])
   refine z [14,15] ?_;exact su (sj (hj56 _) (eR [(101,101),(102,102),(105,105),(104,104),(106,106)]))
 intro t55
 refine z [13,4,5] ?_;refine sd ?_;refine zd [[],[105],[105],[105],[106],[101],[102]] ?_;refine de fol ?_;refine z [4,8,18] ?_;refine fz 104 [43] [101,105] ?_;exact rt []
theorem Qrx{n:Nat}{x0}:∀ r,Qfz n x0=some r->FnOk Tryz.prog 11 [Ke x0] [] (.tup [Kr r.1,Qp r.2]) []:=by
 unfold Qfz
 refine fs Tryz.func11 λw S0 γ hγ=>?_;refine z [2] ?_;refine o (bx' 100) ?_;refine o (al' 101) ?_;refine o (al' 102) ?_;refine z [1,2,32] ?_;refine cb (ca Qsv) λr1=>?_;refine z [30,35,35] ?_;refine o (al' 103) ?_;refine o (al' 104) ?_;refine z [34,34,1,5,2,32] ?_;refine s1 (bld (l:=[i64 0,i64 0,i64 0,i64 0]) pl_63.h ti_63.h Qt rfl rfl) ?_;refine s1 (neA (p:=(r1.2:Qe)) (q:=((⟨0,0,0,0⟩:Qe):Qe)) K4 rfl eg_63 rfl rfl rfl) ?_;refine z [1] ?_;refine c ?_ ?_
 . refine z [5] ?_;refine sd ?_;refine dx [] [] (λst mm _ _=>og (bld (l:=[sli 14 (List.map Kq []),Qd (⟨(⟨false,[]⟩:Qf),[]⟩:Qb),sli 3 (List.map Qd [])]) pl_61.h ti_61.h Qgc rfl rfl)) ?_;refine zd [[104],[101],[102]] ?_;refine de fol ?_;refine z [4,8,10] ?_;exact rt []
 refine z [9,4,5] ?_;refine sd ?_;refine zd [[103],[104],[101],[102]] ?_;refine de fol ?_;refine z [4,8] ?_;exact rt []
theorem Qrj{x0}:∀ r,Qco x0=some r->FnOk Tryz.prog 143 [Kq x0] [] (sli 3 (List.map Qd r)) []:=by
 unfold Qco
 refine fs Tryz.func143 λw S0 γ hγ=>?_;refine z [2] ?_;refine o (bx' 100) ?_;refine s1 (asg rfl (kLm (k:=3) Qd)) ?_;refine z [1,2,33,36,33,36,33,36,33,36] ?_
 refine so (bsl (y:=101) (ls:=List.map Qd ([x0.T,x0.Want,x0.H,x0.Err]:List Qb)) Tryz.underlying44 ti_53.h rfl rfl rfl rfl rfl ⟨rfl,rfl,(by exact rfl),(by exact rfl),rfl,rfl,(by exact rfl),(by exact rfl),rfl,rfl,(by exact rfl),(by exact rfl),rfl,rfl,(by exact rfl),(by exact rfl),trivial⟩ rfl rfl) ?_
 refine z [31,1,8] ?_;refine fz 101 [2,11] [] ?_;exact rt []
theorem Qry{n:Nat}{x0}:∀ r,Qdk n x0=some r->FnOk Tryz.prog 78 [sli 3 (List.map Qd x0)] [] (sli 3 (List.map Qd r)) []:=by
 unfold Qdk
 refine fs Tryz.func78 λw S0 γ hγ=>?_;refine z [2] ?_;refine s1 (asg rfl (kLm (k:=3) Qd)) ?_;refine z [1,2] ?_;refine cb (ca V7) λr1=>?_;refine z [30] ?_;refine b λr3 h4=>?_;refine o (cG (Qla _ h4) [] [(100,50)] []) ?_;refine z [31,1,8] ?_;refine fz 100 [2,5] [] ?_;exact rt []
theorem Qvv{n:Nat}{x0}:∀ r,Qd2 n x0=some r->FnOk Tryz.prog 76 [Kr x0] [] (sli 14 (List.map Kq r)) []:=by
 unfold Qd2
 refine fs Tryz.func76 λw S0 γ hγ=>?_;refine z [2] ?_;refine o (bx' 100) ?_;refine s1 (asg rfl (kLm (k:=14) Kq)) ?_;refine z [1,2] ?_;refine so (asgN (y:=101) (E:=82) (k:=14) rfl rfl) ?_;refine z [1,5,2,33,36,39,30,1,7] ?_;refine srN (λs42=>[(2,sli 14 (List.map Kq ([]:List Jf))),(3,.own 101),(8,sli 14 (List.map Kq x0.Tries))]) (λs42=>[(101,.sl 82 14 (List.map Kq s42))]) (rE (eR [(101,101)])) ?_ ?_
 . intro i43 x44 s42 hx45
   refine z [7,2,43,42] ?_;refine o (al' 102) ?_;refine z [34,1,2,33,36,1] ?_;refine c ?_ ?_
   . refine z [2,32] ?_;refine cb (ca Qrj) λr46=>?_;refine cb (ca Qry) λr48=>?_;refine z [31,1] ?_;refine b λy50 h51=>?_;refine b λy52 h53=>?_;refine b λy54 h55=>?_;refine b λy56 h57=>?_;refine b λr58 h59=>?_;refine b λy60 h61=>?_;refine sd ?_;refine zd [[],[],[],[],[],[],[],[],[],[],[],[],[],[102],[102]] ?_;refine dd [] (λ_ _ _ _=>c0 (Qry _ h59)) ?_;refine dx [22,25,28,31,34] [] (λst mm ⟨a22,a25,a28,a31,a34,_⟩ _=>og (bld (l:=[Qd y50,Qd y52,Qd y54,Qd y56,sli 3 (List.map Qd r58),bl true]) pl_82.h ti_82.h Qo7 ⟨_,_,_,(a22.trans rfl),rfl,rfl,rfl,(szk (k:=3) rfl rfl),⟨_,_,_,(a25.trans rfl),rfl,rfl,rfl,(szk (k:=3) rfl rfl),⟨_,_,_,(a28.trans rfl),rfl,rfl,rfl,(szk (k:=3) rfl rfl),⟨_,_,_,(a31.trans rfl),rfl,rfl,rfl,(szk (k:=3) rfl rfl),⟨_,_,_,(a34.trans rfl),rfl,rfl,rfl,(szk (k:=1) rfl rfl),⟨_,_,_,kB,rfl,rfl,rfl,(szk (k:=1) rfl rfl),rfl⟩⟩⟩⟩⟩⟩ rfl)) ?_
     refine dx [35] [103] (λst mm ⟨a35,_⟩ ⟨g103,_⟩=>og (bsl (y:=103) (ls:=List.map Kq ([(⟨y50,y52,y54,y56,r58,true⟩:Jf)]:List Jf)) Tryz.underlying59 ti_82.h rfl rfl rfl rfl rfl ⟨rfl,(a35.trans rfl),(by exact rfl),(by exact rfl),trivial⟩ (g103.trans rfl) rfl)) ?_
     refine dd [101,103,104] (λ_ _ _ _=>app' 104) ?_;refine zd [[]] ?_;refine de fol ?_;refine z [11] ?_;exact sgo (eR [(101,104)])
   refine z [9,11] ?_;exact sgo (eR [(101,101)])
 intro s62
 refine z [13,4,2,30,31,1,8] ?_;refine fz 101 [2,3,39] [] ?_;exact rt []
theorem Q06{n:Nat}{x0}:∀ r,Qgy n x0=some r->FnOk Tryz.prog 19 [Kr x0] [] (.tup [i64 r.1,i64 r.2]) []:=by
 unfold Qgy
 refine fs Tryz.func19 λw S0 γ hγ=>?_;refine z [2] ?_;refine o (bx' 100) ?_;refine z [31,31,1,5] ?_;refine b λr1 h2=>?_;refine sd ?_;refine zd [[100],[100],[],[100]] ?_;refine dd [] (λ_ _ _ _=>c0 (Qvv _ h2)) ?_;refine zd [[],[],[]] ?_;refine de fol ?_;refine z [4,8] ?_;exact rt []
end Go.Proofs.YtlihkcaoachkdaaGreatDoor
