import Derived.Test.YtlihkcaoachkdaaGreatDoorGen0
import Derived.Test.YtlihkcaoachkdaaGreatDoorGenA1
import Derived.Test.YtlihkcaoachkdaaGreatDoorGenA2
import Derived.Test.YtlihkcaoachkdaaGreatDoorGenA3
set_option maxRecDepth 100000
set_option maxHeartbeats 4000000
namespace Go.Proofs.YtlihkcaoachkdaaGreatDoor
open Go Go.RowKit
theorem Q2v{n:Nat}{x0}{x1}{x2}:∀ r,Qk8 n x0 x1 x2=some r->FnOk Tryz.prog 298 [Kj x0,Qb7 x1,i64 x2] [] (.tup [sli 3 (List.map Qd r.1),Qv r.2]) []:=by
 unfold Qk8
 refine fs Tryz.func298 λw S0 γ hγ=>?_;refine z [2] ?_;refine o (bx' 100) ?_;refine o (bx' 101) ?_;refine s1 (asg rfl (kLm (k:=3) Qd)) ?_;refine o (al' 102) ?_;refine z [1,2,32] ?_;refine cb (ca Q1a) λr1=>?_;refine z [34,1,2,30] ?_;refine b λr3 h4=>?_;refine o (cG (Qst _ h4) [] [(103,50)] []) ?_;refine s1 (bld (l:=[.own 103]) Q8p.h Qzf.h (Vf (Qn (c1:=[.pointer none]) Qtz (Kk))) ⟨_,_,_,rfl,rfl,rfl,rfl,(szk (k:=1) rfl rfl),rfl⟩ rfl) ?_;refine s1 (bld (l:=[.agg [.own 103]]) Q8q.h Qzg.h (Vf (Qn (c1:=[.pointer none]) (Vf (Qn (c1:=[.pointer none]) Qtz (Kk))) (Kk))) ⟨_,_,_,rfl,rfl,rfl,rfl,(szk (k:=1) rfl rfl),rfl⟩ rfl) ?_;refine so (al (y:=104) (ly:=.agg [.agg [.por 0]]) Qzg.h (Vf (Qn (c1:=[.pointer none]) (Vf (Qn (c1:=[.pointer none]) Qtz (Kk))) (Kk))) rfl rfl) ?_;refine z [34,1,2,32,32,33,36,33,36,33,36] ?_;refine s1 (bld (l:=[Qd r1.T,sli 3 (List.map Qd r1.Y),sli 3 (List.map Qd r1.P)]) Q8r.h Q3v.h Ql1 ⟨_,_,_,rfl,rfl,rfl,rfl,(szk (k:=3) rfl rfl),⟨_,_,_,rfl,rfl,rfl,rfl,(szk (k:=1) rfl rfl),⟨_,_,_,rfl,rfl,rfl,rfl,(szk (k:=1) rfl rfl),rfl⟩⟩⟩ rfl) ?_;refine b λr5 h6=>?_;refine o (cG (Qea _ h6) [103] [] []) ?_;refine z [35,35,31,34,1,8] ?_;exact rt []
theorem Q2w{n:Nat}{x0}{x1}:∀ r,Qk9 n x0 x1=some r->FnOk Tryz.prog 299 [Kj x0,sli 3 (List.map Qd x1)] [] (sli 3 (List.map Qd r)) []:=by
 unfold Qk9
 refine fs Tryz.func299 λw S0 γ hγ=>?_;refine z [2] ?_;refine o (bx' 100) ?_;refine s1 (asg rfl (kLm (k:=3) Qd)) ?_;refine z [1,5] ?_;refine sjq (λs5=>[(1,sli 3 (List.map Qd x1)),(2,.own 100),(4,sli 3 (List.map Qd ([]:List Qb))),(18,bl s5)]) (λs5=>[(100,.bx 43 (Kj x0))]) ?_ ?_
 . intro j3 hj4
   refine z [6,32] ?_;refine cb (ca Qma) λr6=>?_;refine z [44,30] ?_;refine sifd 11 rfl ?_ ?_
   . refine z [23,23,23,23,23,23,38,1] ?_;exact sj (hj4 _) (eR [(100,100)])
   refine z [22,22,22,22,22,22,37,1] ?_;exact sj (hj4 _) (eR [(100,100)])
 intro s5
 refine c ?_ ?_
 . refine z [2] ?_;refine s1 (asg rfl (kLm (k:=3) Qd)) ?_;refine z [1,8,10] ?_;exact rt []
 refine z [9,4,2] ?_;refine so (asgN (y:=101) (E:=53) (k:=3) rfl rfl) ?_;refine z [1,5,2,33,36,39,30,1,7] ?_;refine srN (λs29=>[(1,sli 3 (List.map Qd x1)),(4,sli 3 (List.map Qd ([]:List Qb))),(5,.own 101),(20,sli 1 (List.map i64 x0.Outs))]) (λs29=>[(101,.sl 53 3 (List.map Qd s29))]) (rE (eR [(101,101)])) ?_ ?_
 . intro i30 x31 s29 hx32
   refine z [7,2,43,42,31,1,6,30,30,30] ?_;refine b λy33 h34=>?_;refine z [43,42] ?_;refine cb (ca Wu) λr35=>?_
   refine so (bsl (y:=102) (ls:=List.map Qd ([r35]:List Qb)) Tryz.underlying44 ti_53.h rfl rfl rfl rfl rfl ⟨rfl,rfl,(by exact rfl),(by exact rfl),trivial⟩ rfl rfl) ?_
   refine b λy37 h38=>?_;refine o (app' 103) ?_;refine z [31,3,11] ?_;exact sgo (eR [(101,103)])
 intro s39
 refine z [13,4,2,30,31,1,8] ?_;refine fz 101 [4,5,35] [] ?_;exact rt []
theorem Q1b{n:Nat}{x0}{x1}{x2}:∀ r,Qgu n x0 x1 x2=some r->FnOk Tryz.prog 260 [Kj x0,Qb7 x1,i64 x2] [] (.tup [sli 3 (List.map Qd r.1),Qv r.2]) []:=by
 unfold Qgu
 refine fs Tryz.func260 λw S0 γ hγ=>?_;refine z [2] ?_;refine o (bx' 100) ?_;refine o (bx' 101) ?_;refine s1 (asg rfl (kLm (k:=3) Qd)) ?_;refine o (al' 102) ?_;refine z [1,2,32,32,30] ?_;refine cb (ca Q2v) λr1=>?_;refine z [30,35,35] ?_;refine o (al' 103) ?_;refine z [31,34,1,5,2,32] ?_;refine s1 (bld (l:=[i64 0,i64 0,i64 0,i64 0]) pl_63.h ti_63.h Qu rfl rfl) ?_;refine s1 (neA (p:=(r1.2:Qe)) (q:=((⟨0,0,0,0⟩:Qe):Qe)) Vo rfl eg_63 rfl rfl rfl) ?_;refine z [1] ?_;refine c ?_ ?_
 . refine z [5] ?_;refine sd ?_;refine zd [[103]] ?_;refine dx [] [] (λst mm _ _=>og (asg rfl (kLm (k:=3) Qd))) ?_;refine zd [[102]] ?_;refine de fol ?_;refine z [4,8,10] ?_;exact rt []
 refine z [9,4,5] ?_;refine b λr3 h4=>?_;refine sd ?_;refine zd [[100],[]] ?_;refine dd [] (λ_ _ _ _=>c0 (Q2w _ h4)) ?_;refine zd [[103],[],[102]] ?_;refine de fol ?_;refine z [4,8] ?_;exact rt []
theorem Qom{n:Nat}{x0_p}{x0_t}{x0_h}{x0_y}{x0_g}{x0_out_Ys}{x0_out_Ks}{x0_out_Next}{x0_out_Err}{x1}:∀ r,W2 n x0_p x0_t x0_h x0_y x0_g x0_out_Ys x0_out_Ks x0_out_Next x0_out_Err x1=some r->FnOk Tryz.prog 218 [.own 0,i64 x1] [(0,.bx 247 (.agg [Q7 x0_p,Qd x0_t,Qd x0_h,sli 3 (List.map Qd x0_y),.own 1,.agg [.own 2,.own 3,sli 3 (List.map Qd x0_out_Next),sli 3 (List.map Qd x0_out_Err)]])),(1,.bx 298 (Qp x0_g)),(2,.sl 44 1 (List.map Qj x0_out_Ys)),(3,.sl 44 1 (List.map Qj x0_out_Ks))] (Qv r.1) [(0,.bx 247 (.agg [Q7 r.2.1,Qd r.2.2.1,Qd r.2.2.2.1,sli 3 (List.map Qd r.2.2.2.2.1),.own 1,.agg [.own 62,.own 63,sli 3 (List.map Qd r.2.2.2.2.2.1),sli 3 (List.map Qd r.2.2.2.2.2.2.1)]])),(1,.bx 298 (Qp r.2.2.2.2.2.2.2.1)),(2,.gone),(3,.gone),(62,.sl 44 1 (List.map Qj r.2.2.2.2.2.2.2.2.1)),(63,.sl 44 1 (List.map Qj r.2.2.2.2.2.2.2.2.2))]:=by
 unfold W2
 refine fs Tryz.func218 λw S0 γ hγ=>?_;refine z [2] ?_;refine o (al' 100) ?_;refine z [1,2,30,30,48,33,45,45,36,30] ?_;refine b λy1 h2=>?_;refine z [43,42] ?_;refine b λr3 h4=>?_;refine o (cG (Qix _ h4) [0,1,2,3] [] [0,1,2,3]) ?_;refine z [31,1,5,2,30,30,30] ?_;refine b λr5 h6=>?_;refine o (cG (Qej _ h6) [0,1,2,3] [] [0,2,3]) ?_;refine o (al' 101) ?_;refine z [34,1,2,32] ?_;refine s1 (bld (l:=[i64 0,i64 0,i64 0,i64 0]) pl_63.h ti_63.h Qu rfl rfl) ?_;refine s1 (neA (p:=(r5.1:Qe)) (q:=((⟨0,0,0,0⟩:Qe):Qe)) Vo rfl eg_63 rfl rfl rfl) ?_;refine z [1] ?_;refine c ?_ ?_
 . refine z [2,32,34,1,8,10] ?_;exact rt [(0,0),(1,1),(2,2),(3,3),(62,2),(63,3)]
 refine z [9,4,5] ?_;refine b λr7 h8=>?_;refine b λr9 h10=>?_;refine b λr11 h12=>?_;refine sd ?_;refine zd [[],[0],[0],[],[0],[],[0],[0],[0],[],[0],[0],[0],[],[0],[0],[0],[],[0],[0],[0],[]] ?_;refine dd [] (λ_ _ _ _=>c0 (Qx4 _ h8)) ?_;refine zd [[]] ?_;refine dd [] (λ_ _ _ _=>c0 (Q30 _ h10)) ?_;refine zd [[],[0],[0],[],[0]] ?_;refine dd [] (λ_ _ _ _=>c0 (Q1b _ h12)) ?_;refine zd [[],[],[]] ?_;refine dd [102] (λ_ _ _ _=>al' 102) ?_;refine zd [[],[102]] ?_;refine de fol ?_;refine z [4,5,2,32] ?_;refine s1 (bld (l:=[i64 0,i64 0,i64 0,i64 0]) pl_63.h ti_63.h Qu rfl rfl) ?_;refine s1 (neA (p:=(r11.2:Qe)) (q:=((⟨0,0,0,0⟩:Qe):Qe)) Vo rfl eg_63 rfl rfl rfl) ?_;refine z [1] ?_;refine c ?_ ?_
 . refine z [2,30,33] ?_;refine o (stP (Qv (⟨r11.2.Kind,r11.2.Step,x1,r11.2.At⟩:Qe)) [2]) ?_;refine z [1,2,32,34,1,8,10] ?_;exact rt [(0,0),(1,1),(2,2),(3,3),(62,2),(63,3)]
 refine z [9,4,2,30,30,48,33,45,36,30] ?_
 refine so (bsl (y:=103) (ls:=List.map Qj ([r3]:List (List Qb))) Tryz.underlying45 ti_44.h rfl rfl rfl rfl rfl ⟨rfl,rfl,(by exact rfl),(by exact rfl),trivial⟩ rfl rfl) ?_
 refine b λy13 h14=>?_;refine o (app' 104) ?_;refine z [48,33,45] ?_;refine o (stP (.agg [Q7 x0_p,Qd x0_t,Qd x0_h,sli 3 (List.map Qd x0_y),.own 1,.agg [.own 104,.own 3,sli 3 (List.map Qd x0_out_Next),sli 3 (List.map Qd x0_out_Err)]]) [5,0]) ?_;refine z [1,2,30,30,48,33,45,36,30] ?_
 refine so (bsl (y:=105) (ls:=List.map Qj ([r11.1]:List (List Qb))) Tryz.underlying45 ti_44.h rfl rfl rfl rfl rfl ⟨rfl,rfl,(by exact rfl),(by exact rfl),trivial⟩ rfl rfl) ?_
 refine b λy15 h16=>?_;refine o (app' 106) ?_;refine z [48,33,45] ?_;refine o (stP (.agg [Q7 x0_p,Qd x0_t,Qd x0_h,sli 3 (List.map Qd x0_y),.own 1,.agg [.own 104,.own 106,sli 3 (List.map Qd x0_out_Next),sli 3 (List.map Qd x0_out_Err)]]) [5,1]) ?_;refine z [1,2,32,34,1,8] ?_;exact rt [(0,0),(1,1),(2,2),(3,3),(62,104),(63,106)]
theorem Q31{n:Nat}{x0}{x1}:∀ r,Qm5 n x0 x1=some r->FnOk Tryz.prog 265 [sli 3 (List.map Qd x0),sli 3 (List.map Qd x1)] [] (.tup [sli 3 (List.map Qd r.1),bl r.2]) []:=by
 unfold Qm5
 refine fs Tryz.func265 λw S0 γ hγ=>?_;refine z [2] ?_;refine s1 (asg rfl (kLm (k:=3) Qd)) ?_;refine z [31,1,2,30] ?_;refine cb (ca Wc) λr1=>?_;refine z [30] ?_;refine b λr3 h4=>?_;refine o (cG (Qj8 _ h4) [] [(100,50)] []) ?_;refine fz 100 [9] [] ?_
 refine so (bsl (y:=101) (ls:=List.map Qj ([x0,r3]:List (List Qb))) Tryz.underlying45 ti_44.h rfl rfl rfl rfl rfl ⟨rfl,rfl,(by exact rfl),(by exact rfl),rfl,rfl,(by exact rfl),(by exact rfl),trivial⟩ rfl rfl) ?_
 refine fz 101 [10] [] ?_;refine cb (ca Qxb) λr5=>?_;refine z [35,35,31,31,1,8] ?_;exact rt []
theorem Qzu{n:Nat}{x0}:∀ r,Qdu n x0=some r->FnOk Tryz.prog 221 [Jj x0] [] (sli 3 (List.map Qd r)) []:=by
 unfold Qdu
 refine fs Tryz.func221 λw S0 γ hγ=>?_;refine z [2] ?_;refine o (bx' 100) ?_;refine s1 (asg rfl (kLm (k:=3) Qd)) ?_;refine z [1,5] ?_;refine sjq (λs5=>[(1,.own 100),(2,sli 3 (List.map Qd ([]:List Qb))),(13,bl s5)]) (λs5=>[(100,.bx 47 (Jj x0))]) ?_ ?_
 . intro j3 hj4
   refine z [6,32] ?_;refine cb (ca Qok) λr6=>?_;refine z [44,30] ?_;refine sifd 8 rfl ?_ ?_
   . refine z [23,23,23,23,38,1] ?_;exact sj (hj4 _) (eR [(100,100)])
   refine z [22,22,22,22,37,1] ?_;exact sj (hj4 _) (eR [(100,100)])
 intro s5
 refine c ?_ ?_
 . refine z [2] ?_;refine s1 (asg rfl (kLm (k:=3) Qd)) ?_;refine z [1,8,10] ?_;exact rt []
 refine z [9,4,2,33,36,33,36] ?_;refine cb (ca Q31) λr8=>?_;refine z [30,35,35,31,31,1,2,30,31,1,8] ?_;exact rt []
theorem Qqp{n:Nat}{x0_p}{x0_t}{x0_h}{x0_y}{x0_g}{x0_out_Ys}{x0_out_Ks}{x0_out_Next}{x0_out_Err}:∀ r,Qao n x0_p x0_t x0_h x0_y x0_g x0_out_Ys x0_out_Ks x0_out_Next x0_out_Err=some r->FnOk Tryz.prog 171 [.own 0] [(0,.bx 247 (.agg [Q7 x0_p,Qd x0_t,Qd x0_h,sli 3 (List.map Qd x0_y),.own 1,.agg [.own 2,.own 3,sli 3 (List.map Qd x0_out_Next),sli 3 (List.map Qd x0_out_Err)]])),(1,.bx 298 (Qp x0_g)),(2,.sl 44 1 (List.map Qj x0_out_Ys)),(3,.sl 44 1 (List.map Qj x0_out_Ks))] (Qv r.1) [(0,.bx 247 (.agg [Q7 r.2.1,Qd r.2.2.1,Qd r.2.2.2.1,sli 3 (List.map Qd r.2.2.2.2.1),.own 1,.agg [.own 62,.own 63,sli 3 (List.map Qd r.2.2.2.2.2.1),sli 3 (List.map Qd r.2.2.2.2.2.2.1)]])),(1,.bx 298 (Qp r.2.2.2.2.2.2.2.1)),(2,.gone),(3,.gone),(62,.sl 44 1 (List.map Qj r.2.2.2.2.2.2.2.2.1)),(63,.sl 44 1 (List.map Qj r.2.2.2.2.2.2.2.2.2))]:=by
 unfold Qao
 refine fs Tryz.func171 λw S0 γ hγ=>?_;refine z [2] ?_;refine o (al' 100) ?_;refine z [1,2,30,48,33,45,36] ?_;refine o (al' 101) ?_;refine z [34,1,5,2,33,36,39,30,1,7] ?_;refine srN (λs14=>[(0,.own 0),(2,.own 100),(3,.own 101)]) (λs14=>[(2,.gone),(3,.gone),(0,.bx 247 (.agg [Q7 s14.1,Qd s14.2.1,Qd s14.2.2.1,sli 3 (List.map Qd s14.2.2.2.1),.own 1,.agg [.own 102,.own 103,sli 3 (List.map Qd s14.2.2.2.2.2.2.2.1),sli 3 (List.map Qd s14.2.2.2.2.2.2.2.2)]])),(1,.bx 298 (Qp s14.2.2.2.2.1)),(102,.sl 44 1 (List.map Qj s14.2.2.2.2.2.1)),(103,.sl 44 1 (List.map Qj s14.2.2.2.2.2.2.1)),(100,.bx 63 (Qv (⟨0,0,0,0⟩:Qe))),(101,.bx 47 (Jj x0_p.Scheme))]) (rE (eR [(2,2),(3,3),(0,0),(1,1),(102,2),(103,3),(100,100),(101,101)])) ?_ ?_
 . intro i15 x16 s14 hx17
   refine z [7,2,30,31,1,2,30,30] ?_;refine b λr18 h19=>?_;refine o (cG (Qom _ h19) [0,1,102,103] [(104,62),(105,63)] []) ?_;refine o (al' 106) ?_;refine z [34,1,2,32] ?_;refine s1 (bld (l:=[i64 0,i64 0,i64 0,i64 0]) pl_63.h ti_63.h Qu rfl rfl) ?_;refine s1 (neA (p:=(r18.1:Qe)) (q:=((⟨0,0,0,0⟩:Qe):Qe)) Vo rfl eg_63 rfl rfl rfl) ?_;refine z [1] ?_;refine c ?_ ?_
   . refine z [2,32,34,1,8,12] ?_;refine sU ?_;refine z [12,10] ?_;exact rt [(0,0),(1,1),(2,2),(3,3),(62,104),(63,105)]
   refine z [9,11] ?_;exact sgo (eR [(2,2),(3,3),(0,0),(1,1),(102,104),(103,105),(100,100),(101,101)])
 intro s20
 refine z [13,4,2,30,30,33,36] ?_;refine b λr21 h22=>?_;refine o (cG (Qix _ h22) [0,1,102,103] [] [0,1,102,103]) ?_;refine z [48,33,45] ?_;refine o (stP (.agg [Q7 s20.1,Qd s20.2.1,Qd s20.2.2.1,sli 3 (List.map Qd s20.2.2.2.1),.own 1,.agg [.own 102,.own 103,sli 3 (List.map Qd r21),sli 3 (List.map Qd s20.2.2.2.2.2.2.2.2)]]) [5,2]) ?_;refine z [1,5,5] ?_;refine b λr23 h24=>?_;refine sd ?_;refine zd [[],[],[0],[0],[],[0],[101],[101],[]] ?_;refine dd [0,1,102,103] (λ_ _ _ _=>cG (Qej _ h24) [0,1,102,103] [] [0,102,103]) ?_;refine dd [104] (λ_ _ _ _=>al' 104) ?_;refine zd [[104]] ?_;refine de fol ?_;refine z [4,2,32] ?_;refine s1 (bld (l:=[i64 0,i64 0,i64 0,i64 0]) pl_63.h ti_63.h Qu rfl rfl) ?_;refine s1 (neA (p:=(r23.1:Qe)) (q:=((⟨0,0,0,0⟩:Qe):Qe)) Vo rfl eg_63 rfl rfl rfl) ?_;refine z [1] ?_;refine c ?_ ?_
 . refine z [2,32,34,1,8,10] ?_;exact rt [(0,0),(1,1),(2,2),(3,3),(62,102),(63,103)]
 refine z [9,4] ?_;refine sjq (λs31=>[(0,.own 0),(2,.own 100),(3,.own 101)]) (λs31=>[(2,.gone),(3,.gone),(0,.bx 247 (.agg [Q7 s20.1,Qd s20.2.1,Qd s20.2.2.1,sli 3 (List.map Qd s20.2.2.2.1),.own 1,.agg [.own 102,.own 103,sli 3 (List.map Qd r21),sli 3 (List.map Qd s31)]])),(1,.bx 298 (Qp r23.2)),(102,.sl 44 1 (List.map Qj s20.2.2.2.2.2.1)),(103,.sl 44 1 (List.map Qj s20.2.2.2.2.2.2.1)),(100,.bx 63 (Qv (⟨0,0,0,0⟩:Qe))),(101,.bx 47 (Jj x0_p.Scheme))]) ?_ ?_
 . intro j29 hj30
   refine z [2,32] ?_;refine cb (ca Qzu) λr32=>?_;refine z [31,1,2,30,39,47,1] ?_;refine c ?_ ?_
   . refine z [6,30,30,30] ?_;refine b λr34 h35=>?_;refine o (cG (Qgz _ h35) [0,1,102,103] [] [0,1,102,103]) ?_;refine z [48,33,45] ?_;refine o (stP (.agg [Q7 s20.1,Qd s20.2.1,Qd s20.2.2.1,sli 3 (List.map Qd s20.2.2.2.1),.own 1,.agg [.own 102,.own 103,sli 3 (List.map Qd r21),sli 3 (List.map Qd r34)]]) [5,3]) ?_;refine z [1] ?_;exact sj (hj30 _) (eR [(2,2),(3,3),(0,0),(1,1),(102,102),(103,103),(100,100),(101,101)])
   refine z [9,4] ?_;exact sj (hj30 _) (eR [(2,2),(3,3),(0,0),(1,1),(102,102),(103,103),(100,100),(101,101)])
 intro s31
 refine z [5] ?_;refine b λr36 h37=>?_;refine sd ?_;refine zd [[],[],[0],[0],[],[0],[101],[101],[],[]] ?_;refine dd [0,1,102,103] (λ_ _ _ _=>cG (Qej _ h37) [0,1,102,103] [] [0,102,103]) ?_;refine zd [[100]] ?_;refine de fol ?_;refine z [4,8] ?_;exact rt [(0,0),(1,1),(2,2),(3,3),(62,102),(63,103)]
theorem Q32{n:Nat}{x0}{x1}{x2}{x3}:∀ r,Qhq n x0 x1 x2 x3=some r->FnOk Tryz.prog 105 [Q7 x0,Qd x1,Qd x2,sli 3 (List.map Qd x3)] [] (.tup [Qj5 r.1,Qv r.2]) []:=by
 unfold Qhq
 refine fs Tryz.func105 λw S0 γ hγ=>?_;refine z [2] ?_;refine o (bx' 100) ?_;refine o (bx' 101) ?_;refine o (bx' 102) ?_;refine o (al' 103) ?_;refine o (al' 104) ?_;refine z [1,5] ?_;refine sjq (λs5=>[(3,sli 3 (List.map Qd x3)),(4,.own 100),(5,.own 101),(6,.own 102),(8,.own 103),(9,.own 104),(22,bl s5)]) (λs5=>[(100,.bx 49 (Q7 x0)),(101,.bx 53 (Qd x1)),(102,.bx 53 (Qd x2)),(103,.bx 183 (Qj5 (⟨[],[],[],[]⟩:Z2))),(104,.bx 63 (Qv (⟨0,0,0,0⟩:Qe)))]) ?_ ?_
 . intro j3 hj4
   refine z [6,32] ?_;refine cb (ca Qrc) λr6=>?_;refine z [44,30] ?_;refine sifd 15 rfl ?_ ?_
   . refine z [23,23,23,23,23,23,38,1] ?_;exact sj (hj4 _) (eR [(100,100),(101,101),(102,102),(103,103),(104,104)])
   refine z [22,22,22,22,22,22,37,1] ?_;exact sj (hj4 _) (eR [(100,100),(101,101),(102,102),(103,103),(104,104)])
 intro s5
 refine c ?_ ?_
 . refine z [2] ?_;refine s1 (bld (l:=[sli 1 (List.map Qj []),sli 1 (List.map Qj []),sli 3 (List.map Qd []),sli 3 (List.map Qd [])]) Q3t.h Qq6.h Ql0 rfl rfl) ?_;refine s1 (bld (l:=[i64 (2:Int),i64 0,i64 0,i64 0]) pl_63.h ti_63.h Qu ⟨_,_,_,(kI (x:=2) rfl),rfl,rfl,rfl,(szk (k:=1) rfl rfl),rfl⟩ rfl) ?_;refine z [34,34,1,8,10] ?_;exact rt []
 refine z [9,4,5] ?_;refine b λr8 h9=>?_;refine sd ?_;refine zd [[100],[101],[102],[],[100],[100]] ?_;refine dd [105] (λ_ _ _ _=>cG (Qst _ h9) [] [(105,50)] []) ?_;refine dx [25,26,27,28,31] [106,107] (λst mm ⟨a25,a26,a27,a28,a31,_⟩ ⟨g106,g107,_⟩=>og (bldO (l:=[Q7 x0,Qd x1,Qd x2,sli 3 (List.map Qd x3),.own 105,.agg [.own 106,.own 107,sli 3 (List.map Qd []),sli 3 (List.map Qd [])]]) [(106,44,1),(107,44,1)] Q8n.h Q8m.h (Qfi (Jv (c1:=[.slice none 0 0,.slice none 0 0,.int .i64 0,.int .i64 0,.string ⟨#[]⟩,.slice none 0 0,.slice none 0 0,.slice none 0 0,.slice none 0 0,.slice none 0 0,.int .i64 0]) (zo_of Qe9) (Jv (c1:=[.bool false,.slice none 0 0,.slice none 0 0]) (zo_of K0) (Jv (c1:=[.bool false,.slice none 0 0,.slice none 0 0]) (zo_of K0) (Jv (c1:=[.slice none 0 0]) (zo_of (J7 (k:=3))) (Jv (c1:=[.pointer none]) (zo_of Qtz) (Jv (c1:=[.slice none 0 0,.slice none 0 0,.slice none 0 0,.slice none 0 0]) (Qfi (Jv (c1:=[.slice none 0 0]) (Qdm rfl) (Jv (c1:=[.slice none 0 0]) (Qdm rfl) (Jv (c1:=[.slice none 0 0]) (zo_of (J7 (k:=3))) (Jv (c1:=[.slice none 0 0]) (zo_of (J7 (k:=3))) (Qdn)))))) (Qdn)))))))) ⟨(g106.trans rfl),(g107.trans rfl),trivial⟩ rfl ⟨_,_,_,(a25.trans rfl),rfl,rfl,rfl,(szk (k:=11) rfl rfl),⟨_,_,_,(a26.trans rfl),rfl,rfl,rfl,(szk (k:=3) rfl rfl),⟨_,_,_,(a27.trans rfl),rfl,rfl,rfl,(szk (k:=3) rfl rfl),⟨_,_,_,(a28.trans rfl),rfl,rfl,rfl,(szk (k:=1) rfl rfl),⟨_,_,_,(a31.trans rfl),rfl,rfl,rfl,(szk (k:=1) rfl rfl),rfl⟩⟩⟩⟩⟩ rfl)) ?_;refine dd [108] (λ_ _ _ _=>bx' 108) ?_;refine zd [[]] ?_;refine de fol ?_;refine z [4,5,2,30] ?_;refine b λr10 h11=>?_;refine o (cG (Qqp _ h11) [108,105,106,107] [(109,62),(110,63)] []) ?_;refine o (al' 111) ?_;refine z [34,1,2,32] ?_;refine s1 (bld (l:=[i64 0,i64 0,i64 0,i64 0]) pl_63.h ti_63.h Qu rfl rfl) ?_;refine s1 (neA (p:=(r10.1:Qe)) (q:=((⟨0,0,0,0⟩:Qe):Qe)) Vo rfl eg_63 rfl rfl rfl) ?_;refine z [1] ?_;refine c ?_ ?_
 . refine z [5] ?_;refine sd ?_;refine dx [] [] (λst mm _ _=>og (bld (l:=[sli 1 (List.map Qj []),sli 1 (List.map Qj []),sli 3 (List.map Qd []),sli 3 (List.map Qd [])]) Q3t.h Qq6.h Ql0 rfl rfl)) ?_;refine zd [[111],[103],[104]] ?_;refine de fol ?_;refine z [4,8,10] ?_;exact rt []
 refine z [9,4,2,30,48,33,36] ?_;refine s1 (bld (l:=[i64 0,i64 0,i64 0,i64 0]) pl_63.h ti_63.h Qu rfl rfl) ?_;refine z [34,34,1,8] ?_;refine fz 109 [44] [103,108] ?_;refine fz 110 [44] [103,108] ?_;exact rt []
theorem Q2x{n:Nat}{x0}:∀ r,Qik n x0=some r->FnOk Tryz.prog 173 [Qd x0] [] (Qd r) []:=by
 unfold Qik
 refine fs Tryz.func173 λw S0 γ hγ=>?_;refine z [2] ?_;refine o (bx' 100) ?_;refine o (al' 101) ?_;refine z [1,2,32] ?_;refine cb (ca Wu) λr1=>?_;refine o (al' 102) ?_;refine z [34,1,2,33,45] ?_;refine o (stP (Qd (⟨(⟨false,r1.Num.Abs⟩:Qf),r1.Den⟩:Qb)) [0,0]) ?_;refine z [1,2,32,34,1,8] ?_;exact rt []
theorem Q2y{n:Nat}{x0}:∀ r,Qil n x0=some r->FnOk Tryz.prog 172 [sli 3 (List.map Qd x0)] [] (Qd r) []:=by
 unfold Qil
 refine fs Tryz.func172 λw S0 γ hγ=>?_;refine z [2] ?_;refine o (al' 100) ?_;refine z [1,2] ?_;refine cb (ca Wc) λr1=>?_;refine o (al' 101) ?_;refine z [34,1,5,2,30,39,30,1,7] ?_;refine srN (λs30=>[(2,.own 100),(3,.own 101),(7,sli 3 (List.map Qd x0))]) (λs30=>[(100,.bx 53 (Qd (⟨(⟨false,[]⟩:Qf),[]⟩:Qb))),(101,.bx 53 (Qd s30))]) (rE (eR [(100,100),(101,101)])) ?_ ?_
 . intro i31 x32 s30 hx33
   refine z [7,2,30,43,42] ?_;refine o (al' 102) ?_;refine z [31,34,1] ?_;refine sjq (λs38=>[(2,.own 100),(3,.own 101),(5,.own 102),(7,sli 3 (List.map Qd x0)),(8,i64 (x0.length:Int)),(9,i64 (i31:Int)),(21,bl s38)]) (λs38=>[(100,.bx 53 (Qd (⟨(⟨false,[]⟩:Qf),[]⟩:Qb))),(101,.bx 53 (Qd s30)),(102,.bx 53 (Qd x32))]) ?_ ?_
   . intro j36 hj37
     refine z [6,30,41,30] ?_;refine sifd 16 rfl ?_ ?_
     . refine z [23,23,23,23,38,1] ?_;exact sj (hj37 _) (eR [(100,100),(101,101),(102,102)])
     refine z [22,22] ?_;refine b λr39 h40=>?_;refine og' (c0 (Qpr _ h40)) ?_;refine z [22,37,1] ?_;exact sj (hj37 _) (eR [(100,100),(101,101),(102,102)])
   intro s38
   refine c ?_ ?_
   . refine z [6,32] ?_;refine cb (ca Wu) λr41=>?_;refine z [34,3,11] ?_;exact sgo (eR [(100,100),(101,101)])
   refine z [9,11] ?_;exact sgo (eR [(100,100),(101,101)])
 intro s43
 refine z [13,4,2,32,34,1,8] ?_;exact rt []
theorem Q2z{n:Nat}{x0}:∀ r,Qeh n x0=some r->FnOk Tryz.prog 106 [sli 3 (List.map Qd x0)] [] (Qd r) []:=by
 unfold Qeh
 refine fs Tryz.func106 λw S0 γ hγ=>?_;refine z [2] ?_;refine o (al' 100) ?_;refine z [1,2] ?_;refine cb (ca Wc) λr1=>?_;refine o (al' 101) ?_;refine z [34,1,5,2,30,39,30,1,7] ?_;refine srN (λs22=>[(2,.own 100),(3,.own 101),(7,sli 3 (List.map Qd x0))]) (λs22=>[(100,.bx 53 (Qd (⟨(⟨false,[]⟩:Qf),[]⟩:Qb))),(101,.bx 53 (Qd s22))]) (rE (eR [(100,100),(101,101)])) ?_ ?_
 . intro i23 x24 s22 hx25
   refine z [7,2,43,42] ?_;refine o (al' 102) ?_;refine z [34,1] ?_;refine b λr26 h27=>?_;refine b λr28 h29=>?_;refine sd ?_;refine zd [[101],[102]] ?_;refine dd [] (λ_ _ _ _=>c0 (Q2x _ h27)) ?_
   refine dx [13,15] [103] (λst mm ⟨a13,a15,_⟩ ⟨g103,_⟩=>og (toV (bsl (y:=103) (ls:=List.map Qd ([s22,r26]:List Qb)) Tryz.underlying44 ti_53.h rfl rfl rfl rfl rfl ⟨rfl,(a13.trans rfl),(by exact rfl),(by exact rfl),rfl,(a15.trans rfl),(by exact rfl),(by exact rfl),trivial⟩ (g103.trans rfl) rfl) (Jn (f:=Qd) (λ_=>Jx) ([s22,r26]:List Qb)))) ?_
   refine dd [] (λ_ _ _ _=>c0 (Q2y _ h29)) ?_;refine zd [[101]] ?_;refine de fol ?_;refine z [11] ?_;exact sgo (eR [(100,100),(101,101)])
 intro s30
 refine z [13,4,2,32,34,1,8] ?_;exact rt []
theorem Qqc{n:Nat}{x0}{x1}{x2}{x3}:∀ r,Qai n x0 x1 x2 x3=some r->FnOk Tryz.prog 88 [Q7 x0,Qd x1,sli 3 (List.map Qd x2),sli 3 (List.map Qd x3)] [] (.tup [Q5 r.1,Qv r.2]) []:=by
 unfold Qai
 refine fs Tryz.func88 λw S0 γ hγ=>?_;refine z [2] ?_;refine o (bx' 100) ?_;refine o (bx' 101) ?_;refine o (al' 102) ?_;refine o (al' 103) ?_;refine z [1,5] ?_;refine sjq (λs7=>[(2,sli 3 (List.map Qd x2)),(3,sli 3 (List.map Qd x3)),(4,.own 100),(5,.own 101),(8,.own 102),(9,.own 103),(30,bl s7)]) (λs7=>[(100,.bx 49 (Q7 x0)),(101,.bx 53 (Qd x1)),(102,.bx 61 (Q5 (⟨[],(⟨(⟨false,[]⟩:Qf),[]⟩:Qb),[]⟩:Qw))),(103,.bx 63 (Qv (⟨0,0,0,0⟩:Qe)))]) ?_ ?_
 . intro j5 hj6
   refine z [6,32] ?_;refine cb (ca Qrc) λr8=>?_;refine z [44,30] ?_;refine sifd 18 rfl ?_ ?_
   . refine z [23,23,23,23,23,23,38,30,23,23,23,38,1] ?_;exact sj (hj6 _) (eR [(100,100),(101,101),(102,102),(103,103)])
   refine z [22,22,22,22,22,22,37,30] ?_;refine sifd 26 rfl ?_ ?_
   . refine z [23,23,23,38,1] ?_;exact sj (hj6 _) (eR [(100,100),(101,101),(102,102),(103,103)])
   refine z [22] ?_;refine b λr10 h11=>?_;refine og' (c0 (Q09 _ h11)) ?_;refine z [22,37,1] ?_;exact sj (hj6 _) (eR [(100,100),(101,101),(102,102),(103,103)])
 intro s7
 refine c ?_ ?_
 . refine z [2] ?_;refine s1 (bld (l:=[sli 14 (List.map Ju []),Qd (⟨(⟨false,[]⟩:Qf),[]⟩:Qb),sli 3 (List.map Qd [])]) pl_61.h ti_61.h Qit rfl rfl) ?_;refine s1 (bld (l:=[i64 (2:Int),i64 0,i64 0,i64 0]) pl_63.h ti_63.h Qu ⟨_,_,_,(kI (x:=2) rfl),rfl,rfl,rfl,(szk (k:=1) rfl rfl),rfl⟩ rfl) ?_;refine z [34,34,1,8,10] ?_;exact rt []
 refine z [9,4,2,32] ?_;refine cb (ca Wu) λr12=>?_;refine cb (ca Wc) λr14=>?_;refine z [30] ?_;refine b λr16 h17=>?_;refine o (cG (Qj8 _ h17) [] [(104,50)] []) ?_;refine fz 104 [37] [] ?_;refine so (bldO (l:=[.own 106,Qd r12,sli 3 (List.map Qd r16)]) [(106,82,14)] pl_61.h ti_61.h (Qfi (Jv (c1:=[.slice none 0 0]) (Qdm rfl) (Jv (c1:=[.bool false,.slice none 0 0,.slice none 0 0]) (zo_of K0) (Jv (c1:=[.slice none 0 0]) (zo_of (J7 (k:=3))) (Qdn))))) ⟨rfl,trivial⟩ rfl ⟨_,_,_,rfl,rfl,rfl,rfl,(szk (k:=3) rfl rfl),⟨_,_,_,rfl,rfl,rfl,rfl,(szk (k:=1) rfl rfl),rfl⟩⟩ rfl) ?_;refine o (al' 107) ?_;refine z [34,1,5,2,30,39,30,1,7] ?_;refine srN (λs47=>[(4,.own 100),(8,.own 102),(9,.own 103),(10,.own 107),(39,sli 3 (List.map Qd x3))]) (λs47=>[(100,.bx 49 (Q7 x0)),(102,.bx 61 (Q5 (⟨[],(⟨(⟨false,[]⟩:Qf),[]⟩:Qb),[]⟩:Qw))),(103,.bx 63 (Qv (⟨0,0,0,0⟩:Qe))),(107,.bx 61 (.agg [.own 106,Qd s47.2.1,sli 3 (List.map Qd s47.2.2)])),(106,.sl 82 14 (List.map Ju s47.1))]) (rE (eR [(100,100),(102,102),(103,103),(107,107),(106,106)])) ?_ ?_
 . intro i48 x49 s47 hx50
   refine z [7,2,30,43,42] ?_;refine o (al' 108) ?_;refine z [31,34,1,2,32] ?_;refine cb (ca Wu) λr51=>?_;refine z [34,1,2,32,33,36,32,33,36] ?_;refine cb (ca Q32) λr53=>?_;refine z [30,35,35] ?_;refine o (al' 109) ?_;refine o (al' 110) ?_;refine z [34,34,1,5,2,32] ?_;refine s1 (bld (l:=[i64 0,i64 0,i64 0,i64 0]) pl_63.h ti_63.h Qu rfl rfl) ?_;refine s1 (neA (p:=(r53.2:Qe)) (q:=((⟨0,0,0,0⟩:Qe):Qe)) Vo rfl eg_63 rfl rfl rfl) ?_;refine z [1] ?_;refine c ?_ ?_
   . refine z [2,30,40,33] ?_;refine o (stP (Qv (⟨r53.2.Kind,wrap64 ((i48:Int)+(1:Int)),r53.2.Stage,r53.2.At⟩:Qe)) [1]) ?_;refine z [1,5] ?_;refine sd ?_;refine dx [] [] (λst mm _ _=>og (bld (l:=[sli 14 (List.map Ju []),Qd (⟨(⟨false,[]⟩:Qf),[]⟩:Qb),sli 3 (List.map Qd [])]) pl_61.h ti_61.h Qit rfl rfl)) ?_;refine zd [[110],[102],[103]] ?_;refine de fol ?_;refine z [4,8,10,12] ?_;refine sU ?_;refine z [12,10] ?_;exact rt []
   refine z [9,4,5] ?_;refine b λr55 h56=>?_;refine b λy57 h58=>?_;refine sd ?_;refine zd [[107],[107],[107],[107],[108],[108],[109],[109]] ?_;refine dd [] (λ_ _ _ _=>c0 (Q2z _ h56)) ?_;refine zd [[107],[107]] ?_;refine dx [69,70,71,74,76] [] (λst mm ⟨a69,a70,a71,a74,a76,_⟩ _=>og (bld (l:=[Qd s47.2.1,Qd r51,Qd r51,Qd r55,sli 3 (List.map Qd s47.2.2),bl true]) pl_82.h ti_82.h Qj6 ⟨_,_,_,(a69.trans rfl),rfl,rfl,rfl,(szk (k:=3) rfl rfl),⟨_,_,_,(a70.trans rfl),rfl,rfl,rfl,(szk (k:=3) rfl rfl),⟨_,_,_,(a71.trans rfl),rfl,rfl,rfl,(szk (k:=3) rfl rfl),⟨_,_,_,(a74.trans rfl),rfl,rfl,rfl,(szk (k:=3) rfl rfl),⟨_,_,_,(a76.trans rfl),rfl,rfl,rfl,(szk (k:=1) rfl rfl),⟨_,_,_,kB,rfl,rfl,rfl,(szk (k:=1) rfl rfl),rfl⟩⟩⟩⟩⟩⟩ rfl)) ?_
   refine dx [77] [111] (λst mm ⟨a77,_⟩ ⟨g111,_⟩=>og (bsl (y:=111) (ls:=List.map Ju ([(⟨s47.2.1,r51,r51,r55,s47.2.2,true⟩:Qy)]:List Qy)) Tryz.underlying59 ti_82.h rfl rfl rfl rfl rfl ⟨rfl,(a77.trans rfl),(by exact rfl),(by exact rfl),trivial⟩ (g111.trans rfl) rfl)) ?_
   refine dd [106,111,112] (λ_ _ _ _=>app' 112) ?_;refine zd [[107]] ?_;refine dd [107] (λ_ _ _ _=>stP (.agg [.own 112,Qd s47.2.1,sli 3 (List.map Qd s47.2.2)]) [0]) ?_;refine de fol ?_;refine z [4] ?_;refine b λr59 h60=>?_;refine sd ?_;refine zd [[107],[107],[108]] ?_;refine dd [] (λ_ _ _ _=>c0 (Qei _ h60)) ?_;refine zd [[109],[109],[107]] ?_;refine dd [107] (λ_ _ _ _=>stP (.agg [.own 112,Qd r59,sli 3 (List.map Qd s47.2.2)]) [1]) ?_;refine zd [[107]] ?_;refine dd [107] (λ_ _ _ _=>stP (.agg [.own 112,Qd r59,sli 3 (List.map Qd r53.1.Next)]) [2]) ?_;refine de fol ?_;refine z [11] ?_;exact sgo (eR [(100,100),(102,102),(103,103),(107,107),(106,112)])
 intro s61
 refine z [13,4,2,32] ?_;refine s1 (bld (l:=[i64 0,i64 0,i64 0,i64 0]) pl_63.h ti_63.h Qu rfl rfl) ?_;refine z [34,34,1,8] ?_;refine fz 106 [90] [102,107] ?_;exact rt []
theorem Qx5{n:Nat}{x0}:∀ r,Qkm n x0=some r->FnOk Tryz.prog 256 [u32 x0] [] (str r) []:=by
 unfold Qkm
 refine fs Tryz.func256 λw S0 γ hγ=>?_;refine z [2,31,1,2] ?_;refine o (al' 100) ?_;refine z [1,5,2,31,1,7] ?_;refine sloopE 0 (λt=>t) (λs7=>[(0,u32 s7.1),(2,str ([]:List UInt8)),(3,.own 100),(4,i64 s7.2.2)]) (λs7=>[(100,.bx 368 (Qlk s7.2.1))]) (λt5=>[(2,str ([]:List UInt8)),(3,.own 100)]) (λt5=>[(100,.bx 368 (Qlk t5))]) (eR [(100,100)]) ?_ ?_
 . intro hj6 s7
   refine z [5,2,30,57,1] ?_;refine c ?_ ?_
   . refine z [9,4,5,7,2,30,30,81,61,60] ?_;refine b λy8 h9=>?_;refine s1 (ixAO Tryz.underlying368 ti_5.h (Qy3 (n:=9) rfl h9) (.inr ⟨rfl,rfl,_,_,rfl⟩) rfl rfl rfl) ?_
     refine so (stB2 (ly:=.agg (List.map u8 ([s7.2.1.a0,s7.2.1.a1,s7.2.1.a2,s7.2.1.a3,s7.2.1.a4,s7.2.1.a5,s7.2.1.a6,s7.2.1.a7,s7.2.1.a8]:List Nat))) (ly2:=Qlk (Qq2 (List.set ([s7.2.1.a0,s7.2.1.a1,s7.2.1.a2,s7.2.1.a3,s7.2.1.a4,s7.2.1.a5,s7.2.1.a6,s7.2.1.a7,s7.2.1.a8]:List Nat) (Int.toNat s7.2.2) (((48+(s7.1%10))%4294967296)%256)))) (ln:=u8 (((48+(s7.1%10))%4294967296)%256)) [Int.toNat s7.2.2] (puA0 (f:=u8) h9 (Qzh _ (List.length_set.trans rfl))) rfl (goA0 (f:=u8) (λ_=>rfl) h9) sh_5.h (by exact rfl) (by exact rfl) (by exact rfl) rfl (.inl rfl) rfl) ?_
     refine z [1,6,30,80,31,3,11,4,6,30,49,31,3] ?_;exact sgo (eR [(100,100)])
   refine z [14,15] ?_;exact su (sj (hj6 _) (eR [(100,100)]))
 intro t5
 refine z [13,4,2] ?_;refine so (slA (f:=u8) (xs:=([t5.a0,t5.a1,t5.a2,t5.a3,t5.a4,t5.a5,t5.a6,t5.a7,t5.a8]:List Nat)) Tryz.underlying368 ti_5.h rfl rfl rfl (λ_=>if_u8) (λ_=>rfl) rfl rfl) ?_;refine sbn (F:=(λx=>sli 1 (List.map u8 x))) 17 rfl λz10=>?_;refine s1 (cvBS Tryz.underlying283 Tryz.underlying5 Tryz.underlying9 rfl rfl) ?_;refine z [31,1,8] ?_;exact rt []
theorem Qqd{n:Nat}{x0}:∀ r,Qg8 n x0=some r->FnOk Tryz.prog 212 [sli 1 (List.map u32 x0)] [] (str r) []:=by
 unfold Qg8
 refine fs Tryz.func212 λw S0 γ hγ=>?_;refine z [2,31,1,5,2,30] ?_;refine cb (ca Qiv) λr1=>?_;refine z [1] ?_;refine c ?_ ?_
 . refine z [2,31,1,8,10] ?_;exact rt []
 refine z [9,4,2] ?_;refine so (asgN (y:=100) (E:=9) (k:=1) rfl rfl) ?_;refine z [1,5,7] ?_;refine sloopE 0 (λt=>t) (λs23=>[(0,sli 1 (List.map u32 s23.1)),(2,str ([]:List UInt8)),(3,.own 100)]) (λs23=>[(100,.sl 9 1 (List.map str s23.2))]) (λt21=>[(2,str ([]:List UInt8)),(3,.own 100)]) (λt21=>[(100,.sl 9 1 (List.map str t21))]) (eR [(100,100)]) ?_ ?_
 . intro hj22 s23
   refine z [5,2,30] ?_;refine cb (ca Qiv) λr24=>?_;refine z [44,1] ?_;refine c ?_ ?_
   . refine z [9,4,7,2,30] ?_;refine cb (ca Qsm) λr26=>?_;refine z [30,35,35,35,31,31,31,1,2,30,30] ?_;refine cb (ca Qx5) λr28=>?_
     refine so (bsl (y:=101) (ls:=List.map str ([r28]:List (List UInt8))) Tryz.underlying238 ti_9.h rfl rfl rfl rfl rfl ⟨rfl,rfl,(by exact rfl),(by exact rfl),trivial⟩ rfl rfl) ?_
     refine b λy30 h31=>?_;refine o (app' 102) ?_;refine z [31,1,6,30,31,3,11] ?_;exact sgo (eR [(100,102)])
   refine z [14,15] ?_;exact su (sj (hj22 _) (eR [(100,100)]))
 intro t21
 refine z [13,4,2] ?_;refine so (alOw (y:=101) (ly:=.agg [.por 101,.own 102]) [(102,5,1)] Q8t.h (Qfi (Jv (c1:=[.pointer none]) Q73 (Jv (c1:=[.slice none 0 0]) (Qdm rfl) Qdn))) ⟨rfl,trivial⟩ rfl rfl rfl) ?_;refine z [1,5,2,30,55,49,31,1,7] ?_;refine sloopE 2 (λt=>t) (λs44=>[(2,str ([]:List UInt8)),(3,.own 100),(7,.own 101),(8,i64 s44.2)]) (λs44=>[(100,.sl 9 1 (List.map str t21)),(101,.bx 285 (.agg [.por 101,.own 102])),(102,.sl 5 1 (List.map ub s44.1))]) (λt42=>[(2,str ([]:List UInt8)),(7,.own 101)]) (λt42=>[(101,.bx 285 (.agg [.por 101,.own 102])),(102,.sl 5 1 (List.map ub t42))]) (eR [(100,100),(101,101),(102,102)]) ?_ ?_
 . intro hj43 s44
   refine z [5,2,30,57,1] ?_;refine c ?_ ?_
   . refine z [9,4,5,7,6,30,30] ?_;refine b λy45 h46=>?_;refine z [50,51] ?_;refine b λy47 h48=>?_;refine so (callG (em:=[(103,.sl 5 1 (List.map ub y47)),(101,.bx 285 (.agg [.por 101,.own 103])),(102,.gone)]) (res':=.tup [i64 (y45.length:Int),nilI]) [(0,101),(1,102)] [(103,52)] [(103,52),(101,0)] (Q8h h48) ⟨⟨_,rfl,Vd rfl⟩,⟨_,rfl,rn_id Qqt⟩,trivial⟩ (MiF.get (mi:=[(0,_),(1,_)]) ⟨⟨_,_,rfl,rfl,rc_bx (Zn (Kh (Qem rfl) (Kh (Vd rfl) Wj)))⟩,⟨_,_,rfl,rfl,rc_sl (Jn (f:=ub) (λ_=>if_ub) s44.1)⟩,trivial⟩) ⟨⟨_,rfl⟩,⟨_,rfl⟩,trivial⟩ rfl ⟨rfl,trivial⟩ ⟨.inl rfl,.inr rfl,trivial⟩ rfl ⟨.inl ⟨_,_,rfl,rfl,rc_sl (Jn (f:=ub) (λ_=>if_ub) y47)⟩,.inl ⟨_,_,rfl,rfl,rc_bx (Zn (Kh (Qem rfl) (Kh (Vd rfl) Wj)))⟩,.inr ⟨rfl,1,.tail _ (.head _)⟩,trivial⟩ ⟨⟨_,rfl⟩,⟨_,rfl⟩,trivial⟩ ⟨⟨_,rfl⟩,trivial⟩ (Qdk (Kh (rn_id Qen) (Kh (rn_id Qvf) Wj))) rfl) ?_;refine z [3,11,4,6,30,49,31,3] ?_;exact sgo (eR [(100,100),(101,101),(102,103)])
   refine z [14,15] ?_;exact su (sj (hj43 _) (eR [(101,101),(102,102)]))
 intro t42
 refine z [13,4,2] ?_;refine so (strOp (id:=101) (id2:=102) rfl rfl rfl rfl rfl) ?_;refine cb (ca Qqz) λr49=>?_;refine z [31,1,8] ?_;exact rt []
theorem Qzv{n:Nat}{x0}:∀ r,Qlx n x0=some r->FnOk Tryz.prog 211 [Q4 x0] [] (str r) []:=by
 unfold Qlx
 refine fs Tryz.func211 λw S0 γ hγ=>?_;refine z [2] ?_;refine o (bx' 100) ?_;refine z [31,1,2,33,36] ?_;refine cb (ca Qqd) λr1=>?_;refine z [31,1,5,2,32] ?_;refine cb (ca Qiw) λr3=>?_;refine z [46,1] ?_;refine c ?_ ?_
 . refine z [2,30] ?_;refine b λy5 h6=>?_;refine z [91,31,1,8,10] ?_;exact rt []
 refine z [9,4,2,30,31,1,8] ?_;exact rt []
theorem Qx6{n:Nat}{x0}:∀ r,Qks n x0=some r->FnOk Tryz.prog 163 [Qd x0] [] (str r) []:=by
 unfold Qks
 refine fs Tryz.func163 λw S0 γ hγ=>?_;refine z [2] ?_;refine o (bx' 100) ?_;refine z [31,1,2,32] ?_;refine cb (ca Wu) λr1=>?_;refine z [34,1,2,33,36] ?_;refine cb (ca Qzv) λr3=>?_;refine z [31,1] ?_;refine sjq (λs17=>[(2,str ([]:List UInt8)),(3,str s17)]) (λs17=>[]) ?_ ?_
 . intro j15 hj16
   refine z [5] ?_;refine b λr18 h19=>?_;refine b λr20 h21=>?_;refine sd ?_;refine zd [[100],[100]] ?_;refine dd [] (λ_ _ _ _=>c0 (Qbg _ h19)) ?_;refine dd [] (λ_ _ _ _=>c0 (Qhs _ h21)) ?_;refine zd [[]] ?_;refine de fol ?_;refine z [4] ?_;refine c ?_ ?_
   . refine z [6,30,33,36] ?_;refine cb (ca Qqd) λr22=>?_;refine b λy24 h25=>?_;refine z [91] ?_;refine b λy26 h27=>?_;refine z [91,31,1] ?_;exact sj (hj16 _) (eR [])
   refine z [9,4] ?_;exact sj (hj16 _) (eR [])
 intro s17
 refine z [2,30,31,1,8] ?_;exact rt []
theorem Q20{n:Nat}{x0}:∀ r,Qpm n x0=some r->FnOk Tryz.prog 93 [sli 3 (List.map Qd x0)] [] (str r) []:=by
 unfold Qpm
 refine fs Tryz.func93 λw S0 γ hγ=>?_;refine z [2,31,1,2] ?_;refine so (asgN (y:=100) (E:=9) (k:=1) rfl rfl) ?_;refine z [1,5,2,30,39,30,1,7] ?_;refine srN (λs18=>[(2,str ([]:List UInt8)),(3,.own 100),(6,sli 3 (List.map Qd x0))]) (λs18=>[(100,.sl 9 1 (List.map str s18))]) (rE (eR [(100,100)])) ?_ ?_
 . intro i19 x20 s18 hx21
   refine z [7,2,43,42] ?_;refine o (al' 101) ?_;refine z [34,1,6,30,32] ?_;refine cb (ca Qx6) λr22=>?_
   refine so (bsl (y:=102) (ls:=List.map str ([r22]:List (List UInt8))) Tryz.underlying238 ti_9.h rfl rfl rfl rfl rfl ⟨rfl,rfl,(by exact rfl),(by exact rfl),trivial⟩ rfl rfl) ?_
   refine b λy24 h25=>?_;refine o (app' 103) ?_;refine z [31,3,11] ?_;exact sgo (eR [(100,103)])
 intro s26
 refine z [13,4,2,30] ?_;refine b λr27 h28=>?_
 refine s1 (callL (em:=[]) [100] [] [] [] rfl (Qvh _ h28) trivial (Q71) ⟨.inr ⟨100,rfl,.inl ⟨rfl,.inl ⟨_,_,_,rfl,Jn (f:=str) (λ_=>Qqt) s26,rfl⟩⟩⟩,.inl ⟨_,(kS (s:=[44]) rfl),rn_id Qqt⟩,trivial⟩ (λ_ _ h=>by cases h) trivial rfl trivial trivial rfl trivial trivial trivial (rn_id (Qqt)) rfl) ?_
 refine z [31,1,8] ?_;exact rt []
theorem Yt{x0}:∀ r,Wn x0=some r->FnOk Tryz.prog 143 [Ju x0] [] (sli 3 (List.map Qd r)) []:=by
 unfold Wn
 refine fs Tryz.func143 λw S0 γ hγ=>?_;refine z [2] ?_;refine o (bx' 100) ?_;refine s1 (asg rfl (kLm (k:=3) Qd)) ?_;refine z [1,2,33,36,33,36,33,36,33,36] ?_
 refine so (bsl (y:=101) (ls:=List.map Qd ([x0.T,x0.Want,x0.H,x0.Err]:List Qb)) Tryz.underlying44 ti_53.h rfl rfl rfl rfl rfl ⟨rfl,rfl,(by exact rfl),(by exact rfl),rfl,rfl,(by exact rfl),(by exact rfl),rfl,rfl,(by exact rfl),(by exact rfl),rfl,rfl,(by exact rfl),(by exact rfl),trivial⟩ rfl rfl) ?_
 refine z [31,1,8] ?_;refine fz 101 [2,11] [] ?_;exact rt []
theorem Qkv{n:Nat}{x0}:∀ r,Qbe n x0=some r->FnOk Tryz.prog 78 [sli 3 (List.map Qd x0)] [] (sli 3 (List.map Qd r)) []:=by
 unfold Qbe
 refine fs Tryz.func78 λw S0 γ hγ=>?_;refine z [2] ?_;refine s1 (asg rfl (kLm (k:=3) Qd)) ?_;refine z [1,2] ?_;refine cb (ca Wc) λr1=>?_;refine z [30] ?_;refine b λr3 h4=>?_;refine o (cG (Qj8 _ h4) [] [(100,50)] []) ?_;refine z [31,1,8] ?_;refine fz 100 [2,5] [] ?_;exact rt []
theorem Qm6{n:Nat}{x0}:∀ r,Qa8 n x0=some r->FnOk Tryz.prog 76 [Q5 x0] [] (sli 14 (List.map Ju r)) []:=by
 unfold Qa8
 refine fs Tryz.func76 λw S0 γ hγ=>?_;refine z [2] ?_;refine o (bx' 100) ?_;refine s1 (asg rfl (kLm (k:=14) Ju)) ?_;refine z [1,2] ?_;refine so (asgN (y:=101) (E:=82) (k:=14) rfl rfl) ?_;refine z [1,5,2,33,36,39,30,1,7] ?_;refine srN (λs42=>[(2,sli 14 (List.map Ju ([]:List Qy))),(3,.own 101),(8,sli 14 (List.map Ju x0.Tries))]) (λs42=>[(101,.sl 82 14 (List.map Ju s42))]) (rE (eR [(101,101)])) ?_ ?_
 . intro i43 x44 s42 hx45
   refine z [7,2,43,42] ?_;refine o (al' 102) ?_;refine z [34,1,2,33,36,1] ?_;refine c ?_ ?_
   . refine z [2,32] ?_;refine cb (ca Yt) λr46=>?_;refine cb (ca Qkv) λr48=>?_;refine z [31,1] ?_;refine b λy50 h51=>?_;refine b λy52 h53=>?_;refine b λy54 h55=>?_;refine b λy56 h57=>?_;refine b λr58 h59=>?_;refine b λy60 h61=>?_;refine sd ?_;refine zd [[],[],[],[],[],[],[],[],[],[],[],[],[],[102],[102]] ?_;refine dd [] (λ_ _ _ _=>c0 (Qkv _ h59)) ?_;refine dx [22,25,28,31,34] [] (λst mm ⟨a22,a25,a28,a31,a34,_⟩ _=>og (bld (l:=[Qd y50,Qd y52,Qd y54,Qd y56,sli 3 (List.map Qd r58),bl true]) pl_82.h ti_82.h Qj6 ⟨_,_,_,(a22.trans rfl),rfl,rfl,rfl,(szk (k:=3) rfl rfl),⟨_,_,_,(a25.trans rfl),rfl,rfl,rfl,(szk (k:=3) rfl rfl),⟨_,_,_,(a28.trans rfl),rfl,rfl,rfl,(szk (k:=3) rfl rfl),⟨_,_,_,(a31.trans rfl),rfl,rfl,rfl,(szk (k:=3) rfl rfl),⟨_,_,_,(a34.trans rfl),rfl,rfl,rfl,(szk (k:=1) rfl rfl),⟨_,_,_,kB,rfl,rfl,rfl,(szk (k:=1) rfl rfl),rfl⟩⟩⟩⟩⟩⟩ rfl)) ?_
     refine dx [35] [103] (λst mm ⟨a35,_⟩ ⟨g103,_⟩=>og (bsl (y:=103) (ls:=List.map Ju ([(⟨y50,y52,y54,y56,r58,true⟩:Qy)]:List Qy)) Tryz.underlying59 ti_82.h rfl rfl rfl rfl rfl ⟨rfl,(a35.trans rfl),(by exact rfl),(by exact rfl),trivial⟩ (g103.trans rfl) rfl)) ?_
     refine dd [101,103,104] (λ_ _ _ _=>app' 104) ?_;refine zd [[]] ?_;refine de fol ?_;refine z [11] ?_;exact sgo (eR [(101,104)])
   refine z [9,11] ?_;exact sgo (eR [(101,101)])
 intro s62
 refine z [13,4,2,30,31,1,8] ?_;refine fz 101 [2,3,39] [] ?_;exact rt []
theorem Qzw{n:Nat}{x0}:∀ r,Qfv n x0=some r->FnOk Tryz.prog 23 [Q5 x0] [] (.tup [sli 3 (List.map Qd r.1),sli 1 (List.map Qj r.2)]) []:=by
 unfold Qfv
 refine fs Tryz.func23 λw S0 γ hγ=>?_;refine z [2] ?_;refine o (bx' 100) ?_;refine s1 (asg rfl (kLm (k:=3) Qd)) ?_;refine s1 (asg rfl (kLm (k:=1) Qj)) ?_;refine z [1,2] ?_;refine so (asgN (y:=101) (E:=53) (k:=3) rfl rfl) ?_;refine z [1,2] ?_;refine so (asgN (y:=102) (E:=44) (k:=1) rfl rfl) ?_;refine z [1,5,2,32] ?_;refine cb (ca Qm6) λr1=>?_;refine z [39,30,1,7] ?_;refine srN (λs20=>[(1,.own 100),(2,sli 3 (List.map Qd ([]:List Qb))),(3,sli 1 (List.map Qj ([]:List (List Qb)))),(4,.own 101),(5,.own 102),(9,sli 14 (List.map Ju r1))]) (λs20=>[(100,.bx 61 (Q5 x0)),(101,.sl 53 3 (List.map Qd s20.1)),(102,.sl 44 1 (List.map Qj s20.2))]) (rE (eR [(100,100),(101,101),(102,102)])) ?_ ?_
 . intro i21 x22 s20 hx23
   refine z [7,2,43,42] ?_;refine o (al' 103) ?_;refine z [34,1,2,30,33,36] ?_
   refine so (bsl (y:=104) (ls:=List.map Qd ([x22.T]:List Qb)) Tryz.underlying44 ti_53.h rfl rfl rfl rfl rfl ⟨rfl,rfl,(by exact rfl),(by exact rfl),trivial⟩ rfl rfl) ?_
   refine b λy24 h25=>?_;refine o (app' 105) ?_;refine z [31,1,6,30,33,36] ?_
   refine so (bsl (y:=106) (ls:=List.map Qj ([x22.Y]:List (List Qb))) Tryz.underlying45 ti_44.h rfl rfl rfl rfl rfl ⟨rfl,rfl,(by exact rfl),(by exact rfl),trivial⟩ rfl rfl) ?_
   refine b λy26 h27=>?_;refine o (app' 107) ?_;refine z [31,3,11] ?_;exact sgo (eR [(100,100),(101,105),(102,107)])
 intro s28
 refine z [13,4,5] ?_;refine b λr29 h30=>?_;refine b λy31 h32=>?_;refine b λr33 h34=>?_;refine b λy35 h36=>?_;refine sd ?_;refine zd [[],[100],[100]] ?_;refine dd [] (λ_ _ _ _=>c0 (Wu _ h30)) ?_
 refine dx [29] [103] (λst mm ⟨a29,_⟩ ⟨g103,_⟩=>og (bsl (y:=103) (ls:=List.map Qd ([r29]:List Qb)) Tryz.underlying44 ti_53.h rfl rfl rfl rfl rfl ⟨rfl,(a29.trans rfl),(by exact rfl),(by exact rfl),trivial⟩ (g103.trans rfl) rfl)) ?_
 refine dd [101,103,104] (λ_ _ _ _=>app' 104) ?_;refine zd [[],[100],[100]] ?_;refine dd [] (λ_ _ _ _=>c0 (Qkv _ h34)) ?_
 refine dx [35] [105] (λst mm ⟨a35,_⟩ ⟨g105,_⟩=>og (bsl (y:=105) (ls:=List.map Qj ([r33]:List (List Qb))) Tryz.underlying45 ti_44.h rfl rfl rfl rfl rfl ⟨rfl,(a35.trans rfl),(by exact rfl),(by exact rfl),trivial⟩ (g105.trans rfl) rfl)) ?_
 refine dd [102,105,106] (λ_ _ _ _=>app' 106) ?_;refine zd [[],[]] ?_;refine de fol ?_;refine z [4,8] ?_;refine fz 104 [2,31] [] ?_;refine fz 106 [3,37] [] ?_;exact rt []
theorem Qzx{n:Nat}{x0}:∀ r,Qfw n x0=some r->FnOk Tryz.prog 24 [Q5 x0] [] (sli 3 (List.map Qd r)) []:=by
 unfold Qfw
 refine fs Tryz.func24 λw S0 γ hγ=>?_;refine z [2] ?_;refine o (bx' 100) ?_;refine s1 (asg rfl (kLm (k:=3) Qd)) ?_;refine z [1,2] ?_;refine so (asgN (y:=101) (E:=53) (k:=3) rfl rfl) ?_;refine z [1,5,2,32] ?_;refine cb (ca Qm6) λr1=>?_;refine z [39,30,1,7] ?_;refine srN (λs16=>[(2,sli 3 (List.map Qd ([]:List Qb))),(3,.own 101),(7,sli 14 (List.map Ju r1))]) (λs16=>[(101,.sl 53 3 (List.map Qd s16))]) (rE (eR [(101,101)])) ?_ ?_
 . intro i17 x18 s16 hx19
   refine z [7,2,43,42] ?_;refine o (al' 102) ?_;refine z [34,1,6,30,33,36] ?_
   refine so (bsl (y:=103) (ls:=List.map Qd ([x18.H]:List Qb)) Tryz.underlying44 ti_53.h rfl rfl rfl rfl rfl ⟨rfl,rfl,(by exact rfl),(by exact rfl),trivial⟩ rfl rfl) ?_
   refine b λy20 h21=>?_;refine o (app' 104) ?_;refine z [31,3,11] ?_;exact sgo (eR [(101,104)])
 intro s22
 refine z [13,4,2,30,31,1,8] ?_;refine fz 101 [2,3,19] [] ?_;exact rt []
theorem Qon{n:Nat}{x0}{x1}:∀ r,Qat n x0 x1=some r->FnOk Tryz.prog 30 [Q7 x0,Q5 x1] [] (.tup [Q5 r.1,Qv r.2]) []:=by
 unfold Qat
 refine fs Tryz.func30 λw S0 γ hγ=>?_;refine z [2] ?_;refine o (bx' 100) ?_;refine o (bx' 101) ?_;refine o (al' 102) ?_;refine o (al' 103) ?_;refine z [1,2,32] ?_;refine cb (ca Qzw) λr1=>?_;refine z [30,35,35,31,31,1,5] ?_;refine b λy3 h4=>?_;refine b λy5 h6=>?_;refine b λr7 h8=>?_;refine b λr9 h10=>?_;refine sd ?_;refine zd [[100],[],[],[],[],[],[],[101]] ?_;refine dd [] (λ_ _ _ _=>c0 (Qzx _ h8)) ?_;refine dd [] (λ_ _ _ _=>c0 (Qqc _ h10)) ?_;refine zd [[],[],[102],[103]] ?_;refine de fol ?_;refine z [4,8] ?_;exact rt []
theorem Qqe{n:Nat}{x0}:∀ r,Qcj n x0=some r->FnOk Tryz.prog 207 [sli 1 (List.map Qj x0)] [] (bl r) []:=by
 unfold Qcj
 refine fs Tryz.func207 λw S0 γ hγ=>?_;refine z [2,31,1,5,2,30,39,30,1,7] ?_;refine srN (λs20=>[(2,bl false),(7,sli 1 (List.map Qj x0))]) (λs20=>[]) (rE eI) ?_ ?_
 . intro i21 x22 s20 hx23
   refine z [7,2,43,42,31,1,2,30,39,30,1,7] ?_;refine srN (λs31=>[(2,bl false),(7,sli 1 (List.map Qj x0)),(8,i64 (x0.length:Int)),(9,i64 (i21:Int)),(13,sli 3 (List.map Qd x22))]) (λs31=>[]) (rE eI) ?_ ?_
   . intro i32 x33 s31 hx34
     refine z [7,2,43,42] ?_;refine o (al' 100) ?_;refine z [34,1,2,32] ?_;refine cb (ca Ql7) λr35=>?_;refine z [44,1] ?_;refine c ?_ ?_
     . refine z [2,31,1,8,12] ?_;refine sU ?_;refine z [12,12] ?_;refine sU ?_;refine z [12,10] ?_;exact rt []
     refine z [9,11] ?_;exact sgo (eR [])
   intro s37
   refine z [13,11] ?_;exact sgo eI
 intro s38
 refine z [13,4,2,31,1,8] ?_;exact rt []
theorem Qzy{n:Nat}{x0}:∀ r,Qim n x0=some r->FnOk Tryz.prog 154 [Q5 x0] [] (bl r) []:=by
 unfold Qim
 refine fs Tryz.func154 λw S0 γ hγ=>?_;refine z [2] ?_;refine o (bx' 100) ?_;refine z [31,1,5,2,33,36,39,30,1,7] ?_;refine srN (λs10=>[(1,.own 100),(2,bl false),(6,sli 14 (List.map Ju x0.Tries))]) (λs10=>[(100,.bx 61 (Q5 x0))]) (rE (eR [(100,100)])) ?_ ?_
 . intro i11 x12 s10 hx13
   refine z [7,2,43,42] ?_;refine o (al' 101) ?_;refine z [34,1,5] ?_;refine b λr14 h15=>?_;refine b λr16 h17=>?_;refine sd ?_;refine zd [[101]] ?_;refine dd [] (λ_ _ _ _=>c0 (Yt _ h15)) ?_;refine zd [[101],[101]] ?_
   refine dx [13,15] [102] (λst mm ⟨a13,a15,_⟩ ⟨g102,_⟩=>og (bsl (y:=102) (ls:=List.map Qj ([r14,x12.Y]:List (List Qb))) Tryz.underlying45 ti_44.h rfl rfl rfl rfl rfl ⟨rfl,(a13.trans rfl),(by exact rfl),(by exact rfl),rfl,(a15.trans rfl),(by exact rfl),(by exact rfl),trivial⟩ (g102.trans rfl) rfl)) ?_
   refine dx [16] [102] (λst mm ⟨a16,_⟩ ⟨g102,_⟩=>og (callL (em:=[]) [102] [] [] [] rfl (Qqe _ h17) trivial (pl_bl) ⟨.inr ⟨102,rfl,.inl ⟨(a16.trans rfl),.inl ⟨_,_,_,(g102.trans rfl),Jn (f:=Qj) (λ_=>Qgm) ([r14,x12.Y]:List (List Qb)),rfl⟩⟩⟩,trivial⟩ (λ_ _ h=>by cases h) trivial rfl trivial trivial rfl trivial trivial trivial (rn_id (if_bl)) rfl)) ?_
   refine zd [[]] ?_;refine de fol ?_;refine z [4] ?_;refine c ?_ ?_
   . refine z [2,31,1,8,12] ?_;refine sU ?_;refine z [12,10] ?_;exact rt []
   refine z [9,11] ?_;exact sgo (eR [(100,100)])
 intro s18
 refine z [13,4,2,33,36] ?_
 refine so (bsl (y:=101) (ls:=List.map Qd ([x0.T]:List Qb)) Tryz.underlying44 ti_53.h rfl rfl rfl rfl rfl ⟨rfl,rfl,(by exact rfl),(by exact rfl),trivial⟩ rfl rfl) ?_
 refine z [33,36] ?_;refine fz 101 [22] [] ?_
 refine so (bsl (y:=102) (ls:=List.map Qj ([([x0.T]:List Qb),x0.Y]:List (List Qb))) Tryz.underlying45 ti_44.h rfl rfl rfl rfl rfl ⟨rfl,rfl,(by exact rfl),(by exact rfl),rfl,rfl,(by exact rfl),(by exact rfl),trivial⟩ rfl rfl) ?_
 refine b λr19 h20=>?_
 refine s1 (callL (em:=[]) [102] [] [] [] rfl (Qqe _ h20) trivial (pl_bl) ⟨.inr ⟨102,rfl,.inl ⟨rfl,.inl ⟨_,_,_,rfl,Jn (f:=Qj) (λ_=>Qgm) ([([x0.T]:List Qb),x0.Y]:List (List Qb)),rfl⟩⟩⟩,trivial⟩ (λ_ _ h=>by cases h) trivial rfl trivial trivial rfl trivial trivial trivial (rn_id (if_bl)) rfl) ?_
 refine z [31,1,8] ?_;exact rt []
theorem Qvs{x0}:∀ r,Qgc x0=some r->FnOk Tryz.prog 155 [Q5 x0] [] (bl r) []:=by
 unfold Qgc
 refine fs Tryz.func155 λw S0 γ hγ=>?_;refine z [2] ?_;refine o (bx' 100) ?_;refine z [31,1,5,2,33,36,39,30,1,7] ?_;refine srN (λs6=>[(1,.own 100),(2,bl false),(6,sli 14 (List.map Ju x0.Tries))]) (λs6=>[(100,.bx 61 (Q5 x0))]) (rE (eR [(100,100)])) ?_ ?_
 . intro i7 x8 s6 hx9
   refine z [7,2,43,42] ?_;refine o (al' 101) ?_;refine z [34,1,2,33,36,39,33,36,39,56,1] ?_;refine c ?_ ?_
   . refine z [2,31,1,8,12] ?_;refine sU ?_;refine z [12,10] ?_;exact rt []
   refine z [9,11] ?_;exact sgo (eR [(100,100)])
 intro s10
 refine z [13,4] ?_;refine sjq (λs13=>[(2,bl s13)]) (λs13=>[]) ?_ ?_
 . intro j11 hj12
   refine z [6,33,36,39,57,30] ?_;refine sifd 24 rfl ?_ ?_
   . refine z [22,22,22,22,38,31,1] ?_;exact sj (hj12 _) (eR [])
   refine z [23,23,23,23,37,31,1] ?_;exact sj (hj12 _) (eR [])
 intro s13
 refine z [8] ?_;exact rt []
theorem Qzz{n:Nat}{x0}:∀ r,Qin n x0=some r->FnOk Tryz.prog 156 [Q5 x0] [] (bl r) []:=by
 unfold Qin
 refine fs Tryz.func156 λw S0 γ hγ=>?_;refine z [2] ?_;refine o (bx' 100) ?_;refine z [31,1,5,2,33,36,39,30,1,7] ?_;refine srN (λs25=>[(2,bl false),(6,sli 14 (List.map Ju x0.Tries))]) (λs25=>[]) (rE (eR [])) ?_ ?_
 . intro i26 x27 s25 hx28
   refine z [7,2,43,42] ?_;refine o (al' 101) ?_;refine z [34,1] ?_;refine sjq (λs39=>[(2,bl false),(6,sli 14 (List.map Ju x0.Tries)),(7,i64 (x0.Tries.length:Int)),(8,i64 (i26:Int)),(35,bl s39)]) (λs39=>[]) ?_ ?_
   . intro j37 hj38
     refine z [6,33,36] ?_;refine cb (ca Qe5) λr40=>?_;refine z [58,30] ?_;refine sifd 16 rfl ?_ ?_
     . refine z [23,23,23,23,38,30,23,23,23,23,23,23,38,30,23,23,23,23,38,1] ?_;exact sj (hj38 _) (eR [])
     refine z [22,22] ?_;refine b λr42 h43=>?_;refine og' (c0 (Qe5 _ h43)) ?_;refine z [22,37,30] ?_;refine sifd 22 rfl ?_ ?_
     . refine z [23,23,23,23,23,23,38,30,23,23,23,23,38,1] ?_;exact sj (hj38 _) (eR [])
     refine z [22,22,22,22] ?_;refine b λr44 h45=>?_;refine og' (c0 (Qpr _ h45)) ?_;refine z [22,37,30] ?_;refine sifd 30 rfl ?_ ?_
     . refine z [23,23,23,23,38,1] ?_;exact sj (hj38 _) (eR [])
     refine z [22,22] ?_;refine b λr46 h47=>?_;refine og' (c0 (Qe5 _ h47)) ?_;refine z [22,37,1] ?_;exact sj (hj38 _) (eR [])
   intro s39
   refine c ?_ ?_
   . refine z [2,31,1,8,12] ?_;refine sU ?_;refine z [12,10] ?_;exact rt []
   refine z [9,11] ?_;exact sgo eI
 intro s48
 refine z [13,4,2,31,1,8] ?_;exact rt []
theorem Qi1{n:Nat}{x0}{x1}:∀ r,Qax n x0 x1=some r->FnOk Tryz.prog 28 [sli 3 (List.map Qd x0),sli 3 (List.map Qd x1)] [] (bl r) []:=by
 unfold Qax
 refine fs Tryz.func28 λw S0 γ hγ=>?_;refine z [2,31,1,5,2,30,39,30,39,56,1] ?_;refine c ?_ ?_
 . refine z [2,31,1,8,10] ?_;exact rt []
 refine z [9,4,5,2,30,39,30,1,7] ?_;refine srN (λs10=>[(0,sli 3 (List.map Qd x0)),(1,sli 3 (List.map Qd x1)),(4,bl false)]) (λs10=>[]) (rE eI) ?_ ?_
 . intro i11 x12 s10 hx13
   refine z [7,2,30,31,1,5] ?_;refine b λy14 h15=>?_;refine b λr16 h17=>?_;refine sd ?_;refine zd [[],[],[],[],[],[],[],[]] ?_;refine dd [] (λ_ _ _ _=>c0 (Qaz _ h17)) ?_;refine zd [[]] ?_;refine de fol ?_;refine z [4] ?_;refine c ?_ ?_
   . refine z [2,31,1,8,12] ?_;refine sU ?_;refine z [12,10] ?_;exact rt []
   refine z [9,11] ?_;exact sgo eI
 intro s18
 refine z [13,4,2,31,1,8] ?_;exact rt []
theorem Qvt{n:Nat}{x0}{x1}{x2}:∀ r,Qgd n x0 x1 x2=some r->FnOk Tryz.prog 208 [Ju x0,Qd x1,sli 3 (List.map Qd x2)] [] (bl r) []:=by
 unfold Qgd
 refine fs Tryz.func208 λw S0 γ hγ=>?_;refine z [2] ?_;refine o (bx' 100) ?_;refine o (bx' 101) ?_;refine z [31,1,5,2,33,36,1] ?_;refine c ?_ ?_
 . refine z [5] ?_;refine b λr1 h2=>?_;refine b λr3 h4=>?_;refine sd ?_;refine zd [[101],[100],[100],[100],[100]] ?_;refine dd [] (λ_ _ _ _=>c0 (Qei _ h2)) ?_;refine dd [] (λ_ _ _ _=>c0 (Qaz _ h4)) ?_;refine zd [[]] ?_;refine de fol ?_;refine z [4,8,10] ?_;exact rt []
 refine z [9,4] ?_;refine sjq (λs11=>[(6,bl s11)]) (λs11=>[]) ?_ ?_
 . intro j9 hj10
   refine z [6,32,33,36] ?_;refine cb (ca Qaz) λr12=>?_;refine z [30] ?_;refine sifd 20 rfl ?_ ?_
   . refine z [22,22,22] ?_;refine b λr14 h15=>?_;refine og' (c0 (Qi1 _ h15)) ?_;refine z [38,31,1] ?_;exact sj (hj10 _) (eR [])
   refine z [23,23,23,23,37,31,1] ?_;exact sj (hj10 _) (eR [])
 intro s11
 refine z [8] ?_;exact rt []
theorem Qz0{n:Nat}{x0}:∀ r,Qio n x0=some r->FnOk Tryz.prog 157 [Q5 x0] [] (bl r) []:=by
 unfold Qio
 refine fs Tryz.func157 λw S0 γ hγ=>?_;refine z [2] ?_;refine o (bx' 100) ?_;refine z [31,1,5,2,33,36,39,30,1,7] ?_;refine srN (λs19=>[(1,.own 100),(2,bl false),(8,sli 14 (List.map Ju x0.Tries))]) (λs19=>[(100,.bx 61 (Q5 x0))]) (rE (eR [(100,100)])) ?_ ?_
 . intro i20 x21 s19 hx22
   refine z [7,2,30,43,42] ?_;refine o (al' 101) ?_;refine z [31,34,1,5] ?_;refine sd ?_;refine zd [[100],[100],[100],[100]] ?_;refine dd [102] (λ_ _ _ _=>al' 102) ?_;refine zd [[102],[]] ?_;refine de fol ?_;refine z [4] ?_;refine sjq (λs29=>[(1,.own 100),(2,bl false),(4,.own 101),(5,.own 102),(6,sli 3 (List.map Qd s29.2)),(8,sli 14 (List.map Ju x0.Tries)),(9,i64 (x0.Tries.length:Int)),(10,i64 (i20:Int))]) (λs29=>[(100,.bx 61 (Q5 x0)),(101,.bx 82 (Ju x21)),(102,.bx 53 (Qd s29.1))]) ?_ ?_
   . intro j27 hj28
     refine z [2,30,40,33,36,39,46,1] ?_;refine c ?_ ?_
     . refine b λy30 h31=>?_;refine b λy32 h33=>?_;refine sd ?_;refine zd [[100],[100],[],[]] ?_;refine dx [26,28] [] (λst mm ⟨a26,a28,_⟩ _=>og (ixR (f:=Ju) Tryz.underlying59 ti_82.h h31 rfl (a26.trans rfl) (a28.trans rfl))) ?_;refine zd [[],[],[100],[100],[],[]] ?_;refine dx [33,35] [] (λst mm ⟨a33,a35,_⟩ _=>og (ixR (f:=Ju) Tryz.underlying59 ti_82.h h33 rfl (a33.trans rfl) (a35.trans rfl))) ?_;refine zd [[],[],[102],[]] ?_;refine de fol ?_;refine z [4] ?_;exact sj (hj28 _) (eR [(100,100),(101,101),(102,102)])
     refine z [9,4] ?_;exact sj (hj28 _) (eR [(100,100),(101,101),(102,102)])
   intro s29
   refine z [2,32,32,30] ?_;refine cb (ca Qvt) λr34=>?_;refine z [44,1] ?_;refine c ?_ ?_
   . refine z [2,31,1,8,12] ?_;refine sU ?_;refine z [12,10] ?_;exact rt []
   refine z [9,11] ?_;exact sgo (eR [(100,100)])
 intro s36
 refine z [13,4,2,31,1,8] ?_;exact rt []
theorem Qz1{n:Nat}{x0}:∀ r,Qip n x0=some r->FnOk Tryz.prog 86 [Q5 x0] [] (i64 r) []:=by
 unfold Qip
 refine fs Tryz.func86 λw S0 γ hγ=>?_;refine z [2] ?_;refine o (bx' 100) ?_;refine z [31,1,5,7,2,32] ?_;refine cb (ca Qzy) λr1=>?_;refine z [44,31,1] ?_;refine c ?_ ?_
 . refine z [2,31,1,8,12,10] ?_;exact rt []
 refine z [2,32] ?_;refine cb (ca Qvs) λr3=>?_;refine z [44,31,1] ?_;refine c ?_ ?_
 . refine z [2,31,1,8,12,10] ?_;exact rt []
 refine z [2,33,36,39,47,31,1] ?_;refine c ?_ ?_
 . refine z [2,31,1,8,12,10] ?_;exact rt []
 refine z [2,32] ?_;refine cb (ca Qzz) λr5=>?_;refine z [44,31,1] ?_;refine c ?_ ?_
 . refine z [2,31,1,8,12,10] ?_;exact rt []
 refine z [2,32] ?_;refine cb (ca Qz0) λr7=>?_;refine z [44,31,1] ?_;refine c ?_ ?_
 . refine z [2,31,1,8,12,10] ?_;exact rt []
 refine z [9,11,4,2,31,1,8] ?_;exact rt []
theorem Qz2{n:Nat}{x0}:∀ r,Qfx n x0=some r->FnOk Tryz.prog 27 [Q5 x0] [] (bl r) []:=by
 unfold Qfx
 refine fs Tryz.func27 λw S0 γ hγ=>?_;refine z [2] ?_;refine o (bx' 100) ?_;refine z [31,1,2,32] ?_;refine cb (ca Qz1) λr1=>?_;refine z [41,31,1,8] ?_;exact rt []
theorem Q1c{n:Nat}{x0}{x1}:∀ r,Qj3 n x0 x1=some r->FnOk Tryz.prog 77 [Ju x0,Ju x1] [] (bl r) []:=by
 unfold Qj3
 refine fs Tryz.func77 λw S0 γ hγ=>?_;refine z [2] ?_;refine o (bx' 100) ?_;refine o (bx' 101) ?_;refine z [31,1] ?_;refine sjq (λs13=>[(4,bl s13)]) (λs13=>[]) ?_ ?_
 . intro j11 hj12
   refine sif (λhb14=>?_) (λhb14=>?_)
   . refine b λr15 h16=>?_;refine b λr17 h18=>?_;refine b λr19 h20=>?_;refine sif (λhb21=>?_) (λhb21=>?_)
     . refine b λr22 h23=>?_;refine sd ?_;refine zd [[100],[100],[101],[101],[]] ?_;refine dd [] (λ_ _ _ _=>obk hb14 ops) ?_;refine zd [[100]] ?_;refine dG [] (λ_ _ _ _=>c0 (Yt _ h16)) ?_;refine zd [[101]] ?_;refine dG [] (λ_ _ _ _=>c0 (Yt _ h18)) ?_;refine dG [] (λ_ _ _ _=>c0 (Qi1 _ h20)) ?_;refine zd [[]] ?_;refine dd [] (λ_ _ _ _=>obk hb21 ops) ?_;refine zd [[100],[100],[101],[101]] ?_;refine dG [] (λ_ _ _ _=>c0 (Qi1 _ h23)) ?_;refine zd [[],[]] ?_;refine de fol ?_;refine z [4] ?_;exact sj (hj12 _) (eR [])
     refine sd ?_;refine zd [[100],[100],[101],[101],[]] ?_;refine dd [] (λ_ _ _ _=>obk hb14 ops) ?_;refine zd [[100]] ?_;refine dG [] (λ_ _ _ _=>c0 (Yt _ h16)) ?_;refine zd [[101]] ?_;refine dG [] (λ_ _ _ _=>c0 (Yt _ h18)) ?_;refine dG [] (λ_ _ _ _=>c0 (Qi1 _ h20)) ?_;refine zd [[]] ?_;refine dd [] (λ_ _ _ _=>obk hb21 ops) ?_;refine zd [[],[],[],[],[],[],[]] ?_;refine de fol ?_;refine z [4] ?_;exact sj (hj12 _) (eR [])
   refine sd ?_;refine zd [[100],[100],[101],[101],[]] ?_;refine dd [] (λ_ _ _ _=>obk hb14 ops) ?_;refine zd [[],[],[],[],[],[],[],[],[],[],[],[],[],[]] ?_;refine de fol ?_;refine z [4] ?_;exact sj (hj12 _) (eR [])
 intro s13
 refine z [8] ?_;exact rt []
theorem Q1d{n:Nat}{x0}{x1}:∀ r,Qgy n x0 x1=some r->FnOk Tryz.prog 21 [Q5 x0,Q5 x1] [] (bl r) []:=by
 unfold Qgy
 refine fs Tryz.func21 λw S0 γ hγ=>?_;refine z [2] ?_;refine o (bx' 100) ?_;refine o (bx' 101) ?_;refine z [31,1,5] ?_;refine sjq (λs7=>[(2,.own 100),(3,.own 101),(4,bl false),(29,bl s7)]) (λs7=>[(100,.bx 61 (Q5 x0)),(101,.bx 61 (Q5 x1))]) ?_ ?_
 . intro j5 hj6
   refine z [6,33,36,39,33,36,39,56,30] ?_;refine sifd 14 rfl ?_ ?_
   . refine z [23,23,23,23,23,23,38,30,23,23,23,23,23,23,38,1] ?_;exact sj (hj6 _) (eR [(100,100),(101,101)])
   refine z [22,22,22,22] ?_;refine b λr8 h9=>?_;refine og' (c0 (Qaz _ h9)) ?_;refine z [22,37,30] ?_;refine sifd 22 rfl ?_ ?_
   . refine z [23,23,23,23,23,23,38,1] ?_;exact sj (hj6 _) (eR [(100,100),(101,101)])
   refine z [22,22,22,22] ?_;refine b λr10 h11=>?_;refine og' (c0 (Qi1 _ h11)) ?_;refine z [22,37,1] ?_;exact sj (hj6 _) (eR [(100,100),(101,101)])
 intro s7
 refine c ?_ ?_
 . refine z [2,31,1,8,10] ?_;exact rt []
 refine z [9,4,5,2,33,36,39,30,1,7] ?_;refine srN (λs21=>[(3,.own 101),(4,bl false),(31,sli 14 (List.map Ju x0.Tries))]) (λs21=>[(101,.bx 61 (Q5 x1))]) (rE (eR [(101,101)])) ?_ ?_
 . intro i22 x23 s21 hx24
   refine z [7,2,30,43,42] ?_;refine o (al' 102) ?_;refine z [31,34,1,5] ?_;refine b λy25 h26=>?_;refine b λr27 h28=>?_;refine sd ?_;refine zd [[102],[101],[101],[],[],[]] ?_;refine dd [] (λ_ _ _ _=>c0 (Q1c _ h28)) ?_;refine zd [[]] ?_;refine de fol ?_;refine z [4] ?_;refine c ?_ ?_
   . refine z [2,31,1,8,12] ?_;refine sU ?_;refine z [12,10] ?_;exact rt []
   refine z [9,11] ?_;exact sgo (eR [(101,101)])
 intro s29
 refine z [13,4,2,31,1,8] ?_;exact rt []
end Go.Proofs.YtlihkcaoachkdaaGreatDoor
