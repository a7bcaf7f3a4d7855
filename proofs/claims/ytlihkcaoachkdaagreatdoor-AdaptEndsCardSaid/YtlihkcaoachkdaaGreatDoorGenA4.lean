import Derived.Test.YtlihkcaoachkdaaGreatDoorGen0
import Derived.Test.YtlihkcaoachkdaaGreatDoorGenA1
import Derived.Test.YtlihkcaoachkdaaGreatDoorGenA2
import Derived.Test.YtlihkcaoachkdaaGreatDoorGenA3
set_option maxRecDepth 100000
set_option maxHeartbeats 4000000
namespace Go.Proofs.YtlihkcaoachkdaaGreatDoor
open Go Go.RowKit
theorem Que{n:Nat}{x0}{x1}{x2}:∀ r,Qge n x0 x1 x2=some r->FnOk Tryz.prog 298 [Ju x0,Y2 x1,i64 x2] [] (.tup [sli 3 (List.map Qb r.1),Qi r.2]) []:=by
 unfold Qge
 refine fs Tryz.func298 λw S0 γ hγ=>?_;refine z [2] ?_;refine o (bx' 100) ?_;refine o (bx' 101) ?_;refine s1 (asg rfl (kLm (k:=3) Qb)) ?_;refine o (al' 102) ?_;refine z [1,2,32] ?_;refine cb (ca Qsy) λr1=>?_;refine z [34,1,2,30] ?_;refine b λr3 h4=>?_;refine o (cG (Qlv _ h4) [] [(103,50)] []) ?_;refine s1 (bld (l:=[.own 103]) Qy8.h Qrh.h (K9 (Qk (c1:=[.pointer none]) Qmt (Kd))) ⟨_,_,_,rfl,rfl,rfl,rfl,(szk (k:=1) rfl rfl),rfl⟩ rfl) ?_;refine s1 (bld (l:=[.agg [.own 103]]) Qy9.h Qri.h (K9 (Qk (c1:=[.pointer none]) (K9 (Qk (c1:=[.pointer none]) Qmt (Kd))) (Kd))) ⟨_,_,_,rfl,rfl,rfl,rfl,(szk (k:=1) rfl rfl),rfl⟩ rfl) ?_;refine so (al (y:=104) (ly:=.agg [.agg [.por 0]]) Qri.h (K9 (Qk (c1:=[.pointer none]) (K9 (Qk (c1:=[.pointer none]) Qmt (Kd))) (Kd))) rfl rfl) ?_;refine z [34,1,2,32,32,33,36,33,36,33,36] ?_;refine s1 (bld (l:=[Qb r1.T,sli 3 (List.map Qb r1.Y),sli 3 (List.map Qb r1.P)]) Qza.h Qvc.h Qg1 ⟨_,_,_,rfl,rfl,rfl,rfl,(szk (k:=3) rfl rfl),⟨_,_,_,rfl,rfl,rfl,rfl,(szk (k:=1) rfl rfl),⟨_,_,_,rfl,rfl,rfl,rfl,(szk (k:=1) rfl rfl),rfl⟩⟩⟩ rfl) ?_;refine b λr5 h6=>?_;refine o (cG (Qaq _ h6) [103] [] []) ?_;refine z [35,35,31,34,1,8] ?_;exact rt []
theorem Quf{n:Nat}{x0}{x1}:∀ r,Qgf n x0 x1=some r->FnOk Tryz.prog 299 [Ju x0,sli 3 (List.map Qb x1)] [] (sli 3 (List.map Qb r)) []:=by
 unfold Qgf
 refine fs Tryz.func299 λw S0 γ hγ=>?_;refine z [2] ?_;refine o (bx' 100) ?_;refine s1 (asg rfl (kLm (k:=3) Qb)) ?_;refine z [1,5] ?_;refine sjq (λs5=>[(1,sli 3 (List.map Qb x1)),(2,.own 100),(4,sli 3 (List.map Qb ([]:List Qa))),(18,bl s5)]) (λs5=>[(100,.bx 43 (Ju x0))]) ?_ ?_
 . intro j3 hj4
   refine z [6,32] ?_;refine cb (ca Qg7) λr6=>?_;refine z [44,30] ?_;refine sifd 11 rfl ?_ ?_
   . refine z [23,23,23,23,23,23,38,1] ?_;exact sj (hj4 _) (eR [(100,100)])
   refine z [22,22,22,22,22,22,37,1] ?_;exact sj (hj4 _) (eR [(100,100)])
 intro s5
 refine c ?_ ?_
 . refine z [2] ?_;refine s1 (asg rfl (kLm (k:=3) Qb)) ?_;refine z [1,8,10] ?_;exact rt []
 refine z [9,4,2] ?_;refine so (asgN (y:=101) (E:=53) (k:=3) rfl rfl) ?_;refine z [1,5,2,33,36,39,30,1,7] ?_;refine srN (λs29=>[(1,sli 3 (List.map Qb x1)),(4,sli 3 (List.map Qb ([]:List Qa))),(5,.own 101),(20,sli 1 (List.map i64 x0.Outs))]) (λs29=>[(101,.sl 53 3 (List.map Qb s29))]) (rE (eR [(101,101)])) ?_ ?_
 . intro i30 x31 s29 hx32
   refine z [7,2,43,42,31,1,6,30,30,30] ?_;refine b λy33 h34=>?_;refine z [43,42] ?_;refine cb (ca J0) λr35=>?_
   refine so (bsl (y:=102) (ls:=List.map Qb ([r35]:List Qa)) Tryz.underlying44 ti_53.h rfl rfl rfl rfl rfl ⟨rfl,rfl,(by exact rfl),(by exact rfl),trivial⟩ rfl rfl) ?_
   refine b λy37 h38=>?_;refine o (app' 103) ?_;refine z [31,3,11] ?_;exact sgo (eR [(101,103)])
 intro s39
 refine z [13,4,2,30,31,1,8] ?_;refine fz 101 [4,5,35] [] ?_;exact rt []
theorem Qsz{n:Nat}{x0}{x1}{x2}:∀ r,Qc2 n x0 x1 x2=some r->FnOk Tryz.prog 260 [Ju x0,Y2 x1,i64 x2] [] (.tup [sli 3 (List.map Qb r.1),Qi r.2]) []:=by
 unfold Qc2
 refine fs Tryz.func260 λw S0 γ hγ=>?_;refine z [2] ?_;refine o (bx' 100) ?_;refine o (bx' 101) ?_;refine s1 (asg rfl (kLm (k:=3) Qb)) ?_;refine o (al' 102) ?_;refine z [1,2,32,32,30] ?_;refine cb (ca Que) λr1=>?_;refine z [30,35,35] ?_;refine o (al' 103) ?_;refine z [31,34,1,5,2,32] ?_;refine s1 (bld (l:=[i64 0,i64 0,i64 0,i64 0]) pl_63.h ti_63.h Ql rfl rfl) ?_;refine s1 (neA (p:=(r1.2:Qc)) (q:=((⟨0,0,0,0⟩:Qc):Qc)) J9 rfl eg_63 rfl rfl rfl) ?_;refine z [1] ?_;refine c ?_ ?_
 . refine z [5] ?_;refine sd ?_;refine zd [[103]] ?_;refine dx [] [] (λst mm _ _=>og (asg rfl (kLm (k:=3) Qb))) ?_;refine zd [[102]] ?_;refine de fol ?_;refine z [4,8,10] ?_;exact rt []
 refine z [9,4,5] ?_;refine b λr3 h4=>?_;refine sd ?_;refine zd [[100],[]] ?_;refine dd [] (λ_ _ _ _=>c0 (Quf _ h4)) ?_;refine zd [[103],[],[102]] ?_;refine de fol ?_;refine z [4,8] ?_;exact rt []
theorem Qip{n:Nat}{x0_p}{x0_t}{x0_h}{x0_y}{x0_g}{x0_out_Ys}{x0_out_Ks}{x0_out_Next}{x0_out_Err}{x1}:∀ r,Vg n x0_p x0_t x0_h x0_y x0_g x0_out_Ys x0_out_Ks x0_out_Next x0_out_Err x1=some r->FnOk Tryz.prog 218 [.own 0,i64 x1] [(0,.bx 247 (.agg [Qv x0_p,Qb x0_t,Qb x0_h,sli 3 (List.map Qb x0_y),.own 1,.agg [.own 2,.own 3,sli 3 (List.map Qb x0_out_Next),sli 3 (List.map Qb x0_out_Err)]])),(1,.bx 298 (Qm x0_g)),(2,.sl 44 1 (List.map Qe x0_out_Ys)),(3,.sl 44 1 (List.map Qe x0_out_Ks))] (Qi r.1) [(0,.bx 247 (.agg [Qv r.2.1,Qb r.2.2.1,Qb r.2.2.2.1,sli 3 (List.map Qb r.2.2.2.2.1),.own 1,.agg [.own 62,.own 63,sli 3 (List.map Qb r.2.2.2.2.2.1),sli 3 (List.map Qb r.2.2.2.2.2.2.1)]])),(1,.bx 298 (Qm r.2.2.2.2.2.2.2.1)),(2,.gone),(3,.gone),(62,.sl 44 1 (List.map Qe r.2.2.2.2.2.2.2.2.1)),(63,.sl 44 1 (List.map Qe r.2.2.2.2.2.2.2.2.2))]:=by
 unfold Vg
 refine fs Tryz.func218 λw S0 γ hγ=>?_;refine z [2] ?_;refine o (al' 100) ?_;refine z [1,2,30,30,48,33,45,45,36,30] ?_;refine b λy1 h2=>?_;refine z [43,42] ?_;refine b λr3 h4=>?_;refine o (cG (Qem _ h4) [0,1,2,3] [] [0,1,2,3]) ?_;refine z [31,1,5,2,30,30,30] ?_;refine b λr5 h6=>?_;refine o (cG (Qa0 _ h6) [0,1,2,3] [] [0,2,3]) ?_;refine o (al' 101) ?_;refine z [34,1,2,32] ?_;refine s1 (bld (l:=[i64 0,i64 0,i64 0,i64 0]) pl_63.h ti_63.h Ql rfl rfl) ?_;refine s1 (neA (p:=(r5.1:Qc)) (q:=((⟨0,0,0,0⟩:Qc):Qc)) J9 rfl eg_63 rfl rfl rfl) ?_;refine z [1] ?_;refine c ?_ ?_
 . refine z [2,32,34,1,8,10] ?_;exact rt [(0,0),(1,1),(2,2),(3,3),(62,2),(63,3)]
 refine z [9,4,5] ?_;refine b λr7 h8=>?_;refine b λr9 h10=>?_;refine b λr11 h12=>?_;refine sd ?_;refine zd [[],[0],[0],[],[0],[],[0],[0],[0],[],[0],[0],[0],[],[0],[0],[0],[],[0],[0],[0],[]] ?_;refine dd [] (λ_ _ _ _=>c0 (Qqe _ h8)) ?_;refine zd [[]] ?_;refine dd [] (λ_ _ _ _=>c0 (Qvg _ h10)) ?_;refine zd [[],[0],[0],[],[0]] ?_;refine dd [] (λ_ _ _ _=>c0 (Qsz _ h12)) ?_;refine zd [[],[],[]] ?_;refine dd [102] (λ_ _ _ _=>al' 102) ?_;refine zd [[],[102]] ?_;refine de fol ?_;refine z [4,5,2,32] ?_;refine s1 (bld (l:=[i64 0,i64 0,i64 0,i64 0]) pl_63.h ti_63.h Ql rfl rfl) ?_;refine s1 (neA (p:=(r11.2:Qc)) (q:=((⟨0,0,0,0⟩:Qc):Qc)) J9 rfl eg_63 rfl rfl rfl) ?_;refine z [1] ?_;refine c ?_ ?_
 . refine z [2,30,33] ?_;refine o (stP (Qi (⟨r11.2.Kind,r11.2.Step,x1,r11.2.At⟩:Qc)) [2]) ?_;refine z [1,2,32,34,1,8,10] ?_;exact rt [(0,0),(1,1),(2,2),(3,3),(62,2),(63,3)]
 refine z [9,4,2,30,30,48,33,45,36,30] ?_
 refine so (bsl (y:=103) (ls:=List.map Qe ([r3]:List (List Qa))) Tryz.underlying45 ti_44.h rfl rfl rfl rfl rfl ⟨rfl,rfl,(by exact rfl),(by exact rfl),trivial⟩ rfl rfl) ?_
 refine b λy13 h14=>?_;refine o (app' 104) ?_;refine z [48,33,45] ?_;refine o (stP (.agg [Qv x0_p,Qb x0_t,Qb x0_h,sli 3 (List.map Qb x0_y),.own 1,.agg [.own 104,.own 3,sli 3 (List.map Qb x0_out_Next),sli 3 (List.map Qb x0_out_Err)]]) [5,0]) ?_;refine z [1,2,30,30,48,33,45,36,30] ?_
 refine so (bsl (y:=105) (ls:=List.map Qe ([r11.1]:List (List Qa))) Tryz.underlying45 ti_44.h rfl rfl rfl rfl rfl ⟨rfl,rfl,(by exact rfl),(by exact rfl),trivial⟩ rfl rfl) ?_
 refine b λy15 h16=>?_;refine o (app' 106) ?_;refine z [48,33,45] ?_;refine o (stP (.agg [Qv x0_p,Qb x0_t,Qb x0_h,sli 3 (List.map Qb x0_y),.own 1,.agg [.own 104,.own 106,sli 3 (List.map Qb x0_out_Next),sli 3 (List.map Qb x0_out_Err)]]) [5,1]) ?_;refine z [1,2,32,34,1,8] ?_;exact rt [(0,0),(1,1),(2,2),(3,3),(62,104),(63,106)]
theorem Qvh{n:Nat}{x0}{x1}:∀ r,Qhl n x0 x1=some r->FnOk Tryz.prog 265 [sli 3 (List.map Qb x0),sli 3 (List.map Qb x1)] [] (.tup [sli 3 (List.map Qb r.1),bl r.2]) []:=by
 unfold Qhl
 refine fs Tryz.func265 λw S0 γ hγ=>?_;refine z [2] ?_;refine s1 (asg rfl (kLm (k:=3) Qb)) ?_;refine z [31,1,2,30] ?_;refine cb (ca J3) λr1=>?_;refine z [30] ?_;refine b λr3 h4=>?_;refine o (cG (Qc5 _ h4) [] [(100,50)] []) ?_;refine fz 100 [9] [] ?_
 refine so (bsl (y:=101) (ls:=List.map Qe ([x0,r3]:List (List Qa))) Tryz.underlying45 ti_44.h rfl rfl rfl rfl rfl ⟨rfl,rfl,(by exact rfl),(by exact rfl),rfl,rfl,(by exact rfl),(by exact rfl),trivial⟩ rfl rfl) ?_
 refine fz 101 [10] [] ?_;refine cb (ca Qpn) λr5=>?_;refine z [35,35,31,31,1,8] ?_;exact rt []
theorem Qrw{n:Nat}{x0}:∀ r,Qag n x0=some r->FnOk Tryz.prog 221 [Q3 x0] [] (sli 3 (List.map Qb r)) []:=by
 unfold Qag
 refine fs Tryz.func221 λw S0 γ hγ=>?_;refine z [2] ?_;refine o (bx' 100) ?_;refine s1 (asg rfl (kLm (k:=3) Qb)) ?_;refine z [1,5] ?_;refine sjq (λs5=>[(1,.own 100),(2,sli 3 (List.map Qb ([]:List Qa))),(13,bl s5)]) (λs5=>[(100,.bx 47 (Q3 x0))]) ?_ ?_
 . intro j3 hj4
   refine z [6,32] ?_;refine cb (ca Qil) λr6=>?_;refine z [44,30] ?_;refine sifd 8 rfl ?_ ?_
   . refine z [23,23,23,23,38,1] ?_;exact sj (hj4 _) (eR [(100,100)])
   refine z [22,22,22,22,37,1] ?_;exact sj (hj4 _) (eR [(100,100)])
 intro s5
 refine c ?_ ?_
 . refine z [2] ?_;refine s1 (asg rfl (kLm (k:=3) Qb)) ?_;refine z [1,8,10] ?_;exact rt []
 refine z [9,4,2,33,36,33,36] ?_;refine cb (ca Qvh) λr8=>?_;refine z [30,35,35,31,31,1,2,30,31,1,8] ?_;exact rt []
theorem Qj9{n:Nat}{x0_p}{x0_t}{x0_h}{x0_y}{x0_g}{x0_out_Ys}{x0_out_Ks}{x0_out_Next}{x0_out_Err}:∀ r,Xq n x0_p x0_t x0_h x0_y x0_g x0_out_Ys x0_out_Ks x0_out_Next x0_out_Err=some r->FnOk Tryz.prog 171 [.own 0] [(0,.bx 247 (.agg [Qv x0_p,Qb x0_t,Qb x0_h,sli 3 (List.map Qb x0_y),.own 1,.agg [.own 2,.own 3,sli 3 (List.map Qb x0_out_Next),sli 3 (List.map Qb x0_out_Err)]])),(1,.bx 298 (Qm x0_g)),(2,.sl 44 1 (List.map Qe x0_out_Ys)),(3,.sl 44 1 (List.map Qe x0_out_Ks))] (Qi r.1) [(0,.bx 247 (.agg [Qv r.2.1,Qb r.2.2.1,Qb r.2.2.2.1,sli 3 (List.map Qb r.2.2.2.2.1),.own 1,.agg [.own 62,.own 63,sli 3 (List.map Qb r.2.2.2.2.2.1),sli 3 (List.map Qb r.2.2.2.2.2.2.1)]])),(1,.bx 298 (Qm r.2.2.2.2.2.2.2.1)),(2,.gone),(3,.gone),(62,.sl 44 1 (List.map Qe r.2.2.2.2.2.2.2.2.1)),(63,.sl 44 1 (List.map Qe r.2.2.2.2.2.2.2.2.2))]:=by
 unfold Xq
 refine fs Tryz.func171 λw S0 γ hγ=>?_;refine z [2] ?_;refine o (al' 100) ?_;refine z [1,2,30,48,33,45,36] ?_;refine o (al' 101) ?_;refine z [34,1,5,2,33,36,39,30,1,7] ?_;refine srN (λs14=>[(0,.own 0),(2,.own 100),(3,.own 101)]) (λs14=>[(2,.gone),(3,.gone),(0,.bx 247 (.agg [Qv s14.1,Qb s14.2.1,Qb s14.2.2.1,sli 3 (List.map Qb s14.2.2.2.1),.own 1,.agg [.own 102,.own 103,sli 3 (List.map Qb s14.2.2.2.2.2.2.2.1),sli 3 (List.map Qb s14.2.2.2.2.2.2.2.2)]])),(1,.bx 298 (Qm s14.2.2.2.2.1)),(102,.sl 44 1 (List.map Qe s14.2.2.2.2.2.1)),(103,.sl 44 1 (List.map Qe s14.2.2.2.2.2.2.1)),(100,.bx 63 (Qi (⟨0,0,0,0⟩:Qc))),(101,.bx 47 (Q3 x0_p.Scheme))]) (rE (eR [(2,2),(3,3),(0,0),(1,1),(102,2),(103,3),(100,100),(101,101)])) ?_ ?_
 . intro i15 x16 s14 hx17
   refine z [7,2,30,31,1,2,30,30] ?_;refine b λr18 h19=>?_;refine o (cG (Qip _ h19) [0,1,102,103] [(104,62),(105,63)] []) ?_;refine o (al' 106) ?_;refine z [34,1,2,32] ?_;refine s1 (bld (l:=[i64 0,i64 0,i64 0,i64 0]) pl_63.h ti_63.h Ql rfl rfl) ?_;refine s1 (neA (p:=(r18.1:Qc)) (q:=((⟨0,0,0,0⟩:Qc):Qc)) J9 rfl eg_63 rfl rfl rfl) ?_;refine z [1] ?_;refine c ?_ ?_
   . refine z [2,32,34,1,8,12] ?_;refine sU ?_;refine z [12,10] ?_;exact rt [(0,0),(1,1),(2,2),(3,3),(62,104),(63,105)]
   refine z [9,11] ?_;exact sgo (eR [(2,2),(3,3),(0,0),(1,1),(102,104),(103,105),(100,100),(101,101)])
 intro s20
 refine z [13,4,2,30,30,33,36] ?_;refine b λr21 h22=>?_;refine o (cG (Qem _ h22) [0,1,102,103] [] [0,1,102,103]) ?_;refine z [48,33,45] ?_;refine o (stP (.agg [Qv s20.1,Qb s20.2.1,Qb s20.2.2.1,sli 3 (List.map Qb s20.2.2.2.1),.own 1,.agg [.own 102,.own 103,sli 3 (List.map Qb r21),sli 3 (List.map Qb s20.2.2.2.2.2.2.2.2)]]) [5,2]) ?_;refine z [1,5,5] ?_;refine b λr23 h24=>?_;refine sd ?_;refine zd [[],[],[0],[0],[],[0],[101],[101],[]] ?_;refine dd [0,1,102,103] (λ_ _ _ _=>cG (Qa0 _ h24) [0,1,102,103] [] [0,102,103]) ?_;refine dd [104] (λ_ _ _ _=>al' 104) ?_;refine zd [[104]] ?_;refine de fol ?_;refine z [4,2,32] ?_;refine s1 (bld (l:=[i64 0,i64 0,i64 0,i64 0]) pl_63.h ti_63.h Ql rfl rfl) ?_;refine s1 (neA (p:=(r23.1:Qc)) (q:=((⟨0,0,0,0⟩:Qc):Qc)) J9 rfl eg_63 rfl rfl rfl) ?_;refine z [1] ?_;refine c ?_ ?_
 . refine z [2,32,34,1,8,10] ?_;exact rt [(0,0),(1,1),(2,2),(3,3),(62,102),(63,103)]
 refine z [9,4] ?_;refine sjq (λs31=>[(0,.own 0),(2,.own 100),(3,.own 101)]) (λs31=>[(2,.gone),(3,.gone),(0,.bx 247 (.agg [Qv s20.1,Qb s20.2.1,Qb s20.2.2.1,sli 3 (List.map Qb s20.2.2.2.1),.own 1,.agg [.own 102,.own 103,sli 3 (List.map Qb r21),sli 3 (List.map Qb s31)]])),(1,.bx 298 (Qm r23.2)),(102,.sl 44 1 (List.map Qe s20.2.2.2.2.2.1)),(103,.sl 44 1 (List.map Qe s20.2.2.2.2.2.2.1)),(100,.bx 63 (Qi (⟨0,0,0,0⟩:Qc))),(101,.bx 47 (Q3 x0_p.Scheme))]) ?_ ?_
 . intro j29 hj30
   refine z [2,32] ?_;refine cb (ca Qrw) λr32=>?_;refine z [31,1,2,30,39,47,1] ?_;refine c ?_ ?_
   . refine z [6,30,30,30] ?_;refine b λr34 h35=>?_;refine o (cG (Qc6 _ h35) [0,1,102,103] [] [0,1,102,103]) ?_;refine z [48,33,45] ?_;refine o (stP (.agg [Qv s20.1,Qb s20.2.1,Qb s20.2.2.1,sli 3 (List.map Qb s20.2.2.2.1),.own 1,.agg [.own 102,.own 103,sli 3 (List.map Qb r21),sli 3 (List.map Qb r34)]]) [5,3]) ?_;refine z [1] ?_;exact sj (hj30 _) (eR [(2,2),(3,3),(0,0),(1,1),(102,102),(103,103),(100,100),(101,101)])
   refine z [9,4] ?_;exact sj (hj30 _) (eR [(2,2),(3,3),(0,0),(1,1),(102,102),(103,103),(100,100),(101,101)])
 intro s31
 refine z [5] ?_;refine b λr36 h37=>?_;refine sd ?_;refine zd [[],[],[0],[0],[],[0],[101],[101],[],[]] ?_;refine dd [0,1,102,103] (λ_ _ _ _=>cG (Qa0 _ h37) [0,1,102,103] [] [0,102,103]) ?_;refine zd [[100]] ?_;refine de fol ?_;refine z [4,8] ?_;exact rt [(0,0),(1,1),(2,2),(3,3),(62,102),(63,103)]
theorem Qpo{n:Nat}{x0}{x1}{x2}{x3}:∀ r,Qb6 n x0 x1 x2 x3=some r->FnOk Tryz.prog 105 [Qv x0,Qb x1,Qb x2,sli 3 (List.map Qb x3)] [] (.tup [Qfh r.1,Qi r.2]) []:=by
 unfold Qb6
 refine fs Tryz.func105 λw S0 γ hγ=>?_;refine z [2] ?_;refine o (bx' 100) ?_;refine o (bx' 101) ?_;refine o (bx' 102) ?_;refine o (al' 103) ?_;refine o (al' 104) ?_;refine z [1,5] ?_;refine sjq (λs5=>[(3,sli 3 (List.map Qb x3)),(4,.own 100),(5,.own 101),(6,.own 102),(8,.own 103),(9,.own 104),(22,bl s5)]) (λs5=>[(100,.bx 49 (Qv x0)),(101,.bx 53 (Qb x1)),(102,.bx 53 (Qb x2)),(103,.bx 183 (Qfh (⟨[],[],[],[]⟩:W8))),(104,.bx 63 (Qi (⟨0,0,0,0⟩:Qc)))]) ?_ ?_
 . intro j3 hj4
   refine z [6,32] ?_;refine cb (ca Qg8) λr6=>?_;refine z [44,30] ?_;refine sifd 15 rfl ?_ ?_
   . refine z [23,23,23,23,23,23,38,1] ?_;exact sj (hj4 _) (eR [(100,100),(101,101),(102,102),(103,103),(104,104)])
   refine z [22,22,22,22,22,22,37,1] ?_;exact sj (hj4 _) (eR [(100,100),(101,101),(102,102),(103,103),(104,104)])
 intro s5
 refine c ?_ ?_
 . refine z [2] ?_;refine s1 (bld (l:=[sli 1 (List.map Qe []),sli 1 (List.map Qe []),sli 3 (List.map Qb []),sli 3 (List.map Qb [])]) Qva.h Qkj.h Qg0 rfl rfl) ?_;refine s1 (bld (l:=[i64 (2:Int),i64 0,i64 0,i64 0]) pl_63.h ti_63.h Ql ⟨_,_,_,(kI (x:=2) rfl),rfl,rfl,rfl,(szk (k:=1) rfl rfl),rfl⟩ rfl) ?_;refine z [34,34,1,8,10] ?_;exact rt []
 refine z [9,4,5] ?_;refine b λr8 h9=>?_;refine sd ?_;refine zd [[100],[101],[102],[],[100],[100]] ?_;refine dd [105] (λ_ _ _ _=>cG (Qlv _ h9) [] [(105,50)] []) ?_;refine dx [25,26,27,28,31] [106,107] (λst mm ⟨a25,a26,a27,a28,a31,_⟩ ⟨g106,g107,_⟩=>og (bldO (l:=[Qv x0,Qb x1,Qb x2,sli 3 (List.map Qb x3),.own 105,.agg [.own 106,.own 107,sli 3 (List.map Qb []),sli 3 (List.map Qb [])]]) [(106,44,1),(107,44,1)] Qy6.h Qy5.h (Qih (Kj (c1:=[.slice none 0 0,.slice none 0 0,.int .i64 0,.int .i64 0,.string ⟨#[]⟩,.slice none 0 0,.slice none 0 0,.slice none 0 0,.slice none 0 0,.slice none 0 0,.int .i64 0]) (zo_of Zt) (Kj (c1:=[.bool false,.slice none 0 0,.slice none 0 0]) (zo_of Jb) (Kj (c1:=[.bool false,.slice none 0 0,.slice none 0 0]) (zo_of Jb) (Kj (c1:=[.slice none 0 0]) (zo_of (Kv (k:=3))) (Kj (c1:=[.pointer none]) (zo_of Qmt) (Kj (c1:=[.slice none 0 0,.slice none 0 0,.slice none 0 0,.slice none 0 0]) (Qih (Kj (c1:=[.slice none 0 0]) (Qgu rfl) (Kj (c1:=[.slice none 0 0]) (Qgu rfl) (Kj (c1:=[.slice none 0 0]) (zo_of (Kv (k:=3))) (Kj (c1:=[.slice none 0 0]) (zo_of (Kv (k:=3))) (Qgn)))))) (Qgn)))))))) ⟨(g106.trans rfl),(g107.trans rfl),trivial⟩ rfl ⟨_,_,_,(a25.trans rfl),rfl,rfl,rfl,(szk (k:=11) rfl rfl),⟨_,_,_,(a26.trans rfl),rfl,rfl,rfl,(szk (k:=3) rfl rfl),⟨_,_,_,(a27.trans rfl),rfl,rfl,rfl,(szk (k:=3) rfl rfl),⟨_,_,_,(a28.trans rfl),rfl,rfl,rfl,(szk (k:=1) rfl rfl),⟨_,_,_,(a31.trans rfl),rfl,rfl,rfl,(szk (k:=1) rfl rfl),rfl⟩⟩⟩⟩⟩ rfl)) ?_;refine dd [108] (λ_ _ _ _=>bx' 108) ?_;refine zd [[]] ?_;refine de fol ?_;refine z [4,5,2,30] ?_;refine b λr10 h11=>?_;refine o (cG (Qj9 _ h11) [108,105,106,107] [(109,62),(110,63)] []) ?_;refine o (al' 111) ?_;refine z [34,1,2,32] ?_;refine s1 (bld (l:=[i64 0,i64 0,i64 0,i64 0]) pl_63.h ti_63.h Ql rfl rfl) ?_;refine s1 (neA (p:=(r10.1:Qc)) (q:=((⟨0,0,0,0⟩:Qc):Qc)) J9 rfl eg_63 rfl rfl rfl) ?_;refine z [1] ?_;refine c ?_ ?_
 . refine z [5] ?_;refine sd ?_;refine dx [] [] (λst mm _ _=>og (bld (l:=[sli 1 (List.map Qe []),sli 1 (List.map Qe []),sli 3 (List.map Qb []),sli 3 (List.map Qb [])]) Qva.h Qkj.h Qg0 rfl rfl)) ?_;refine zd [[111],[103],[104]] ?_;refine de fol ?_;refine z [4,8,10] ?_;exact rt []
 refine z [9,4,2,30,48,33,36] ?_;refine s1 (bld (l:=[i64 0,i64 0,i64 0,i64 0]) pl_63.h ti_63.h Ql rfl rfl) ?_;refine z [34,34,1,8] ?_;refine fz 109 [44] [103,108] ?_;refine fz 110 [44] [103,108] ?_;exact rt []
theorem Qug{n:Nat}{x0}:∀ r,Qeb n x0=some r->FnOk Tryz.prog 173 [Qb x0] [] (Qb r) []:=by
 unfold Qeb
 refine fs Tryz.func173 λw S0 γ hγ=>?_;refine z [2] ?_;refine o (bx' 100) ?_;refine o (al' 101) ?_;refine z [1,2,32] ?_;refine cb (ca J0) λr1=>?_;refine o (al' 102) ?_;refine z [34,1,2,33,45] ?_;refine o (stP (Qb (⟨(⟨false,r1.Num.Abs⟩:Qd),r1.Den⟩:Qa)) [0,0]) ?_;refine z [1,2,32,34,1,8] ?_;exact rt []
theorem Quh{n:Nat}{x0}:∀ r,Qec n x0=some r->FnOk Tryz.prog 172 [sli 3 (List.map Qb x0)] [] (Qb r) []:=by
 unfold Qec
 refine fs Tryz.func172 λw S0 γ hγ=>?_;refine z [2] ?_;refine o (al' 100) ?_;refine z [1,2] ?_;refine cb (ca J3) λr1=>?_;refine o (al' 101) ?_;refine z [34,1,5,2,30,39,30,1,7] ?_;refine srN (λs30=>[(2,.own 100),(3,.own 101),(7,sli 3 (List.map Qb x0))]) (λs30=>[(100,.bx 53 (Qb (⟨(⟨false,[]⟩:Qd),[]⟩:Qa))),(101,.bx 53 (Qb s30))]) (rE (eR [(100,100),(101,101)])) ?_ ?_
 . intro i31 x32 s30 hx33
   refine z [7,2,30,43,42] ?_;refine o (al' 102) ?_;refine z [31,34,1] ?_;refine sjq (λs38=>[(2,.own 100),(3,.own 101),(5,.own 102),(7,sli 3 (List.map Qb x0)),(8,i64 (x0.length:Int)),(9,i64 (i31:Int)),(21,bl s38)]) (λs38=>[(100,.bx 53 (Qb (⟨(⟨false,[]⟩:Qd),[]⟩:Qa))),(101,.bx 53 (Qb s30)),(102,.bx 53 (Qb x32))]) ?_ ?_
   . intro j36 hj37
     refine z [6,30,41,30] ?_;refine sifd 16 rfl ?_ ?_
     . refine z [23,23,23,23,38,1] ?_;exact sj (hj37 _) (eR [(100,100),(101,101),(102,102)])
     refine z [22,22] ?_;refine b λr39 h40=>?_;refine og' (c0 (Wy _ h40)) ?_;refine z [22,37,1] ?_;exact sj (hj37 _) (eR [(100,100),(101,101),(102,102)])
   intro s38
   refine c ?_ ?_
   . refine z [6,32] ?_;refine cb (ca J0) λr41=>?_;refine z [34,3,11] ?_;exact sgo (eR [(100,100),(101,101)])
   refine z [9,11] ?_;exact sgo (eR [(100,100),(101,101)])
 intro s43
 refine z [13,4,2,32,34,1,8] ?_;exact rt []
theorem Qm3{n:Nat}{x0}:∀ r,Zq n x0=some r->FnOk Tryz.prog 106 [sli 3 (List.map Qb x0)] [] (Qb r) []:=by
 unfold Zq
 refine fs Tryz.func106 λw S0 γ hγ=>?_;refine z [2] ?_;refine o (al' 100) ?_;refine z [1,2] ?_;refine cb (ca J3) λr1=>?_;refine o (al' 101) ?_;refine z [34,1,5,2,30,39,30,1,7] ?_;refine srN (λs22=>[(2,.own 100),(3,.own 101),(7,sli 3 (List.map Qb x0))]) (λs22=>[(100,.bx 53 (Qb (⟨(⟨false,[]⟩:Qd),[]⟩:Qa))),(101,.bx 53 (Qb s22))]) (rE (eR [(100,100),(101,101)])) ?_ ?_
 . intro i23 x24 s22 hx25
   refine z [7,2,43,42] ?_;refine o (al' 102) ?_;refine z [34,1] ?_;refine b λr26 h27=>?_;refine b λr28 h29=>?_;refine sd ?_;refine zd [[101],[102]] ?_;refine dd [] (λ_ _ _ _=>c0 (Qug _ h27)) ?_
   refine dx [13,15] [103] (λst mm ⟨a13,a15,_⟩ ⟨g103,_⟩=>og (toV (bsl (y:=103) (ls:=List.map Qb ([s22,r26]:List Qa)) Tryz.underlying44 ti_53.h rfl rfl rfl rfl rfl ⟨rfl,(a13.trans rfl),(by exact rfl),(by exact rfl),rfl,(a15.trans rfl),(by exact rfl),(by exact rfl),trivial⟩ (g103.trans rfl) rfl) (K1 (f:=Qb) (λ_=>Jd) ([s22,r26]:List Qa)))) ?_
   refine dd [] (λ_ _ _ _=>c0 (Quh _ h29)) ?_;refine zd [[101]] ?_;refine de fol ?_;refine z [11] ?_;exact sgo (eR [(100,100),(101,101)])
 intro s30
 refine z [13,4,2,32,34,1,8] ?_;exact rt []
theorem Qog{n:Nat}{x0}{x1}:∀ r,Qah n x0 x1=some r->FnOk Tryz.prog 107 [Kb x0,Qb x1] [] (bl r) []:=by
 unfold Qah
 refine fs Tryz.func107 λw S0 γ hγ=>?_;refine z [2] ?_;refine o (bx' 100) ?_;refine o (bx' 101) ?_;refine z [31,1,2,32,33,36] ?_;refine cb (ca Wy) λr1=>?_;refine z [58,31,1,8] ?_;exact rt []
theorem Qqf{n:Nat}{x0}{x1}:∀ r,Qa8 n x0 x1=some r->FnOk Tryz.prog 303 [Qq x0,Qq x1] [] (.tup [Qq r.1,Qq r.2.1,bl r.2.2]) []:=by
 unfold Qa8
 refine fs Tryz.func303 λw S0 γ hγ=>?_;refine z [2] ?_;refine o (bx' 100) ?_;refine o (bx' 101) ?_;refine o (al' 102) ?_;refine o (al' 103) ?_;refine z [31,1,2,33,36,33,36] ?_;refine cb (ca Qek) λr1=>?_;refine z [30,35,35,35,31,31,31,1,5,2,30,44,1] ?_;refine c ?_ ?_
 . refine z [2] ?_;refine s1 (bld (l:=[bl false,sli 1 (List.map u32 [])]) pl_51.h ti_51.h J4 rfl rfl) ?_;refine s1 (bld (l:=[bl false,sli 1 (List.map u32 [])]) pl_51.h ti_51.h J4 rfl rfl) ?_;refine z [34,34,31,1,8,10] ?_;exact rt []
 refine z [9,4,2,33,36,33,36,75,30] ?_;refine cb (ca Vx) λr3=>?_;refine z [34,1,5] ?_;refine b λr5 h6=>?_;refine b λr7 h8=>?_;refine sd ?_;refine zd [[100],[102],[101]] ?_;refine dd [] (λ_ _ _ _=>c0 (Qib _ h6)) ?_;refine dd [] (λ_ _ _ _=>c0 (Qfk _ h8)) ?_;refine zd [[103]] ?_;refine de fol ?_;refine z [4] ?_;refine sjq (λs21=>[(4,.own 102),(5,.own 103),(6,bl r1.2.2)]) (λs21=>[(102,.bx 51 (Qq s21.1)),(103,.bx 51 (Qq s21.2))]) ?_ ?_
 . intro j19 hj20
   refine z [5] ?_;refine b λr22 h23=>?_;refine b λr24 h25=>?_;refine sd ?_;refine zd [[103]] ?_;refine dd [] (λ_ _ _ _=>c0 (Qce _ h23)) ?_;refine zd [[101]] ?_;refine dd [] (λ_ _ _ _=>c0 (Qce _ h25)) ?_;refine zd [[],[]] ?_;refine de fol ?_;refine z [4] ?_;refine c ?_ ?_
   . refine z [5] ?_;refine b λr26 h27=>?_;refine b λr28 h29=>?_;refine sd ?_;refine zd [[102]] ?_;refine dd [] (λ_ _ _ _=>c0 (Qi4 _ h27)) ?_;refine dd [] (λ_ _ _ _=>c0 (Qfk _ h29)) ?_;refine zd [[102]] ?_;refine de fol ?_;refine z [4,6,32,32] ?_;refine cb (ca Qic) λr30=>?_;refine z [34,1] ?_;exact sj (hj20 _) (eR [(102,102),(103,103)])
   refine z [9,4] ?_;exact sj (hj20 _) (eR [(102,102),(103,103)])
 intro s21
 refine z [5] ?_;refine sd ?_;refine zd [[102],[103],[102],[103],[]] ?_;refine de fol ?_;refine z [4,8] ?_;exact rt []
theorem Qrx{n:Nat}{x0}:∀ r,Qb7 n x0=some r->FnOk Tryz.prog 267 [Qb x0] [] (Qq r) []:=by
 unfold Qb7
 refine fs Tryz.func267 λw S0 γ hγ=>?_;refine z [2] ?_;refine o (bx' 100) ?_;refine o (al' 101) ?_;refine z [1,2,32] ?_;refine cb (ca Vi) λr1=>?_;refine z [30,35,35] ?_;refine o (al' 102) ?_;refine z [34,31,1,2,32,30] ?_;refine s1 (bld (l:=[bl false,sli 1 (List.map u32 r1.2)]) pl_51.h ti_51.h J4 ⟨_,_,_,rfl,rfl,rfl,rfl,(szk (k:=1) rfl rfl),rfl⟩ rfl) ?_;refine cb (ca Qqf) λr3=>?_;refine z [30,35,35,35] ?_;refine o (al' 103) ?_;refine o (al' 104) ?_;refine z [34,34,31,1,2,32,34,1,8] ?_;exact rt []
theorem Qs0{n:Nat}{x0}{x1}:∀ r,Qc3 n x0 x1=some r->FnOk Tryz.prog 223 [Qb x0,i64 x1] [] (Qb r) []:=by
 unfold Qc3
 refine fs Tryz.func223 λw S0 γ hγ=>?_;refine z [2] ?_;refine o (bx' 100) ?_;refine o (al' 101) ?_;refine z [1,5] ?_;refine b λr1 h2=>?_;refine b λr3 h4=>?_;refine b λr5 h6=>?_;refine sd ?_;refine zd [[100],[]] ?_;refine dd [] (λ_ _ _ _=>c0 (J3 _ h2)) ?_;refine dd [] (λ_ _ _ _=>c0 (Qaz _ h4)) ?_;refine dd [] (λ_ _ _ _=>c0 (Qrx _ h6)) ?_;refine dd [102] (λ_ _ _ _=>al' 102) ?_;refine zd [[102]] ?_;refine de fol ?_;refine z [4,5] ?_;refine b λr7 h8=>?_;refine b λr9 h10=>?_;refine sd ?_;refine zd [[102],[]] ?_;refine dd [] (λ_ _ _ _=>c0 (Qi4 _ h8)) ?_
 refine dx [16] [] (λst mm ⟨a16,_⟩ _=>og (fld Qxm (by exact rfl) (by exact rfl) (by exact rfl) rfl (a16.trans rfl))) ?_
 refine dd [] (λ_ _ _ _=>c0 (Qgj _ h10)) ?_;refine zd [[],[],[]] ?_;refine dd [103] (λ_ _ _ _=>al' 103) ?_;refine zd [[103],[]] ?_;refine de fol ?_;refine z [4,2,32,34,1,8] ?_;exact rt []
theorem Qqg{n:Nat}{x0}{x1}:∀ r,Qa9 n x0 x1=some r->FnOk Tryz.prog 174 [Kb x0,Qb x1] [] (Qb r) []:=by
 unfold Qa9
 refine fs Tryz.func174 λw S0 γ hγ=>?_;refine z [2] ?_;refine o (bx' 100) ?_;refine o (bx' 101) ?_;refine o (al' 102) ?_;refine z [1,5] ?_;refine b λr1 h2=>?_;refine b λr3 h4=>?_;refine sd ?_;refine zd [[100],[100],[100],[100]] ?_;refine dd [] (λ_ _ _ _=>c0 (Qaz _ h2)) ?_;refine zd [[101]] ?_;refine dd [] (λ_ _ _ _=>c0 (Qi7 _ h4)) ?_;refine zd [[],[],[]] ?_;refine dd [103] (λ_ _ _ _=>al' 103) ?_;refine zd [[103],[]] ?_;refine de fol ?_;refine z [4,5,2,30,44,1] ?_;refine c ?_ ?_
 . refine z [2,33,36] ?_;refine cb (ca J0) λr5=>?_;refine z [34,1,8,10] ?_;exact rt []
 refine z [9,4,2,32,33,36] ?_;refine cb (ca Qs0) λr7=>?_;refine z [34,1,5,7,2,32,33,36] ?_;refine cb (ca Wy) λr9=>?_;refine z [46,31,1] ?_;refine c ?_ ?_
 . refine z [2,33,36] ?_;refine cb (ca J0) λr11=>?_;refine z [34,1,8,12,10] ?_;exact rt []
 refine z [2,32,33,36] ?_;refine cb (ca Wy) λr13=>?_;refine z [47,31,1] ?_;refine c ?_ ?_
 . refine z [2,33,36] ?_;refine cb (ca J0) λr15=>?_;refine z [34,1,8,12,10] ?_;exact rt []
 refine z [9,11,4,2,32,34,1,8] ?_;exact rt []
theorem Qs1{n:Nat}{x0}{x1}{x2}:∀ r,Qff n x0 x1 x2=some r->FnOk Tryz.prog 108 [Kb x0,Qb x1,Qb x2] [] (Qb r) []:=by
 unfold Qff
 refine fs Tryz.func108 λw S0 γ hγ=>?_;refine z [2] ?_;refine o (bx' 100) ?_;refine o (bx' 101) ?_;refine o (bx' 102) ?_;refine o (al' 103) ?_;refine z [1,5] ?_;refine b λr1 h2=>?_;refine b λr3 h4=>?_;refine sd ?_;refine zd [[101],[100],[102]] ?_;refine dd [] (λ_ _ _ _=>c0 (Qqg _ h2)) ?_;refine dd [] (λ_ _ _ _=>c0 (Qaz _ h4)) ?_;refine zd [[103]] ?_;refine de fol ?_;refine z [4,8] ?_;exact rt []
theorem Qgm{n:Nat}{x0_k}{x0_h_Tries}{x0_h_T}{x0_h_Y}{x0_want}:∀ r,K8 n x0_k x0_h_Tries x0_h_T x0_h_Y x0_want=some r->FnOk Tryz.prog 56 [.own 0] [(0,.bx 119 (.agg [Ja x0_k,.agg [.own 1,Qb x0_h_T,sli 3 (List.map Qb x0_h_Y)],Qb x0_want])),(1,.sl 82 14 (List.map Qz x0_h_Tries))] (Qi r.1) [(0,.bx 119 (.agg [Ja r.2.1,.agg [.own 61,Qb r.2.2.1,sli 3 (List.map Qb r.2.2.2.1)],Qb r.2.2.2.2.1])),(1,.gone),(61,.sl 82 14 (List.map Qz r.2.2.2.2.2))]:=by
 unfold K8
 refine fs Tryz.func56 λw S0 γ hγ=>?_;refine z [2] ?_;refine o (al' 100) ?_;refine z [1,5] ?_;refine b λr1 h2=>?_;refine sd ?_;refine zd [[],[0],[0],[],[0],[],[0],[0],[],[0],[],[0],[0],[0]] ?_;refine dd [] (λ_ _ _ _=>c0 (Qt9 _ h2)) ?_;refine dd [101] (λ_ _ _ _=>al' 101) ?_;refine zd [[101]] ?_;refine de fol ?_;refine z [4,5] ?_;refine b λr3 h4=>?_;refine sd ?_;refine zd [[],[0],[0],[],[0],[],[0],[0],[],[0],[101],[],[0],[0],[],[0]] ?_;refine dd [] (λ_ _ _ _=>c0 (Qpo _ h4)) ?_;refine zd [[],[],[]] ?_;refine dd [102] (λ_ _ _ _=>al' 102) ?_;refine dd [103] (λ_ _ _ _=>al' 103) ?_;refine zd [[102],[103]] ?_;refine de fol ?_;refine z [4,5,2,32] ?_;refine s1 (bld (l:=[i64 0,i64 0,i64 0,i64 0]) pl_63.h ti_63.h Ql rfl rfl) ?_;refine s1 (neA (p:=(r3.2:Qc)) (q:=((⟨0,0,0,0⟩:Qc):Qc)) J9 rfl eg_63 rfl rfl rfl) ?_;refine z [1] ?_;refine c ?_ ?_
 . refine z [2,30,48,33,45,36,55,40,33] ?_;refine o (stP (Qi (⟨r3.2.Kind,wrap64 ((x0_h_Tries.length:Int)+(1:Int)),r3.2.Stage,r3.2.At⟩:Qc)) [1]) ?_;refine z [1,2,32,34,1,8,10] ?_;exact rt [(0,0),(1,1),(61,1)]
 refine z [9,4,2,33,36] ?_;refine cb (ca Qm3) λr5=>?_;refine o (al' 104) ?_;refine z [34,1,5] ?_;refine b λr7 h8=>?_;refine sd ?_;refine zd [[],[0],[0],[],[0],[],[0],[0],[0],[101],[104],[],[0],[0],[],[0],[],[0],[0],[],[0],[104]] ?_;refine dd [] (λ_ _ _ _=>c0 (Qog _ h8)) ?_;refine dx [62,66,67,68,73,80] [] (λst mm ⟨a62,a66,a67,a68,a73,a80,_⟩ _=>og (bld (l:=[Qb x0_h_T,Qb x0_want,Qb r1,Qb r5,sli 3 (List.map Qb x0_h_Y),bl r7]) pl_82.h ti_82.h Qfi ⟨_,_,_,(a62.trans rfl),rfl,rfl,rfl,(szk (k:=3) rfl rfl),⟨_,_,_,(a66.trans rfl),rfl,rfl,rfl,(szk (k:=3) rfl rfl),⟨_,_,_,(a67.trans rfl),rfl,rfl,rfl,(szk (k:=3) rfl rfl),⟨_,_,_,(a68.trans rfl),rfl,rfl,rfl,(szk (k:=3) rfl rfl),⟨_,_,_,(a73.trans rfl),rfl,rfl,rfl,(szk (k:=1) rfl rfl),⟨_,_,_,(a80.trans rfl),rfl,rfl,rfl,(szk (k:=1) rfl rfl),rfl⟩⟩⟩⟩⟩⟩ rfl)) ?_;refine dd [105] (λ_ _ _ _=>al' 105) ?_;refine zd [[105]] ?_;refine de fol ?_;refine z [4,5] ?_;refine b λy9 h10=>?_;refine sd ?_;refine zd [[],[],[0],[0],[],[0],[105]] ?_
 refine dx [88] [106] (λst mm ⟨a88,_⟩ ⟨g106,_⟩=>og (bsl (y:=106) (ls:=List.map Qz ([(⟨x0_h_T,x0_want,r1,r5,x0_h_Y,r7⟩:Qp)]:List Qp)) Tryz.underlying59 ti_82.h rfl rfl rfl rfl rfl ⟨rfl,(a88.trans rfl),(by exact rfl),(by exact rfl),trivial⟩ (g106.trans rfl) rfl)) ?_
 refine dd [1,106,107] (λ_ _ _ _=>app' 107) ?_;refine zd [[0],[0],[]] ?_;refine dd [0] (λ_ _ _ _=>stP (.agg [Ja x0_k,.agg [.own 107,Qb x0_h_T,sli 3 (List.map Qb x0_h_Y)],Qb x0_want]) [1,0]) ?_;refine de fol ?_;refine z [4] ?_;refine sjq (λs15=>[(0,.own 0),(2,.own 100),(3,.own 101),(5,.own 103),(6,.own 104)]) (λs15=>[(1,.gone),(0,.bx 119 (.agg [Ja x0_k,.agg [.own 107,Qb s15.1,sli 3 (List.map Qb s15.2)],Qb x0_want])),(107,.sl 82 14 (List.map Qz y9)),(100,.bx 63 (Qi (⟨0,0,0,0⟩:Qc))),(101,.bx 53 (Qb r1)),(103,.bx 63 (Qi r3.2)),(104,.bx 53 (Qb r5))]) ?_ ?_
 . intro j13 hj14
   refine z [2,33,36,1] ?_;refine c ?_ ?_
   . refine b λr16 h17=>?_;refine sd ?_;refine zd [[],[],[],[0],[0],[],[0],[101]] ?_;refine dd [] (λ_ _ _ _=>c0 (Yn _ h17)) ?_;refine zd [[102],[102],[0],[0],[]] ?_;refine dd [0] (λ_ _ _ _=>stP (.agg [Ja x0_k,.agg [.own 107,Qb r16,sli 3 (List.map Qb x0_h_Y)],Qb x0_want]) [1,1]) ?_;refine zd [[0],[0],[]] ?_;refine dd [0] (λ_ _ _ _=>stP (.agg [Ja x0_k,.agg [.own 107,Qb r16,sli 3 (List.map Qb r3.1.Next)],Qb x0_want]) [1,2]) ?_;refine de fol ?_;refine z [4] ?_;exact sj (hj14 _) (eR [(1,1),(0,0),(107,107),(100,100),(101,101),(103,103),(104,104)])
   refine z [9,4] ?_;exact sj (hj14 _) (eR [(1,1),(0,0),(107,107),(100,100),(101,101),(103,103),(104,104)])
 intro s15
 refine z [5] ?_;refine b λr18 h19=>?_;refine sd ?_;refine zd [[],[],[0],[0],[],[0],[101],[104]] ?_;refine dd [] (λ_ _ _ _=>c0 (Qs1 _ h19)) ?_;refine zd [[0],[0]] ?_;refine dd [0] (λ_ _ _ _=>stP (.agg [Ja x0_k,.agg [.own 107,Qb s15.1,sli 3 (List.map Qb s15.2)],Qb r18]) [2]) ?_;refine de fol ?_;refine z [4,2,32,34,1,8] ?_;exact rt [(0,0),(1,1),(61,107)]
theorem Qry{n:Nat}{x0}:∀ r,Qca n x0=some r->FnOk Tryz.prog 12 [Ja x0] [] (.tup [Qx r.1,Qi r.2]) []:=by
 unfold Qca
 refine fs Tryz.func12 λw S0 γ hγ=>?_;refine z [2] ?_;refine o (bx' 100) ?_;refine o (al' 101) ?_;refine o (al' 102) ?_;refine z [1,16,5,2,32] ?_;refine cb (ca Qqd) λr1=>?_;refine z [44,1] ?_;refine c ?_ ?_
 . refine z [2] ?_;refine s1 (bld (l:=[sli 14 (List.map Qz []),Qb (⟨(⟨false,[]⟩:Qd),[]⟩:Qa),sli 3 (List.map Qb [])]) pl_61.h ti_61.h X8 rfl rfl) ?_;refine s1 (bld (l:=[i64 (2:Int),i64 0,i64 0,i64 0]) pl_63.h ti_63.h Ql ⟨_,_,_,(kI (x:=2) rfl),rfl,rfl,rfl,(szk (k:=1) rfl rfl),rfl⟩ rfl) ?_;refine z [34,34,1,8,10,18] ?_;exact rt []
 refine z [9,4,5] ?_;refine b λr3 h4=>?_;refine b λr5 h6=>?_;refine b λr7 h8=>?_;refine b λr9 h10=>?_;refine sd ?_;refine zd [[100],[100],[100]] ?_;refine dd [] (λ_ _ _ _=>c0 (J0 _ h4)) ?_;refine dd [] (λ_ _ _ _=>c0 (J3 _ h6)) ?_;refine zd [[100],[100]] ?_;refine dd [103] (λ_ _ _ _=>tV (cG (Qc5 _ h8) [] [(103,50)] [])) ?_;refine dx [15,19] [104] (λst mm ⟨a15,a19,_⟩ ⟨g104,_⟩=>og (bldO (l:=[.own 104,Qb r3,sli 3 (List.map Qb r7)]) [(104,82,14)] pl_61.h ti_61.h (Qih (Kj (c1:=[.slice none 0 0]) (Qgu rfl) (Kj (c1:=[.bool false,.slice none 0 0,.slice none 0 0]) (zo_of Jb) (Kj (c1:=[.slice none 0 0]) (zo_of (Kv (k:=3))) (Qgn))))) ⟨(g104.trans rfl),trivial⟩ rfl ⟨_,_,_,(a15.trans rfl),rfl,rfl,rfl,(szk (k:=3) rfl rfl),⟨_,_,_,(a19.trans rfl),rfl,rfl,rfl,(szk (k:=1) rfl rfl),rfl⟩⟩ rfl)) ?_;refine zd [[100],[100]] ?_;refine dd [] (λ_ _ _ _=>c0 (J0 _ h10)) ?_;refine dx [20,12,23] [] (λst mm ⟨a20,a12,a23,_⟩ _=>og (bld (l:=[Ja x0,.agg [.own 104,Qb r3,sli 3 (List.map Qb r7)],Qb r9]) Qy2.h Qy1.h Qmw ⟨_,_,_,(a12.trans rfl),rfl,rfl,rfl,(szk (k:=38) rfl rfl),⟨_,_,_,(a20.trans rfl),rfl,rfl,rfl,(szk (k:=5) rfl rfl),⟨_,_,_,(a23.trans rfl),rfl,rfl,rfl,(szk (k:=3) rfl rfl),rfl⟩⟩⟩ rfl)) ?_;refine dd [105] (λ_ _ _ _=>bx' 105) ?_;refine zd [[]] ?_;refine de fol ?_;refine z [4,2] ?_;refine o (al' 106) ?_;refine z [1,2] ?_;refine s1 (mkC (l:=[106]) ⟨rfl,trivial⟩ rfl) ?_;refine z [31,1,5,20,4,5,7] ?_;refine sloopE 0 (λt=>t) (λs57=>[(2,.own 101),(3,.own 102),(4,.own 105),(5,.own 106),(6,.clo 53 [106])]) (λs57=>[(101,.bx 61 (Qx (⟨[],(⟨(⟨false,[]⟩:Qd),[]⟩:Qa),[]⟩:Qn))),(102,.bx 63 (Qi (⟨0,0,0,0⟩:Qc))),(105,.bx 119 (.agg [Ja s57.1,.agg [.own 104,Qb s57.2.2.1,sli 3 (List.map Qb s57.2.2.2.1)],Qb s57.2.2.2.2.1])),(104,.sl 82 14 (List.map Qz s57.2.1)),(106,.bx 63 (Qi s57.2.2.2.2.2))]) (λt55=>[(2,.own 101),(3,.own 102),(4,.own 105),(5,.own 106)]) (λt55=>[(101,.bx 61 (Qx (⟨[],(⟨(⟨false,[]⟩:Qd),[]⟩:Qa),[]⟩:Qn))),(102,.bx 63 (Qi (⟨0,0,0,0⟩:Qc))),(105,.bx 119 (.agg [Ja t55.1,.agg [.own 104,Qb t55.2.2.1,sli 3 (List.map Qb t55.2.2.2.1)],Qb t55.2.2.2.2.1])),(104,.sl 82 14 (List.map Qz t55.2.1)),(106,.bx 63 (Qi t55.2.2.2.2.2))]) (eR [(101,101),(102,102),(105,105),(104,104),(106,106)]) ?_ ?_
 . intro hj56 s57
   refine z [5,2,30] ?_;refine b λr58 h59=>?_;refine o (cG (Qid _ h59) [105,104] [] [105,104]) ?_;refine z [44,1] ?_;refine c ?_ ?_
   . refine z [9,4,7] ?_;refine sjq (λs70=>[(2,.own 101),(3,.own 102),(4,.own 105),(5,.own 106),(6,.clo 53 [106]),(39,bl s70.2.2.2.2.2.2)]) (λs70=>[(101,.bx 61 (Qx (⟨[],(⟨(⟨false,[]⟩:Qd),[]⟩:Qa),[]⟩:Qn))),(102,.bx 63 (Qi (⟨0,0,0,0⟩:Qc))),(105,.bx 119 (.agg [Ja s70.1,.agg [.own 104,Qb s70.2.2.1,sli 3 (List.map Qb s70.2.2.2.1)],Qb s70.2.2.2.2.1])),(104,.sl 82 14 (List.map Qz s70.2.1)),(106,.bx 63 (Qi s70.2.2.2.2.2.1))]) ?_ ?_
     . intro j68 hj69
       refine z [6,30,30] ?_;refine b λr71 h72=>?_;refine o (cG (Qim _ h72) [105,104] [] [105,104]) ?_;refine b λr73 h74=>?_;refine so (callC (la:=[_]) (lc:=[0]) (em:=[(106,.bx 63 (Qi r73.2))]) (res':=bl r73.1) [(0,106)] [] [(106,0)] rfl (Qin _ h74) rfl rfl ⟨⟨_,rfl,rn_id Yw⟩,trivial⟩ (MiF.get (mi:=[(0,_)]) ⟨⟨_,_,rfl,rfl,rc_bx (rn_id Yw)⟩,trivial⟩) ⟨⟨_,rfl⟩,trivial⟩ rfl trivial ⟨.inr rfl,trivial⟩ rfl ⟨.inl ⟨_,_,rfl,rfl,rc_bx (rn_id Yw)⟩,trivial⟩ ⟨⟨_,rfl⟩,trivial⟩ trivial (rn_id if_bl) rfl) ?_;refine z [30] ?_;refine sifd 34 rfl ?_ ?_
       . refine z [23,23,23,23,38,1] ?_;exact sj (hj69 _) (eR [(101,101),(102,102),(105,105),(104,104),(106,106)])
       refine z [22,22] ?_;refine b λr75 h76=>?_;refine og' (cG (Qgm _ h76) [105,104] [(107,61)] []) ?_;refine b λr77 h78=>?_;refine sg 34 rfl rfl (callC (la:=[_]) (lc:=[0]) (em:=[(106,.bx 63 (Qi r77.2))]) (res':=bl r77.1) [(0,106)] [] [(106,0)] rfl (Qin _ h78) rfl rfl ⟨⟨_,rfl,rn_id Yw⟩,trivial⟩ (MiF.get (mi:=[(0,_)]) ⟨⟨_,_,rfl,rfl,rc_bx (rn_id Yw)⟩,trivial⟩) ⟨⟨_,rfl⟩,trivial⟩ rfl trivial ⟨.inr rfl,trivial⟩ rfl ⟨.inl ⟨_,_,rfl,rfl,rc_bx (rn_id Yw)⟩,trivial⟩ ⟨⟨_,rfl⟩,trivial⟩ trivial (rn_id if_bl) rfl) ?_;refine z [37,1] ?_;exact sj (hj69 _) (eR [(101,101),(102,102),(105,105),(104,107),(106,106)])
     intro s70
     refine c ?_ ?_
     . refine z [14,21] ?_;exact su (sj (hj56 _) (eR [(101,101),(102,102),(105,105),(104,104),(106,106)]))
     refine z [9,11] ?_;exact sgo (eR [(101,101),(102,102),(105,105),(104,104),(106,106)])
   refine z [14,15] ?_;exact su (sj (hj56 _) (eR [(101,101),(102,102),(105,105),(104,104),(106,106)]))
 intro t55
 refine z [13,4,5] ?_;refine sd ?_;refine zd [[],[105],[105],[105],[106],[101],[102]] ?_;refine de fol ?_;refine z [4,8,18] ?_;refine fz 104 [43] [101,105] ?_;exact rt []
theorem Qju{n:Nat}{x0}:∀ r,Qba n x0=some r->FnOk Tryz.prog 11 [Ja x0] [] (.tup [Qx r.1,Qi r.2]) []:=by
 unfold Qba
 refine fs Tryz.func11 λw S0 γ hγ=>?_;refine z [2] ?_;refine o (bx' 100) ?_;refine o (al' 101) ?_;refine o (al' 102) ?_;refine z [1,2,32] ?_;refine cb (ca Qry) λr1=>?_;refine z [30,35,35] ?_;refine o (al' 103) ?_;refine o (al' 104) ?_;refine z [34,34,1,5,2,32] ?_;refine s1 (bld (l:=[i64 0,i64 0,i64 0,i64 0]) pl_63.h ti_63.h Ql rfl rfl) ?_;refine s1 (neA (p:=(r1.2:Qc)) (q:=((⟨0,0,0,0⟩:Qc):Qc)) J9 rfl eg_63 rfl rfl rfl) ?_;refine z [1] ?_;refine c ?_ ?_
 . refine z [5] ?_;refine sd ?_;refine dx [] [] (λst mm _ _=>og (bld (l:=[sli 14 (List.map Qz []),Qb (⟨(⟨false,[]⟩:Qd),[]⟩:Qa),sli 3 (List.map Qb [])]) pl_61.h ti_61.h X8 rfl rfl)) ?_;refine zd [[104],[101],[102]] ?_;refine de fol ?_;refine z [4,8,10] ?_;exact rt []
 refine z [9,4,5] ?_;refine sd ?_;refine zd [[103],[104],[101],[102]] ?_;refine de fol ?_;refine z [4,8] ?_;exact rt []
theorem Qen{x0}:∀ r,Wc x0=some r->FnOk Tryz.prog 143 [Qz x0] [] (sli 3 (List.map Qb r)) []:=by
 unfold Wc
 refine fs Tryz.func143 λw S0 γ hγ=>?_;refine z [2] ?_;refine o (bx' 100) ?_;refine s1 (asg rfl (kLm (k:=3) Qb)) ?_;refine z [1,2,33,36,33,36,33,36,33,36] ?_
 refine so (bsl (y:=101) (ls:=List.map Qb ([x0.T,x0.Want,x0.H,x0.Err]:List Qa)) Tryz.underlying44 ti_53.h rfl rfl rfl rfl rfl ⟨rfl,rfl,(by exact rfl),(by exact rfl),rfl,rfl,(by exact rfl),(by exact rfl),rfl,rfl,(by exact rfl),(by exact rfl),rfl,rfl,(by exact rfl),(by exact rfl),trivial⟩ rfl rfl) ?_
 refine z [31,1,8] ?_;refine fz 101 [2,11] [] ?_;exact rt []
theorem Qf7{n:Nat}{x0}:∀ r,Yc n x0=some r->FnOk Tryz.prog 78 [sli 3 (List.map Qb x0)] [] (sli 3 (List.map Qb r)) []:=by
 unfold Yc
 refine fs Tryz.func78 λw S0 γ hγ=>?_;refine z [2] ?_;refine s1 (asg rfl (kLm (k:=3) Qb)) ?_;refine z [1,2] ?_;refine cb (ca J3) λr1=>?_;refine z [30] ?_;refine b λr3 h4=>?_;refine o (cG (Qc5 _ h4) [] [(100,50)] []) ?_;refine z [31,1,8] ?_;refine fz 100 [2,5] [] ?_;exact rt []
theorem Qhm{n:Nat}{x0}:∀ r,X6 n x0=some r->FnOk Tryz.prog 76 [Qx x0] [] (sli 14 (List.map Qz r)) []:=by
 unfold X6
 refine fs Tryz.func76 λw S0 γ hγ=>?_;refine z [2] ?_;refine o (bx' 100) ?_;refine s1 (asg rfl (kLm (k:=14) Qz)) ?_;refine z [1,2] ?_;refine so (asgN (y:=101) (E:=82) (k:=14) rfl rfl) ?_;refine z [1,5,2,33,36,39,30,1,7] ?_;refine srN (λs42=>[(2,sli 14 (List.map Qz ([]:List Qp))),(3,.own 101),(8,sli 14 (List.map Qz x0.Tries))]) (λs42=>[(101,.sl 82 14 (List.map Qz s42))]) (rE (eR [(101,101)])) ?_ ?_
 . intro i43 x44 s42 hx45
   refine z [7,2,43,42] ?_;refine o (al' 102) ?_;refine z [34,1,2,33,36,1] ?_;refine c ?_ ?_
   . refine z [2,32] ?_;refine cb (ca Qen) λr46=>?_;refine cb (ca Qf7) λr48=>?_;refine z [31,1] ?_;refine b λy50 h51=>?_;refine b λy52 h53=>?_;refine b λy54 h55=>?_;refine b λy56 h57=>?_;refine b λr58 h59=>?_;refine b λy60 h61=>?_;refine sd ?_;refine zd [[],[],[],[],[],[],[],[],[],[],[],[],[],[102],[102]] ?_;refine dd [] (λ_ _ _ _=>c0 (Qf7 _ h59)) ?_;refine dx [22,25,28,31,34] [] (λst mm ⟨a22,a25,a28,a31,a34,_⟩ _=>og (bld (l:=[Qb y50,Qb y52,Qb y54,Qb y56,sli 3 (List.map Qb r58),bl true]) pl_82.h ti_82.h Qfi ⟨_,_,_,(a22.trans rfl),rfl,rfl,rfl,(szk (k:=3) rfl rfl),⟨_,_,_,(a25.trans rfl),rfl,rfl,rfl,(szk (k:=3) rfl rfl),⟨_,_,_,(a28.trans rfl),rfl,rfl,rfl,(szk (k:=3) rfl rfl),⟨_,_,_,(a31.trans rfl),rfl,rfl,rfl,(szk (k:=3) rfl rfl),⟨_,_,_,(a34.trans rfl),rfl,rfl,rfl,(szk (k:=1) rfl rfl),⟨_,_,_,kB,rfl,rfl,rfl,(szk (k:=1) rfl rfl),rfl⟩⟩⟩⟩⟩⟩ rfl)) ?_
     refine dx [35] [103] (λst mm ⟨a35,_⟩ ⟨g103,_⟩=>og (bsl (y:=103) (ls:=List.map Qz ([(⟨y50,y52,y54,y56,r58,true⟩:Qp)]:List Qp)) Tryz.underlying59 ti_82.h rfl rfl rfl rfl rfl ⟨rfl,(a35.trans rfl),(by exact rfl),(by exact rfl),trivial⟩ (g103.trans rfl) rfl)) ?_
     refine dd [101,103,104] (λ_ _ _ _=>app' 104) ?_;refine zd [[]] ?_;refine de fol ?_;refine z [11] ?_;exact sgo (eR [(101,104)])
   refine z [9,11] ?_;exact sgo (eR [(101,101)])
 intro s62
 refine z [13,4,2,30,31,1,8] ?_;refine fz 101 [2,3,39] [] ?_;exact rt []
theorem Qha{n:Nat}{x0}:∀ r,V6 n x0=some r->FnOk Tryz.prog 23 [Qx x0] [] (.tup [sli 3 (List.map Qb r.1),sli 1 (List.map Qe r.2)]) []:=by
 unfold V6
 refine fs Tryz.func23 λw S0 γ hγ=>?_;refine z [2] ?_;refine o (bx' 100) ?_;refine s1 (asg rfl (kLm (k:=3) Qb)) ?_;refine s1 (asg rfl (kLm (k:=1) Qe)) ?_;refine z [1,2] ?_;refine so (asgN (y:=101) (E:=53) (k:=3) rfl rfl) ?_;refine z [1,2] ?_;refine so (asgN (y:=102) (E:=44) (k:=1) rfl rfl) ?_;refine z [1,5,2,32] ?_;refine cb (ca Qhm) λr1=>?_;refine z [39,30,1,7] ?_;refine srN (λs20=>[(1,.own 100),(2,sli 3 (List.map Qb ([]:List Qa))),(3,sli 1 (List.map Qe ([]:List (List Qa)))),(4,.own 101),(5,.own 102),(9,sli 14 (List.map Qz r1))]) (λs20=>[(100,.bx 61 (Qx x0)),(101,.sl 53 3 (List.map Qb s20.1)),(102,.sl 44 1 (List.map Qe s20.2))]) (rE (eR [(100,100),(101,101),(102,102)])) ?_ ?_
 . intro i21 x22 s20 hx23
   refine z [7,2,43,42] ?_;refine o (al' 103) ?_;refine z [34,1,2,30,33,36] ?_
   refine so (bsl (y:=104) (ls:=List.map Qb ([x22.T]:List Qa)) Tryz.underlying44 ti_53.h rfl rfl rfl rfl rfl ⟨rfl,rfl,(by exact rfl),(by exact rfl),trivial⟩ rfl rfl) ?_
   refine b λy24 h25=>?_;refine o (app' 105) ?_;refine z [31,1,6,30,33,36] ?_
   refine so (bsl (y:=106) (ls:=List.map Qe ([x22.Y]:List (List Qa))) Tryz.underlying45 ti_44.h rfl rfl rfl rfl rfl ⟨rfl,rfl,(by exact rfl),(by exact rfl),trivial⟩ rfl rfl) ?_
   refine b λy26 h27=>?_;refine o (app' 107) ?_;refine z [31,3,11] ?_;exact sgo (eR [(100,100),(101,105),(102,107)])
 intro s28
 refine z [13,4,5] ?_;refine b λr29 h30=>?_;refine b λy31 h32=>?_;refine b λr33 h34=>?_;refine b λy35 h36=>?_;refine sd ?_;refine zd [[],[100],[100]] ?_;refine dd [] (λ_ _ _ _=>c0 (J0 _ h30)) ?_
 refine dx [29] [103] (λst mm ⟨a29,_⟩ ⟨g103,_⟩=>og (bsl (y:=103) (ls:=List.map Qb ([r29]:List Qa)) Tryz.underlying44 ti_53.h rfl rfl rfl rfl rfl ⟨rfl,(a29.trans rfl),(by exact rfl),(by exact rfl),trivial⟩ (g103.trans rfl) rfl)) ?_
 refine dd [101,103,104] (λ_ _ _ _=>app' 104) ?_;refine zd [[],[100],[100]] ?_;refine dd [] (λ_ _ _ _=>c0 (Qf7 _ h34)) ?_
 refine dx [35] [105] (λst mm ⟨a35,_⟩ ⟨g105,_⟩=>og (bsl (y:=105) (ls:=List.map Qe ([r33]:List (List Qa))) Tryz.underlying45 ti_44.h rfl rfl rfl rfl rfl ⟨rfl,(a35.trans rfl),(by exact rfl),(by exact rfl),trivial⟩ (g105.trans rfl) rfl)) ?_
 refine dd [102,105,106] (λ_ _ _ _=>app' 106) ?_;refine zd [[],[]] ?_;refine de fol ?_;refine z [4,8] ?_;refine fz 104 [2,31] [] ?_;refine fz 106 [3,37] [] ?_;exact rt []
theorem Qkq{n:Nat}{x0}:∀ r,X3 n x0=some r->FnOk Tryz.prog 24 [Qx x0] [] (sli 3 (List.map Qb r)) []:=by
 unfold X3
 refine fs Tryz.func24 λw S0 γ hγ=>?_;refine z [2] ?_;refine o (bx' 100) ?_;refine s1 (asg rfl (kLm (k:=3) Qb)) ?_;refine z [1,2] ?_;refine so (asgN (y:=101) (E:=53) (k:=3) rfl rfl) ?_;refine z [1,5,2,32] ?_;refine cb (ca Qhm) λr1=>?_;refine z [39,30,1,7] ?_;refine srN (λs16=>[(2,sli 3 (List.map Qb ([]:List Qa))),(3,.own 101),(7,sli 14 (List.map Qz r1))]) (λs16=>[(101,.sl 53 3 (List.map Qb s16))]) (rE (eR [(101,101)])) ?_ ?_
 . intro i17 x18 s16 hx19
   refine z [7,2,43,42] ?_;refine o (al' 102) ?_;refine z [34,1,6,30,33,36] ?_
   refine so (bsl (y:=103) (ls:=List.map Qb ([x18.H]:List Qa)) Tryz.underlying44 ti_53.h rfl rfl rfl rfl rfl ⟨rfl,rfl,(by exact rfl),(by exact rfl),trivial⟩ rfl rfl) ?_
   refine b λy20 h21=>?_;refine o (app' 104) ?_;refine z [31,3,11] ?_;exact sgo (eR [(101,104)])
 intro s22
 refine z [13,4,2,30,31,1,8] ?_;refine fz 101 [2,3,19] [] ?_;exact rt []
theorem Qjv{n:Nat}{x0}:∀ r,Ze n x0=some r->FnOk Tryz.prog 207 [sli 1 (List.map Qe x0)] [] (bl r) []:=by
 unfold Ze
 refine fs Tryz.func207 λw S0 γ hγ=>?_;refine z [2,31,1,5,2,30,39,30,1,7] ?_;refine srN (λs20=>[(2,bl false),(7,sli 1 (List.map Qe x0))]) (λs20=>[]) (rE eI) ?_ ?_
 . intro i21 x22 s20 hx23
   refine z [7,2,43,42,31,1,2,30,39,30,1,7] ?_;refine srN (λs31=>[(2,bl false),(7,sli 1 (List.map Qe x0)),(8,i64 (x0.length:Int)),(9,i64 (i21:Int)),(13,sli 3 (List.map Qb x22))]) (λs31=>[]) (rE eI) ?_ ?_
   . intro i32 x33 s31 hx34
     refine z [7,2,43,42] ?_;refine o (al' 100) ?_;refine z [34,1,2,32] ?_;refine cb (ca Qel) λr35=>?_;refine z [44,1] ?_;refine c ?_ ?_
     . refine z [2,31,1,8,12] ?_;refine sU ?_;refine z [12,12] ?_;refine sU ?_;refine z [12,10] ?_;exact rt []
     refine z [9,11] ?_;exact sgo (eR [])
   intro s37
   refine z [13,11] ?_;exact sgo eI
 intro s38
 refine z [13,4,2,31,1,8] ?_;exact rt []
theorem Qrz{n:Nat}{x0}:∀ r,Qee n x0=some r->FnOk Tryz.prog 154 [Qx x0] [] (bl r) []:=by
 unfold Qee
 refine fs Tryz.func154 λw S0 γ hγ=>?_;refine z [2] ?_;refine o (bx' 100) ?_;refine z [31,1,5,2,33,36,39,30,1,7] ?_;refine srN (λs10=>[(1,.own 100),(2,bl false),(6,sli 14 (List.map Qz x0.Tries))]) (λs10=>[(100,.bx 61 (Qx x0))]) (rE (eR [(100,100)])) ?_ ?_
 . intro i11 x12 s10 hx13
   refine z [7,2,43,42] ?_;refine o (al' 101) ?_;refine z [34,1,5] ?_;refine b λr14 h15=>?_;refine b λr16 h17=>?_;refine sd ?_;refine zd [[101]] ?_;refine dd [] (λ_ _ _ _=>c0 (Qen _ h15)) ?_;refine zd [[101],[101]] ?_
   refine dx [13,15] [102] (λst mm ⟨a13,a15,_⟩ ⟨g102,_⟩=>og (bsl (y:=102) (ls:=List.map Qe ([r14,x12.Y]:List (List Qa))) Tryz.underlying45 ti_44.h rfl rfl rfl rfl rfl ⟨rfl,(a13.trans rfl),(by exact rfl),(by exact rfl),rfl,(a15.trans rfl),(by exact rfl),(by exact rfl),trivial⟩ (g102.trans rfl) rfl)) ?_
   refine dx [16] [102] (λst mm ⟨a16,_⟩ ⟨g102,_⟩=>og (callL (em:=[]) [102] [] [] [] rfl (Qjv _ h17) trivial (pl_bl) ⟨.inr ⟨102,rfl,.inl ⟨(a16.trans rfl),.inl ⟨_,_,_,(g102.trans rfl),K1 (f:=Qe) (λ_=>Qdt) ([r14,x12.Y]:List (List Qa)),rfl⟩⟩⟩,trivial⟩ (λ_ _ h=>by cases h) trivial rfl trivial trivial rfl trivial trivial trivial (rn_id (if_bl)) rfl)) ?_
   refine zd [[]] ?_;refine de fol ?_;refine z [4] ?_;refine c ?_ ?_
   . refine z [2,31,1,8,12] ?_;refine sU ?_;refine z [12,10] ?_;exact rt []
   refine z [9,11] ?_;exact sgo (eR [(100,100)])
 intro s18
 refine z [13,4,2,33,36] ?_
 refine so (bsl (y:=101) (ls:=List.map Qb ([x0.T]:List Qa)) Tryz.underlying44 ti_53.h rfl rfl rfl rfl rfl ⟨rfl,rfl,(by exact rfl),(by exact rfl),trivial⟩ rfl rfl) ?_
 refine z [33,36] ?_;refine fz 101 [22] [] ?_
 refine so (bsl (y:=102) (ls:=List.map Qe ([([x0.T]:List Qa),x0.Y]:List (List Qa))) Tryz.underlying45 ti_44.h rfl rfl rfl rfl rfl ⟨rfl,rfl,(by exact rfl),(by exact rfl),rfl,rfl,(by exact rfl),(by exact rfl),trivial⟩ rfl rfl) ?_
 refine b λr19 h20=>?_
 refine s1 (callL (em:=[]) [102] [] [] [] rfl (Qjv _ h20) trivial (pl_bl) ⟨.inr ⟨102,rfl,.inl ⟨rfl,.inl ⟨_,_,_,rfl,K1 (f:=Qe) (λ_=>Qdt) ([([x0.T]:List Qa),x0.Y]:List (List Qa)),rfl⟩⟩⟩,trivial⟩ (λ_ _ h=>by cases h) trivial rfl trivial trivial rfl trivial trivial trivial (rn_id (if_bl)) rfl) ?_
 refine z [31,1,8] ?_;exact rt []
theorem Qoh{x0}:∀ r,Qcm x0=some r->FnOk Tryz.prog 155 [Qx x0] [] (bl r) []:=by
 unfold Qcm
 refine fs Tryz.func155 λw S0 γ hγ=>?_;refine z [2] ?_;refine o (bx' 100) ?_;refine z [31,1,5,2,33,36,39,30,1,7] ?_;refine srN (λs6=>[(1,.own 100),(2,bl false),(6,sli 14 (List.map Qz x0.Tries))]) (λs6=>[(100,.bx 61 (Qx x0))]) (rE (eR [(100,100)])) ?_ ?_
 . intro i7 x8 s6 hx9
   refine z [7,2,43,42] ?_;refine o (al' 101) ?_;refine z [34,1,2,33,36,39,33,36,39,56,1] ?_;refine c ?_ ?_
   . refine z [2,31,1,8,12] ?_;refine sU ?_;refine z [12,10] ?_;exact rt []
   refine z [9,11] ?_;exact sgo (eR [(100,100)])
 intro s10
 refine z [13,4] ?_;refine sjq (λs13=>[(2,bl s13)]) (λs13=>[]) ?_ ?_
 . intro j11 hj12
   refine z [6,33,36,39,57,30] ?_;refine sifd 24 rfl ?_ ?_
   . refine z [22,22,22,22,38,31,1] ?_;exact sj (hj12 _) (eR [])
   refine z [23,23,23,23,37,31,1] ?_;exact sj (hj12 _) (eR [])
 intro s13
 refine z [8] ?_;exact rt []
theorem Qr0{n:Nat}{x0}:∀ r,Qef n x0=some r->FnOk Tryz.prog 156 [Qx x0] [] (bl r) []:=by
 unfold Qef
 refine fs Tryz.func156 λw S0 γ hγ=>?_;refine z [2] ?_;refine o (bx' 100) ?_;refine z [31,1,5,2,33,36,39,30,1,7] ?_;refine srN (λs25=>[(2,bl false),(6,sli 14 (List.map Qz x0.Tries))]) (λs25=>[]) (rE (eR [])) ?_ ?_
 . intro i26 x27 s25 hx28
   refine z [7,2,43,42] ?_;refine o (al' 101) ?_;refine z [34,1] ?_;refine sjq (λs39=>[(2,bl false),(6,sli 14 (List.map Qz x0.Tries)),(7,i64 (x0.Tries.length:Int)),(8,i64 (i26:Int)),(35,bl s39)]) (λs39=>[]) ?_ ?_
   . intro j37 hj38
     refine z [6,33,36] ?_;refine cb (ca Xy) λr40=>?_;refine z [58,30] ?_;refine sifd 16 rfl ?_ ?_
     . refine z [23,23,23,23,38,30,23,23,23,23,23,23,38,30,23,23,23,23,38,1] ?_;exact sj (hj38 _) (eR [])
     refine z [22,22] ?_;refine b λr42 h43=>?_;refine og' (c0 (Xy _ h43)) ?_;refine z [22,37,30] ?_;refine sifd 22 rfl ?_ ?_
     . refine z [23,23,23,23,23,23,38,30,23,23,23,23,38,1] ?_;exact sj (hj38 _) (eR [])
     refine z [22,22,22,22] ?_;refine b λr44 h45=>?_;refine og' (c0 (Wy _ h45)) ?_;refine z [22,37,30] ?_;refine sifd 30 rfl ?_ ?_
     . refine z [23,23,23,23,38,1] ?_;exact sj (hj38 _) (eR [])
     refine z [22,22] ?_;refine b λr46 h47=>?_;refine og' (c0 (Xy _ h47)) ?_;refine z [22,37,1] ?_;exact sj (hj38 _) (eR [])
   intro s39
   refine c ?_ ?_
   . refine z [2,31,1,8,12] ?_;refine sU ?_;refine z [12,10] ?_;exact rt []
   refine z [9,11] ?_;exact sgo eI
 intro s48
 refine z [13,4,2,31,1,8] ?_;exact rt []
theorem Qeo{n:Nat}{x0}{x1}:∀ r,Yj n x0 x1=some r->FnOk Tryz.prog 28 [sli 3 (List.map Qb x0),sli 3 (List.map Qb x1)] [] (bl r) []:=by
 unfold Yj
 refine fs Tryz.func28 λw S0 γ hγ=>?_;refine z [2,31,1,5,2,30,39,30,39,56,1] ?_;refine c ?_ ?_
 . refine z [2,31,1,8,10] ?_;exact rt []
 refine z [9,4,5,2,30,39,30,1,7] ?_;refine srN (λs10=>[(0,sli 3 (List.map Qb x0)),(1,sli 3 (List.map Qb x1)),(4,bl false)]) (λs10=>[]) (rE eI) ?_ ?_
 . intro i11 x12 s10 hx13
   refine z [7,2,30,31,1,5] ?_;refine b λy14 h15=>?_;refine b λr16 h17=>?_;refine sd ?_;refine zd [[],[],[],[],[],[],[],[]] ?_;refine dd [] (λ_ _ _ _=>c0 (J7 _ h17)) ?_;refine zd [[]] ?_;refine de fol ?_;refine z [4] ?_;refine c ?_ ?_
   . refine z [2,31,1,8,12] ?_;refine sU ?_;refine z [12,10] ?_;exact rt []
   refine z [9,11] ?_;exact sgo eI
 intro s18
 refine z [13,4,2,31,1,8] ?_;exact rt []
theorem Qoi{n:Nat}{x0}{x1}{x2}:∀ r,Qcn n x0 x1 x2=some r->FnOk Tryz.prog 208 [Qz x0,Qb x1,sli 3 (List.map Qb x2)] [] (bl r) []:=by
 unfold Qcn
 refine fs Tryz.func208 λw S0 γ hγ=>?_;refine z [2] ?_;refine o (bx' 100) ?_;refine o (bx' 101) ?_;refine z [31,1,5,2,33,36,1] ?_;refine c ?_ ?_
 . refine z [5] ?_;refine b λr1 h2=>?_;refine b λr3 h4=>?_;refine sd ?_;refine zd [[101],[100],[100],[100],[100]] ?_;refine dd [] (λ_ _ _ _=>c0 (Yn _ h2)) ?_;refine dd [] (λ_ _ _ _=>c0 (J7 _ h4)) ?_;refine zd [[]] ?_;refine de fol ?_;refine z [4,8,10] ?_;exact rt []
 refine z [9,4] ?_;refine sjq (λs11=>[(6,bl s11)]) (λs11=>[]) ?_ ?_
 . intro j9 hj10
   refine z [6,32,33,36] ?_;refine cb (ca J7) λr12=>?_;refine z [30] ?_;refine sifd 20 rfl ?_ ?_
   . refine z [22,22,22] ?_;refine b λr14 h15=>?_;refine og' (c0 (Qeo _ h15)) ?_;refine z [38,31,1] ?_;exact sj (hj10 _) (eR [])
   refine z [23,23,23,23,37,31,1] ?_;exact sj (hj10 _) (eR [])
 intro s11
 refine z [8] ?_;exact rt []
theorem Qr1{n:Nat}{x0}:∀ r,Qeg n x0=some r->FnOk Tryz.prog 157 [Qx x0] [] (bl r) []:=by
 unfold Qeg
 refine fs Tryz.func157 λw S0 γ hγ=>?_;refine z [2] ?_;refine o (bx' 100) ?_;refine z [31,1,5,2,33,36,39,30,1,7] ?_;refine srN (λs19=>[(1,.own 100),(2,bl false),(8,sli 14 (List.map Qz x0.Tries))]) (λs19=>[(100,.bx 61 (Qx x0))]) (rE (eR [(100,100)])) ?_ ?_
 . intro i20 x21 s19 hx22
   refine z [7,2,30,43,42] ?_;refine o (al' 101) ?_;refine z [31,34,1,5] ?_;refine sd ?_;refine zd [[100],[100],[100],[100]] ?_;refine dd [102] (λ_ _ _ _=>al' 102) ?_;refine zd [[102],[]] ?_;refine de fol ?_;refine z [4] ?_;refine sjq (λs29=>[(1,.own 100),(2,bl false),(4,.own 101),(5,.own 102),(6,sli 3 (List.map Qb s29.2)),(8,sli 14 (List.map Qz x0.Tries)),(9,i64 (x0.Tries.length:Int)),(10,i64 (i20:Int))]) (λs29=>[(100,.bx 61 (Qx x0)),(101,.bx 82 (Qz x21)),(102,.bx 53 (Qb s29.1))]) ?_ ?_
   . intro j27 hj28
     refine z [2,30,40,33,36,39,46,1] ?_;refine c ?_ ?_
     . refine b λy30 h31=>?_;refine b λy32 h33=>?_;refine sd ?_;refine zd [[100],[100],[],[]] ?_;refine dx [26,28] [] (λst mm ⟨a26,a28,_⟩ _=>og (ixR (f:=Qz) Tryz.underlying59 ti_82.h h31 rfl (a26.trans rfl) (a28.trans rfl))) ?_;refine zd [[],[],[100],[100],[],[]] ?_;refine dx [33,35] [] (λst mm ⟨a33,a35,_⟩ _=>og (ixR (f:=Qz) Tryz.underlying59 ti_82.h h33 rfl (a33.trans rfl) (a35.trans rfl))) ?_;refine zd [[],[],[102],[]] ?_;refine de fol ?_;refine z [4] ?_;exact sj (hj28 _) (eR [(100,100),(101,101),(102,102)])
     refine z [9,4] ?_;exact sj (hj28 _) (eR [(100,100),(101,101),(102,102)])
   intro s29
   refine z [2,32,32,30] ?_;refine cb (ca Qoi) λr34=>?_;refine z [44,1] ?_;refine c ?_ ?_
   . refine z [2,31,1,8,12] ?_;refine sU ?_;refine z [12,10] ?_;exact rt []
   refine z [9,11] ?_;exact sgo (eR [(100,100)])
 intro s36
 refine z [13,4,2,31,1,8] ?_;exact rt []
theorem Qr2{n:Nat}{x0}:∀ r,Qeh n x0=some r->FnOk Tryz.prog 86 [Qx x0] [] (i64 r) []:=by
 unfold Qeh
 refine fs Tryz.func86 λw S0 γ hγ=>?_;refine z [2] ?_;refine o (bx' 100) ?_;refine z [31,1,5,7,2,32] ?_;refine cb (ca Qrz) λr1=>?_;refine z [44,31,1] ?_;refine c ?_ ?_
 . refine z [2,31,1,8,12,10] ?_;exact rt []
 refine z [2,32] ?_;refine cb (ca Qoh) λr3=>?_;refine z [44,31,1] ?_;refine c ?_ ?_
 . refine z [2,31,1,8,12,10] ?_;exact rt []
 refine z [2,33,36,39,47,31,1] ?_;refine c ?_ ?_
 . refine z [2,31,1,8,12,10] ?_;exact rt []
 refine z [2,32] ?_;refine cb (ca Qr0) λr5=>?_;refine z [44,31,1] ?_;refine c ?_ ?_
 . refine z [2,31,1,8,12,10] ?_;exact rt []
 refine z [2,32] ?_;refine cb (ca Qr1) λr7=>?_;refine z [44,31,1] ?_;refine c ?_ ?_
 . refine z [2,31,1,8,12,10] ?_;exact rt []
 refine z [9,11,4,2,31,1,8] ?_;exact rt []
theorem Qan{n:Nat}{x0}:∀ r,Qcb n x0=some r->FnOk Tryz.prog 27 [Qx x0] [] (bl r) []:=by
 unfold Qcb
 refine fs Tryz.func27 λw S0 γ hγ=>?_;refine z [2] ?_;refine o (bx' 100) ?_;refine z [31,1,2,32] ?_;refine cb (ca Qr2) λr1=>?_;refine z [41,31,1,8] ?_;exact rt []
theorem Qs2{n:Nat}{x0}:∀ r,Qc4 n x0=some r->FnOk Tryz.prog 159 [sli 3 (List.map Qb x0)] [] (bl r) []:=by
 unfold Qc4
 refine fs Tryz.func159 λw S0 γ hγ=>?_;refine z [2,31,1,5,2,30,39,30,1,7] ?_;refine srN (λs8=>[(0,sli 3 (List.map Qb x0)),(2,bl false),(5,sli 3 (List.map Qb x0))]) (λs8=>[]) (rE eI) ?_ ?_
 . intro i9 x10 s8 hx11
   refine z [7,2,43,42] ?_;refine o (al' 100) ?_;refine z [34,1,2,32] ?_;refine cb (ca Xy) λr12=>?_;refine z [58,1] ?_;refine c ?_ ?_
   . refine z [2,31,1,8,12] ?_;refine sU ?_;refine z [12,10] ?_;exact rt []
   refine z [9,11] ?_;exact sgo (eR [])
 intro s14
 refine z [13,4,2,30,39,58,31,1,8] ?_;exact rt []
theorem Qqh{n:Nat}{x0}{x1}{x2}{x3}:∀ r,Yb n x0 x1 x2 x3=some r->FnOk Tryz.prog 88 [Qv x0,Qb x1,sli 3 (List.map Qb x2),sli 3 (List.map Qb x3)] [] (.tup [Qx r.1,Qi r.2]) []:=by
 unfold Yb
 refine fs Tryz.func88 λw S0 γ hγ=>?_;refine z [2] ?_;refine o (bx' 100) ?_;refine o (bx' 101) ?_;refine o (al' 102) ?_;refine o (al' 103) ?_;refine z [1,5] ?_;refine sjq (λs7=>[(2,sli 3 (List.map Qb x2)),(3,sli 3 (List.map Qb x3)),(4,.own 100),(5,.own 101),(8,.own 102),(9,.own 103),(30,bl s7)]) (λs7=>[(100,.bx 49 (Qv x0)),(101,.bx 53 (Qb x1)),(102,.bx 61 (Qx (⟨[],(⟨(⟨false,[]⟩:Qd),[]⟩:Qa),[]⟩:Qn))),(103,.bx 63 (Qi (⟨0,0,0,0⟩:Qc)))]) ?_ ?_
 . intro j5 hj6
   refine z [6,32] ?_;refine cb (ca Qg8) λr8=>?_;refine z [44,30] ?_;refine sifd 18 rfl ?_ ?_
   . refine z [23,23,23,23,23,23,38,30,23,23,23,38,1] ?_;exact sj (hj6 _) (eR [(100,100),(101,101),(102,102),(103,103)])
   refine z [22,22,22,22,22,22,37,30] ?_;refine sifd 26 rfl ?_ ?_
   . refine z [23,23,23,38,1] ?_;exact sj (hj6 _) (eR [(100,100),(101,101),(102,102),(103,103)])
   refine z [22] ?_;refine b λr10 h11=>?_;refine og' (c0 (Qs2 _ h11)) ?_;refine z [22,37,1] ?_;exact sj (hj6 _) (eR [(100,100),(101,101),(102,102),(103,103)])
 intro s7
 refine c ?_ ?_
 . refine z [2] ?_;refine s1 (bld (l:=[sli 14 (List.map Qz []),Qb (⟨(⟨false,[]⟩:Qd),[]⟩:Qa),sli 3 (List.map Qb [])]) pl_61.h ti_61.h X8 rfl rfl) ?_;refine s1 (bld (l:=[i64 (2:Int),i64 0,i64 0,i64 0]) pl_63.h ti_63.h Ql ⟨_,_,_,(kI (x:=2) rfl),rfl,rfl,rfl,(szk (k:=1) rfl rfl),rfl⟩ rfl) ?_;refine z [34,34,1,8,10] ?_;exact rt []
 refine z [9,4,2,32] ?_;refine cb (ca J0) λr12=>?_;refine cb (ca J3) λr14=>?_;refine z [30] ?_;refine b λr16 h17=>?_;refine o (cG (Qc5 _ h17) [] [(104,50)] []) ?_;refine fz 104 [37] [] ?_;refine so (bldO (l:=[.own 106,Qb r12,sli 3 (List.map Qb r16)]) [(106,82,14)] pl_61.h ti_61.h (Qih (Kj (c1:=[.slice none 0 0]) (Qgu rfl) (Kj (c1:=[.bool false,.slice none 0 0,.slice none 0 0]) (zo_of Jb) (Kj (c1:=[.slice none 0 0]) (zo_of (Kv (k:=3))) (Qgn))))) ⟨rfl,trivial⟩ rfl ⟨_,_,_,rfl,rfl,rfl,rfl,(szk (k:=3) rfl rfl),⟨_,_,_,rfl,rfl,rfl,rfl,(szk (k:=1) rfl rfl),rfl⟩⟩ rfl) ?_;refine o (al' 107) ?_;refine z [34,1,5,2,30,39,30,1,7] ?_;refine srN (λs47=>[(4,.own 100),(8,.own 102),(9,.own 103),(10,.own 107),(39,sli 3 (List.map Qb x3))]) (λs47=>[(100,.bx 49 (Qv x0)),(102,.bx 61 (Qx (⟨[],(⟨(⟨false,[]⟩:Qd),[]⟩:Qa),[]⟩:Qn))),(103,.bx 63 (Qi (⟨0,0,0,0⟩:Qc))),(107,.bx 61 (.agg [.own 106,Qb s47.2.1,sli 3 (List.map Qb s47.2.2)])),(106,.sl 82 14 (List.map Qz s47.1))]) (rE (eR [(100,100),(102,102),(103,103),(107,107),(106,106)])) ?_ ?_
 . intro i48 x49 s47 hx50
   refine z [7,2,30,43,42] ?_;refine o (al' 108) ?_;refine z [31,34,1,2,32] ?_;refine cb (ca J0) λr51=>?_;refine z [34,1,2,32,33,36,32,33,36] ?_;refine cb (ca Qpo) λr53=>?_;refine z [30,35,35] ?_;refine o (al' 109) ?_;refine o (al' 110) ?_;refine z [34,34,1,5,2,32] ?_;refine s1 (bld (l:=[i64 0,i64 0,i64 0,i64 0]) pl_63.h ti_63.h Ql rfl rfl) ?_;refine s1 (neA (p:=(r53.2:Qc)) (q:=((⟨0,0,0,0⟩:Qc):Qc)) J9 rfl eg_63 rfl rfl rfl) ?_;refine z [1] ?_;refine c ?_ ?_
   . refine z [2,30,40,33] ?_;refine o (stP (Qi (⟨r53.2.Kind,wrap64 ((i48:Int)+(1:Int)),r53.2.Stage,r53.2.At⟩:Qc)) [1]) ?_;refine z [1,5] ?_;refine sd ?_;refine dx [] [] (λst mm _ _=>og (bld (l:=[sli 14 (List.map Qz []),Qb (⟨(⟨false,[]⟩:Qd),[]⟩:Qa),sli 3 (List.map Qb [])]) pl_61.h ti_61.h X8 rfl rfl)) ?_;refine zd [[110],[102],[103]] ?_;refine de fol ?_;refine z [4,8,10,12] ?_;refine sU ?_;refine z [12,10] ?_;exact rt []
   refine z [9,4,5] ?_;refine b λr55 h56=>?_;refine b λy57 h58=>?_;refine sd ?_;refine zd [[107],[107],[107],[107],[108],[108],[109],[109]] ?_;refine dd [] (λ_ _ _ _=>c0 (Qm3 _ h56)) ?_;refine zd [[107],[107]] ?_;refine dx [69,70,71,74,76] [] (λst mm ⟨a69,a70,a71,a74,a76,_⟩ _=>og (bld (l:=[Qb s47.2.1,Qb r51,Qb r51,Qb r55,sli 3 (List.map Qb s47.2.2),bl true]) pl_82.h ti_82.h Qfi ⟨_,_,_,(a69.trans rfl),rfl,rfl,rfl,(szk (k:=3) rfl rfl),⟨_,_,_,(a70.trans rfl),rfl,rfl,rfl,(szk (k:=3) rfl rfl),⟨_,_,_,(a71.trans rfl),rfl,rfl,rfl,(szk (k:=3) rfl rfl),⟨_,_,_,(a74.trans rfl),rfl,rfl,rfl,(szk (k:=3) rfl rfl),⟨_,_,_,(a76.trans rfl),rfl,rfl,rfl,(szk (k:=1) rfl rfl),⟨_,_,_,kB,rfl,rfl,rfl,(szk (k:=1) rfl rfl),rfl⟩⟩⟩⟩⟩⟩ rfl)) ?_
   refine dx [77] [111] (λst mm ⟨a77,_⟩ ⟨g111,_⟩=>og (bsl (y:=111) (ls:=List.map Qz ([(⟨s47.2.1,r51,r51,r55,s47.2.2,true⟩:Qp)]:List Qp)) Tryz.underlying59 ti_82.h rfl rfl rfl rfl rfl ⟨rfl,(a77.trans rfl),(by exact rfl),(by exact rfl),trivial⟩ (g111.trans rfl) rfl)) ?_
   refine dd [106,111,112] (λ_ _ _ _=>app' 112) ?_;refine zd [[107]] ?_;refine dd [107] (λ_ _ _ _=>stP (.agg [.own 112,Qb s47.2.1,sli 3 (List.map Qb s47.2.2)]) [0]) ?_;refine de fol ?_;refine z [4] ?_;refine b λr59 h60=>?_;refine sd ?_;refine zd [[107],[107],[108]] ?_;refine dd [] (λ_ _ _ _=>c0 (Yn _ h60)) ?_;refine zd [[109],[109],[107]] ?_;refine dd [107] (λ_ _ _ _=>stP (.agg [.own 112,Qb r59,sli 3 (List.map Qb s47.2.2)]) [1]) ?_;refine zd [[107]] ?_;refine dd [107] (λ_ _ _ _=>stP (.agg [.own 112,Qb r59,sli 3 (List.map Qb r53.1.Next)]) [2]) ?_;refine de fol ?_;refine z [11] ?_;exact sgo (eR [(100,100),(102,102),(103,103),(107,107),(106,112)])
 intro s61
 refine z [13,4,2,32] ?_;refine s1 (bld (l:=[i64 0,i64 0,i64 0,i64 0]) pl_63.h ti_63.h Ql rfl rfl) ?_;refine z [34,34,1,8] ?_;refine fz 106 [90] [102,107] ?_;exact rt []
theorem Qoj{n:Nat}{x0}{x1}:∀ r,Yv n x0 x1=some r->FnOk Tryz.prog 30 [Qv x0,Qx x1] [] (.tup [Qx r.1,Qi r.2]) []:=by
 unfold Yv
 refine fs Tryz.func30 λw S0 γ hγ=>?_;refine z [2] ?_;refine o (bx' 100) ?_;refine o (bx' 101) ?_;refine o (al' 102) ?_;refine o (al' 103) ?_;refine z [1,2,32] ?_;refine cb (ca Qha) λr1=>?_;refine z [30,35,35,31,31,1,5] ?_;refine b λy3 h4=>?_;refine b λy5 h6=>?_;refine b λr7 h8=>?_;refine b λr9 h10=>?_;refine sd ?_;refine zd [[100],[],[],[],[],[],[],[101]] ?_;refine dd [] (λ_ _ _ _=>c0 (Qkq _ h8)) ?_;refine dd [] (λ_ _ _ _=>c0 (Qqh _ h10)) ?_;refine zd [[],[],[102],[103]] ?_;refine de fol ?_;refine z [4,8] ?_;exact rt []
end Go.Proofs.YtlihkcaoachkdaaGreatDoor
