import Derived.Test.YtlihkcaoachkdaaGreatDoorGen0
import Derived.Test.YtlihkcaoachkdaaGreatDoorGenA1
import Derived.Test.YtlihkcaoachkdaaGreatDoorGenA2
import Derived.Test.YtlihkcaoachkdaaGreatDoorGenA3
set_option maxRecDepth 100000
set_option maxHeartbeats 4000000
namespace Go.Proofs.YtlihkcaoachkdaaGreatDoor
open Go Go.RowKit
theorem Qye{n:Nat}{x0}:∀ r,Qge n x0=some r->FnOk Tryz.prog 172 [sli 3 (List.map Qb x0)] [] (Qb r) []:=by
 unfold Qge
 refine fs Tryz.func172 λw S0 γ hγ=>?_;refine z [2] ?_;refine o (al' 100) ?_;refine z [1,2] ?_;refine cb (ca Kl) λr1=>?_;refine o (al' 101) ?_;refine z [34,1,5,2,30,39,30,1,7] ?_;refine srN (λs30=>[(2,.own 100),(3,.own 101),(7,sli 3 (List.map Qb x0))]) (λs30=>[(100,.bx 53 (Qb (⟨(⟨false,[]⟩:Qd),[]⟩:Qa))),(101,.bx 53 (Qb s30))]) (rE (eR [(100,100),(101,101)])) ?_ ?_
 . intro i31 x32 s30 hx33
   refine z [7,2,30,43,42] ?_;refine o (al' 102) ?_;refine z [31,34,1] ?_;refine sjq (λs38=>[(2,.own 100),(3,.own 101),(5,.own 102),(7,sli 3 (List.map Qb x0)),(8,i64 (x0.length:Int)),(9,i64 (i31:Int)),(21,bl s38)]) (λs38=>[(100,.bx 53 (Qb (⟨(⟨false,[]⟩:Qd),[]⟩:Qa))),(101,.bx 53 (Qb s30)),(102,.bx 53 (Qb x32))]) ?_ ?_
   . intro j36 hj37
     refine z [6,30,41,30] ?_;refine sifd 16 rfl ?_ ?_
     . refine z [23,23,23,23,38,1] ?_;exact sj (hj37 _) (eR [(100,100),(101,101),(102,102)])
     refine z [22,22] ?_;refine b λr39 h40=>?_;refine og' (c0 (Xk _ h40)) ?_;refine z [22,37,1] ?_;exact sj (hj37 _) (eR [(100,100),(101,101),(102,102)])
   intro s38
   refine c ?_ ?_
   . refine z [6,32] ?_;refine cb (ca J2) λr41=>?_;refine z [34,3,11] ?_;exact sgo (eR [(100,100),(101,101)])
   refine z [9,11] ?_;exact sgo (eR [(100,100),(101,101)])
 intro s43
 refine z [13,4,2,32,34,1,8] ?_;exact rt []
theorem Qme{n:Nat}{x0}:∀ r,Qac n x0=some r->FnOk Tryz.prog 106 [sli 3 (List.map Qb x0)] [] (Qb r) []:=by
 unfold Qac
 refine fs Tryz.func106 λw S0 γ hγ=>?_;refine z [2] ?_;refine o (al' 100) ?_;refine z [1,2] ?_;refine cb (ca Kl) λr1=>?_;refine o (al' 101) ?_;refine z [34,1,5,2,30,39,30,1,7] ?_;refine srN (λs22=>[(2,.own 100),(3,.own 101),(7,sli 3 (List.map Qb x0))]) (λs22=>[(100,.bx 53 (Qb (⟨(⟨false,[]⟩:Qd),[]⟩:Qa))),(101,.bx 53 (Qb s22))]) (rE (eR [(100,100),(101,101)])) ?_ ?_
 . intro i23 x24 s22 hx25
   refine z [7,2,43,42] ?_;refine o (al' 102) ?_;refine z [34,1] ?_;refine b λr26 h27=>?_;refine b λr28 h29=>?_;refine sd ?_;refine zd [[101],[102]] ?_;refine dd [] (λ_ _ _ _=>c0 (Qyd _ h27)) ?_
   refine dx [13,15] [103] (λst mm ⟨a13,a15,_⟩ ⟨g103,_⟩=>og (toV (bsl (y:=103) (ls:=List.map Qb ([s22,r26]:List Qa)) Tryz.underlying44 ti_53.h rfl rfl rfl rfl rfl ⟨rfl,(a13.trans rfl),(by exact rfl),(by exact rfl),rfl,(a15.trans rfl),(by exact rfl),(by exact rfl),trivial⟩ (g103.trans rfl) rfl) (Vu (f:=Qb) (λ_=>Ju) ([s22,r26]:List Qa)))) ?_
   refine dd [] (λ_ _ _ _=>c0 (Qye _ h29)) ?_;refine zd [[101]] ?_;refine de fol ?_;refine z [11] ?_;exact sgo (eR [(100,100),(101,101)])
 intro s30
 refine z [13,4,2,32,34,1,8] ?_;exact rt []
theorem Qlm{n:Nat}{x0}{x1}:∀ r,Qam n x0 x1=some r->FnOk Tryz.prog 107 [K2 x0,Qb x1] [] (bl r) []:=by
 unfold Qam
 refine fs Tryz.func107 λw S0 γ hγ=>?_;refine z [2] ?_;refine o (bx' 100) ?_;refine o (bx' 101) ?_;refine z [31,1,2,32,33,36] ?_;refine cb (ca Xk) λr1=>?_;refine z [58,31,1,8] ?_;exact rt []
theorem Qt4{n:Nat}{x0}{x1}:∀ r,Qc4 n x0 x1=some r->FnOk Tryz.prog 303 [Q1 x0,Q1 x1] [] (.tup [Q1 r.1,Q1 r.2.1,bl r.2.2]) []:=by
 unfold Qc4
 refine fs Tryz.func303 λw S0 γ hγ=>?_;refine z [2] ?_;refine o (bx' 100) ?_;refine o (bx' 101) ?_;refine o (al' 102) ?_;refine o (al' 103) ?_;refine z [31,1,2,33,36,33,36] ?_;refine cb (ca Qgi) λr1=>?_;refine z [30,35,35,35,31,31,31,1,5,2,30,44,1] ?_;refine c ?_ ?_
 . refine z [2] ?_;refine s1 (bld (l:=[bl false,sli 1 (List.map u32 [])]) pl_51.h ti_51.h Kz rfl rfl) ?_;refine s1 (bld (l:=[bl false,sli 1 (List.map u32 [])]) pl_51.h ti_51.h Kz rfl rfl) ?_;refine z [34,34,31,1,8,10] ?_;exact rt []
 refine z [9,4,2,33,36,33,36,75,30] ?_;refine cb (ca W5) λr3=>?_;refine z [34,1,5] ?_;refine b λr5 h6=>?_;refine b λr7 h8=>?_;refine sd ?_;refine zd [[100],[102],[101]] ?_;refine dd [] (λ_ _ _ _=>c0 (Qk3 _ h6)) ?_;refine dd [] (λ_ _ _ _=>c0 (Qhk _ h8)) ?_;refine zd [[103]] ?_;refine de fol ?_;refine z [4] ?_;refine sjq (λs21=>[(4,.own 102),(5,.own 103),(6,bl r1.2.2)]) (λs21=>[(102,.bx 51 (Q1 s21.1)),(103,.bx 51 (Q1 s21.2))]) ?_ ?_
 . intro j19 hj20
   refine z [5] ?_;refine b λr22 h23=>?_;refine b λr24 h25=>?_;refine sd ?_;refine zd [[103]] ?_;refine dd [] (λ_ _ _ _=>c0 (Qd8 _ h23)) ?_;refine zd [[101]] ?_;refine dd [] (λ_ _ _ _=>c0 (Qd8 _ h25)) ?_;refine zd [[],[]] ?_;refine de fol ?_;refine z [4] ?_;refine c ?_ ?_
   . refine z [5] ?_;refine b λr26 h27=>?_;refine b λr28 h29=>?_;refine sd ?_;refine zd [[102]] ?_;refine dd [] (λ_ _ _ _=>c0 (Ql8 _ h27)) ?_;refine dd [] (λ_ _ _ _=>c0 (Qhk _ h29)) ?_;refine zd [[102]] ?_;refine de fol ?_;refine z [4,6,32,32] ?_;refine cb (ca Qk4) λr30=>?_;refine z [34,1] ?_;exact sj (hj20 _) (eR [(102,102),(103,103)])
   refine z [9,4] ?_;exact sj (hj20 _) (eR [(102,102),(103,103)])
 intro s21
 refine z [5] ?_;refine sd ?_;refine zd [[102],[103],[102],[103],[]] ?_;refine de fol ?_;refine z [4,8] ?_;exact rt []
theorem Qvs{n:Nat}{x0}:∀ r,Qd4 n x0=some r->FnOk Tryz.prog 267 [Qb x0] [] (Q1 r) []:=by
 unfold Qd4
 refine fs Tryz.func267 λw S0 γ hγ=>?_;refine z [2] ?_;refine o (bx' 100) ?_;refine o (al' 101) ?_;refine z [1,2,32] ?_;refine cb (ca Wk) λr1=>?_;refine z [30,35,35] ?_;refine o (al' 102) ?_;refine z [34,31,1,2,32,30] ?_;refine s1 (bld (l:=[bl false,sli 1 (List.map u32 r1.2)]) pl_51.h ti_51.h Kz ⟨_,_,_,rfl,rfl,rfl,rfl,(szk (k:=1) rfl rfl),rfl⟩ rfl) ?_;refine cb (ca Qt4) λr3=>?_;refine z [30,35,35,35] ?_;refine o (al' 103) ?_;refine o (al' 104) ?_;refine z [34,34,31,1,2,32,34,1,8] ?_;exact rt []
theorem Qwu{n:Nat}{x0}{x1}:∀ r,Qe2 n x0 x1=some r->FnOk Tryz.prog 223 [Qb x0,i64 x1] [] (Qb r) []:=by
 unfold Qe2
 refine fs Tryz.func223 λw S0 γ hγ=>?_;refine z [2] ?_;refine o (bx' 100) ?_;refine o (al' 101) ?_;refine z [1,5] ?_;refine b λr1 h2=>?_;refine b λr3 h4=>?_;refine b λr5 h6=>?_;refine sd ?_;refine zd [[100],[]] ?_;refine dd [] (λ_ _ _ _=>c0 (Kl _ h2)) ?_;refine dd [] (λ_ _ _ _=>c0 (Qcv _ h4)) ?_;refine dd [] (λ_ _ _ _=>c0 (Qvs _ h6)) ?_;refine dd [102] (λ_ _ _ _=>al' 102) ?_;refine zd [[102]] ?_;refine de fol ?_;refine z [4,5] ?_;refine b λr7 h8=>?_;refine b λr9 h10=>?_;refine sd ?_;refine zd [[102],[]] ?_;refine dd [] (λ_ _ _ _=>c0 (Ql8 _ h8)) ?_
 refine dx [16] [] (λst mm ⟨a16,_⟩ _=>og (fld Q1u (by exact rfl) (by exact rfl) (by exact rfl) rfl (a16.trans rfl))) ?_
 refine dd [] (λ_ _ _ _=>c0 (Qir _ h10)) ?_;refine zd [[],[],[]] ?_;refine dd [103] (λ_ _ _ _=>al' 103) ?_;refine zd [[103],[]] ?_;refine de fol ?_;refine z [4,2,32,34,1,8] ?_;exact rt []
theorem Qt5{n:Nat}{x0}{x1}:∀ r,Qc5 n x0 x1=some r->FnOk Tryz.prog 174 [K2 x0,Qb x1] [] (Qb r) []:=by
 unfold Qc5
 refine fs Tryz.func174 λw S0 γ hγ=>?_;refine z [2] ?_;refine o (bx' 100) ?_;refine o (bx' 101) ?_;refine o (al' 102) ?_;refine z [1,5] ?_;refine b λr1 h2=>?_;refine b λr3 h4=>?_;refine sd ?_;refine zd [[100],[100],[100],[100]] ?_;refine dd [] (λ_ _ _ _=>c0 (Qcv _ h2)) ?_;refine zd [[101]] ?_;refine dd [] (λ_ _ _ _=>c0 (Qmb _ h4)) ?_;refine zd [[],[],[]] ?_;refine dd [103] (λ_ _ _ _=>al' 103) ?_;refine zd [[103],[]] ?_;refine de fol ?_;refine z [4,5,2,30,44,1] ?_;refine c ?_ ?_
 . refine z [2,33,36] ?_;refine cb (ca J2) λr5=>?_;refine z [34,1,8,10] ?_;exact rt []
 refine z [9,4,2,32,33,36] ?_;refine cb (ca Qwu) λr7=>?_;refine z [34,1,5,7,2,32,33,36] ?_;refine cb (ca Xk) λr9=>?_;refine z [46,31,1] ?_;refine c ?_ ?_
 . refine z [2,33,36] ?_;refine cb (ca J2) λr11=>?_;refine z [34,1,8,12,10] ?_;exact rt []
 refine z [2,32,33,36] ?_;refine cb (ca Xk) λr13=>?_;refine z [47,31,1] ?_;refine c ?_ ?_
 . refine z [2,33,36] ?_;refine cb (ca J2) λr15=>?_;refine z [34,1,8,12,10] ?_;exact rt []
 refine z [9,11,4,2,32,34,1,8] ?_;exact rt []
theorem Qpb{n:Nat}{x0}{x1}{x2}:∀ r,Qdi n x0 x1 x2=some r->FnOk Tryz.prog 108 [K2 x0,Qb x1,Qb x2] [] (Qb r) []:=by
 unfold Qdi
 refine fs Tryz.func108 λw S0 γ hγ=>?_;refine z [2] ?_;refine o (bx' 100) ?_;refine o (bx' 101) ?_;refine o (bx' 102) ?_;refine o (al' 103) ?_;refine z [1,5] ?_;refine b λr1 h2=>?_;refine b λr3 h4=>?_;refine sd ?_;refine zd [[101],[100],[102]] ?_;refine dd [] (λ_ _ _ _=>c0 (Qt5 _ h2)) ?_;refine dd [] (λ_ _ _ _=>c0 (Qcv _ h4)) ?_;refine zd [[103]] ?_;refine de fol ?_;refine z [4,8] ?_;exact rt []
theorem Qiu{n:Nat}{x0_k}{x0_h_Tries}{x0_h_T}{x0_h_Y}{x0_want}:∀ r,V6 n x0_k x0_h_Tries x0_h_T x0_h_Y x0_want=some r->FnOk Tryz.prog 56 [.own 0] [(0,.bx 119 (.agg [Q5 x0_k,.agg [.own 1,Qb x0_h_T,sli 3 (List.map Qb x0_h_Y)],Qb x0_want])),(1,.sl 82 14 (List.map Qu x0_h_Tries))] (Qo r.1) [(0,.bx 119 (.agg [Q5 r.2.1,.agg [.own 61,Qb r.2.2.1,sli 3 (List.map Qb r.2.2.2.1)],Qb r.2.2.2.2.1])),(1,.gone),(61,.sl 82 14 (List.map Qu r.2.2.2.2.2))]:=by
 unfold V6
 refine fs Tryz.func56 λw S0 γ hγ=>?_;refine z [2] ?_;refine o (al' 100) ?_;refine z [1,5] ?_;refine b λr1 h2=>?_;refine sd ?_;refine zd [[],[0],[0],[],[0],[],[0],[0],[],[0],[],[0],[0],[0]] ?_;refine dd [] (λ_ _ _ _=>c0 (Qqt _ h2)) ?_;refine dd [101] (λ_ _ _ _=>al' 101) ?_;refine zd [[101]] ?_;refine de fol ?_;refine z [4,5] ?_;refine b λr3 h4=>?_;refine sd ?_;refine zd [[],[0],[0],[],[0],[],[0],[0],[],[0],[101],[],[0],[0],[],[0]] ?_;refine dd [] (λ_ _ _ _=>c0 (Qkc _ h4)) ?_;refine zd [[],[],[]] ?_;refine dd [102] (λ_ _ _ _=>al' 102) ?_;refine dd [103] (λ_ _ _ _=>al' 103) ?_;refine zd [[102],[103]] ?_;refine de fol ?_;refine z [4,5,2,32] ?_;refine s1 (bld (l:=[i64 0,i64 0,i64 0,i64 0]) pl_63.h ti_63.h Qq rfl rfl) ?_;refine s1 (neA (p:=(r3.2:Qc)) (q:=((⟨0,0,0,0⟩:Qc):Qc)) Kk rfl eg_63 rfl rfl rfl) ?_;refine z [1] ?_;refine c ?_ ?_
 . refine z [2,30,48,33,45,36,55,40,33] ?_;refine o (stP (Qo (⟨r3.2.Kind,wrap64 ((x0_h_Tries.length:Int)+(1:Int)),r3.2.Stage,r3.2.At⟩:Qc)) [1]) ?_;refine z [1,2,32,34,1,8,10] ?_;exact rt [(0,0),(1,1),(61,1)]
 refine z [9,4,2,33,36] ?_;refine cb (ca Qme) λr5=>?_;refine o (al' 104) ?_;refine z [34,1,5] ?_;refine b λr7 h8=>?_;refine sd ?_;refine zd [[],[0],[0],[],[0],[],[0],[0],[0],[101],[104],[],[0],[0],[],[0],[],[0],[0],[],[0],[104]] ?_;refine dd [] (λ_ _ _ _=>c0 (Qlm _ h8)) ?_;refine dx [62,66,67,68,73,80] [] (λst mm ⟨a62,a66,a67,a68,a73,a80,_⟩ _=>og (bld (l:=[Qb x0_h_T,Qb x0_want,Qb r1,Qb r5,sli 3 (List.map Qb x0_h_Y),bl r7]) pl_82.h ti_82.h Qdk ⟨_,_,_,(a62.trans rfl),rfl,rfl,rfl,(szk (k:=3) rfl rfl),⟨_,_,_,(a66.trans rfl),rfl,rfl,rfl,(szk (k:=3) rfl rfl),⟨_,_,_,(a67.trans rfl),rfl,rfl,rfl,(szk (k:=3) rfl rfl),⟨_,_,_,(a68.trans rfl),rfl,rfl,rfl,(szk (k:=3) rfl rfl),⟨_,_,_,(a73.trans rfl),rfl,rfl,rfl,(szk (k:=1) rfl rfl),⟨_,_,_,(a80.trans rfl),rfl,rfl,rfl,(szk (k:=1) rfl rfl),rfl⟩⟩⟩⟩⟩⟩ rfl)) ?_;refine dd [105] (λ_ _ _ _=>al' 105) ?_;refine zd [[105]] ?_;refine de fol ?_;refine z [4,5] ?_;refine b λy9 h10=>?_;refine sd ?_;refine zd [[],[],[0],[0],[],[0],[105]] ?_
 refine dx [88] [106] (λst mm ⟨a88,_⟩ ⟨g106,_⟩=>og (bsl (y:=106) (ls:=List.map Qu ([(⟨x0_h_T,x0_want,r1,r5,x0_h_Y,r7⟩:Qm)]:List Qm)) Tryz.underlying59 ti_82.h rfl rfl rfl rfl rfl ⟨rfl,(a88.trans rfl),(by exact rfl),(by exact rfl),trivial⟩ (g106.trans rfl) rfl)) ?_
 refine dd [1,106,107] (λ_ _ _ _=>app' 107) ?_;refine zd [[0],[0],[]] ?_;refine dd [0] (λ_ _ _ _=>stP (.agg [Q5 x0_k,.agg [.own 107,Qb x0_h_T,sli 3 (List.map Qb x0_h_Y)],Qb x0_want]) [1,0]) ?_;refine de fol ?_;refine z [4] ?_;refine sjq (λs15=>[(0,.own 0),(2,.own 100),(3,.own 101),(5,.own 103),(6,.own 104)]) (λs15=>[(1,.gone),(0,.bx 119 (.agg [Q5 x0_k,.agg [.own 107,Qb s15.1,sli 3 (List.map Qb s15.2)],Qb x0_want])),(107,.sl 82 14 (List.map Qu y9)),(100,.bx 63 (Qo (⟨0,0,0,0⟩:Qc))),(101,.bx 53 (Qb r1)),(103,.bx 63 (Qo r3.2)),(104,.bx 53 (Qb r5))]) ?_ ?_
 . intro j13 hj14
   refine z [2,33,36,1] ?_;refine c ?_ ?_
   . refine b λr16 h17=>?_;refine sd ?_;refine zd [[],[],[],[0],[0],[],[0],[101]] ?_;refine dd [] (λ_ _ _ _=>c0 (Zo _ h17)) ?_;refine zd [[102],[102],[0],[0],[]] ?_;refine dd [0] (λ_ _ _ _=>stP (.agg [Q5 x0_k,.agg [.own 107,Qb r16,sli 3 (List.map Qb x0_h_Y)],Qb x0_want]) [1,1]) ?_;refine zd [[0],[0],[]] ?_;refine dd [0] (λ_ _ _ _=>stP (.agg [Q5 x0_k,.agg [.own 107,Qb r16,sli 3 (List.map Qb r3.1.Next)],Qb x0_want]) [1,2]) ?_;refine de fol ?_;refine z [4] ?_;exact sj (hj14 _) (eR [(1,1),(0,0),(107,107),(100,100),(101,101),(103,103),(104,104)])
   refine z [9,4] ?_;exact sj (hj14 _) (eR [(1,1),(0,0),(107,107),(100,100),(101,101),(103,103),(104,104)])
 intro s15
 refine z [5] ?_;refine b λr18 h19=>?_;refine sd ?_;refine zd [[],[],[0],[0],[],[0],[101],[104]] ?_;refine dd [] (λ_ _ _ _=>c0 (Qpb _ h19)) ?_;refine zd [[0],[0]] ?_;refine dd [0] (λ_ _ _ _=>stP (.agg [Q5 x0_k,.agg [.own 107,Qb s15.1,sli 3 (List.map Qb s15.2)],Qb r18]) [2]) ?_;refine de fol ?_;refine z [4,2,32,34,1,8] ?_;exact rt [(0,0),(1,1),(61,107)]
theorem Qgl{n:Nat}{x0}:∀ r,Zw n x0=some r->FnOk Tryz.prog 12 [Q5 x0] [] (.tup [Qj r.1,Qo r.2]) []:=by
 unfold Zw
 refine fs Tryz.func12 λw S0 γ hγ=>?_;refine z [2] ?_;refine o (bx' 100) ?_;refine o (al' 101) ?_;refine o (al' 102) ?_;refine z [1,16,5,2,32] ?_;refine cb (ca Qda) λr1=>?_;refine z [44,1] ?_;refine c ?_ ?_
 . refine z [2] ?_;refine s1 (bld (l:=[sli 14 (List.map Qu []),Qb (⟨(⟨false,[]⟩:Qd),[]⟩:Qa),sli 3 (List.map Qb [])]) pl_61.h ti_61.h Wm rfl rfl) ?_;refine s1 (bld (l:=[i64 (2:Int),i64 0,i64 0,i64 0]) pl_63.h ti_63.h Qq ⟨_,_,_,(kI (x:=2) rfl),rfl,rfl,rfl,(szk (k:=1) rfl rfl),rfl⟩ rfl) ?_;refine z [34,34,1,8,10,18] ?_;exact rt []
 refine z [9,4,5] ?_;refine b λr3 h4=>?_;refine b λr5 h6=>?_;refine b λr7 h8=>?_;refine b λr9 h10=>?_;refine sd ?_;refine zd [[100],[100],[100]] ?_;refine dd [] (λ_ _ _ _=>c0 (J2 _ h4)) ?_;refine dd [] (λ_ _ _ _=>c0 (Kl _ h6)) ?_;refine zd [[100],[100]] ?_;refine dd [103] (λ_ _ _ _=>tV (cG (Qaj _ h8) [] [(103,50)] [])) ?_;refine dx [15,19] [104] (λst mm ⟨a15,a19,_⟩ ⟨g104,_⟩=>og (bldO (l:=[.own 104,Qb r3,sli 3 (List.map Qb r7)]) [(104,82,14)] pl_61.h ti_61.h (Qho (Kh (c1:=[.slice none 0 0]) (Qf1 rfl) (Kh (c1:=[.bool false,.slice none 0 0,.slice none 0 0]) (zo_of Jm) (Kh (c1:=[.slice none 0 0]) (zo_of (Jz (k:=3))) (Qfk))))) ⟨(g104.trans rfl),trivial⟩ rfl ⟨_,_,_,(a15.trans rfl),rfl,rfl,rfl,(szk (k:=3) rfl rfl),⟨_,_,_,(a19.trans rfl),rfl,rfl,rfl,(szk (k:=1) rfl rfl),rfl⟩⟩ rfl)) ?_;refine zd [[100],[100]] ?_;refine dd [] (λ_ _ _ _=>c0 (J2 _ h10)) ?_;refine dx [20,12,23] [] (λst mm ⟨a20,a12,a23,_⟩ _=>og (bld (l:=[Q5 x0,.agg [.own 104,Qb r3,sli 3 (List.map Qb r7)],Qb r9]) Q29.h Q28.h Qql ⟨_,_,_,(a12.trans rfl),rfl,rfl,rfl,(szk (k:=38) rfl rfl),⟨_,_,_,(a20.trans rfl),rfl,rfl,rfl,(szk (k:=5) rfl rfl),⟨_,_,_,(a23.trans rfl),rfl,rfl,rfl,(szk (k:=3) rfl rfl),rfl⟩⟩⟩ rfl)) ?_;refine dd [105] (λ_ _ _ _=>bx' 105) ?_;refine zd [[]] ?_;refine de fol ?_;refine z [4,2] ?_;refine o (al' 106) ?_;refine z [1,2] ?_;refine s1 (mkC (l:=[106]) ⟨rfl,trivial⟩ rfl) ?_;refine z [31,1,5,20,4,5,7] ?_;refine sloopE 0 (λt=>t) (λs57=>[(2,.own 101),(3,.own 102),(4,.own 105),(5,.own 106),(6,.clo 53 [106])]) (λs57=>[(101,.bx 61 (Qj (⟨[],(⟨(⟨false,[]⟩:Qd),[]⟩:Qa),[]⟩:Qi))),(102,.bx 63 (Qo (⟨0,0,0,0⟩:Qc))),(105,.bx 119 (.agg [Q5 s57.1,.agg [.own 104,Qb s57.2.2.1,sli 3 (List.map Qb s57.2.2.2.1)],Qb s57.2.2.2.2.1])),(104,.sl 82 14 (List.map Qu s57.2.1)),(106,.bx 63 (Qo s57.2.2.2.2.2))]) (λt55=>[(2,.own 101),(3,.own 102),(4,.own 105),(5,.own 106)]) (λt55=>[(101,.bx 61 (Qj (⟨[],(⟨(⟨false,[]⟩:Qd),[]⟩:Qa),[]⟩:Qi))),(102,.bx 63 (Qo (⟨0,0,0,0⟩:Qc))),(105,.bx 119 (.agg [Q5 t55.1,.agg [.own 104,Qb t55.2.2.1,sli 3 (List.map Qb t55.2.2.2.1)],Qb t55.2.2.2.2.1])),(104,.sl 82 14 (List.map Qu t55.2.1)),(106,.bx 63 (Qo t55.2.2.2.2.2))]) (eR [(101,101),(102,102),(105,105),(104,104),(106,106)]) ?_ ?_
 . intro hj56 s57
   refine z [5,2,30] ?_;refine b λr58 h59=>?_;refine o (cG (Qk5 _ h59) [105,104] [] [105,104]) ?_;refine z [44,1] ?_;refine c ?_ ?_
   . refine z [9,4,7] ?_;refine sjq (λs70=>[(2,.own 101),(3,.own 102),(4,.own 105),(5,.own 106),(6,.clo 53 [106]),(39,bl s70.2.2.2.2.2.2)]) (λs70=>[(101,.bx 61 (Qj (⟨[],(⟨(⟨false,[]⟩:Qd),[]⟩:Qa),[]⟩:Qi))),(102,.bx 63 (Qo (⟨0,0,0,0⟩:Qc))),(105,.bx 119 (.agg [Q5 s70.1,.agg [.own 104,Qb s70.2.2.1,sli 3 (List.map Qb s70.2.2.2.1)],Qb s70.2.2.2.2.1])),(104,.sl 82 14 (List.map Qu s70.2.1)),(106,.bx 63 (Qo s70.2.2.2.2.2.1))]) ?_ ?_
     . intro j68 hj69
       refine z [6,30,30] ?_;refine b λr71 h72=>?_;refine o (cG (Qli _ h72) [105,104] [] [105,104]) ?_;refine b λr73 h74=>?_;refine so (callC (la:=[_]) (lc:=[0]) (em:=[(106,.bx 63 (Qo r73.2))]) (res':=bl r73.1) [(0,106)] [] [(106,0)] rfl (Qlj _ h74) rfl rfl ⟨⟨_,rfl,rn_id Qap⟩,trivial⟩ (MiF.get (mi:=[(0,_)]) ⟨⟨_,_,rfl,rfl,rc_bx (rn_id Qap)⟩,trivial⟩) ⟨⟨_,rfl⟩,trivial⟩ rfl trivial ⟨.inr rfl,trivial⟩ rfl ⟨.inl ⟨_,_,rfl,rfl,rc_bx (rn_id Qap)⟩,trivial⟩ ⟨⟨_,rfl⟩,trivial⟩ trivial (rn_id if_bl) rfl) ?_;refine z [30] ?_;refine sifd 34 rfl ?_ ?_
       . refine z [23,23,23,23,38,1] ?_;exact sj (hj69 _) (eR [(101,101),(102,102),(105,105),(104,104),(106,106)])
       refine z [22,22] ?_;refine b λr75 h76=>?_;refine og' (cG (Qiu _ h76) [105,104] [(107,61)] []) ?_;refine b λr77 h78=>?_;refine sg 34 rfl rfl (callC (la:=[_]) (lc:=[0]) (em:=[(106,.bx 63 (Qo r77.2))]) (res':=bl r77.1) [(0,106)] [] [(106,0)] rfl (Qlj _ h78) rfl rfl ⟨⟨_,rfl,rn_id Qap⟩,trivial⟩ (MiF.get (mi:=[(0,_)]) ⟨⟨_,_,rfl,rfl,rc_bx (rn_id Qap)⟩,trivial⟩) ⟨⟨_,rfl⟩,trivial⟩ rfl trivial ⟨.inr rfl,trivial⟩ rfl ⟨.inl ⟨_,_,rfl,rfl,rc_bx (rn_id Qap)⟩,trivial⟩ ⟨⟨_,rfl⟩,trivial⟩ trivial (rn_id if_bl) rfl) ?_;refine z [37,1] ?_;exact sj (hj69 _) (eR [(101,101),(102,102),(105,105),(104,107),(106,106)])
     intro s70
     refine c ?_ ?_
     . refine z [14,21] ?_;exact su (sj (hj56 _) (eR [(101,101),(102,102),(105,105),(104,104),(106,106)]))
     refine z [9,11] ?_;exact sgo (eR [(101,101),(102,102),(105,105),(104,104),(106,106)])
   refine z [14,15] ?_;exact su (sj (hj56 _) (eR [(101,101),(102,102),(105,105),(104,104),(106,106)]))
 intro t55
 refine z [13,4,5] ?_;refine sd ?_;refine zd [[],[105],[105],[105],[106],[101],[102]] ?_;refine de fol ?_;refine z [4,8,18] ?_;refine fz 104 [43] [101,105] ?_;exact rt []
theorem Qfb{n:Nat}{x0}:∀ r,Y8 n x0=some r->FnOk Tryz.prog 11 [Q5 x0] [] (.tup [Qj r.1,Qo r.2]) []:=by
 unfold Y8
 refine fs Tryz.func11 λw S0 γ hγ=>?_;refine z [2] ?_;refine o (bx' 100) ?_;refine o (al' 101) ?_;refine o (al' 102) ?_;refine z [1,2,32] ?_;refine cb (ca Qgl) λr1=>?_;refine z [30,35,35] ?_;refine o (al' 103) ?_;refine o (al' 104) ?_;refine z [34,34,1,5,2,32] ?_;refine s1 (bld (l:=[i64 0,i64 0,i64 0,i64 0]) pl_63.h ti_63.h Qq rfl rfl) ?_;refine s1 (neA (p:=(r1.2:Qc)) (q:=((⟨0,0,0,0⟩:Qc):Qc)) Kk rfl eg_63 rfl rfl rfl) ?_;refine z [1] ?_;refine c ?_ ?_
 . refine z [5] ?_;refine sd ?_;refine dx [] [] (λst mm _ _=>og (bld (l:=[sli 14 (List.map Qu []),Qb (⟨(⟨false,[]⟩:Qd),[]⟩:Qa),sli 3 (List.map Qb [])]) pl_61.h ti_61.h Wm rfl rfl)) ?_;refine zd [[104],[101],[102]] ?_;refine de fol ?_;refine z [4,8,10] ?_;exact rt []
 refine z [9,4,5] ?_;refine sd ?_;refine zd [[103],[104],[101],[102]] ?_;refine de fol ?_;refine z [4,8] ?_;exact rt []
theorem Xl{x0}:∀ r,Vc x0=some r->FnOk Tryz.prog 143 [Qu x0] [] (sli 3 (List.map Qb r)) []:=by
 unfold Vc
 refine fs Tryz.func143 λw S0 γ hγ=>?_;refine z [2] ?_;refine o (bx' 100) ?_;refine s1 (asg rfl (kLm (k:=3) Qb)) ?_;refine z [1,2,33,36,33,36,33,36,33,36] ?_
 refine so (bsl (y:=101) (ls:=List.map Qb ([x0.T,x0.Want,x0.H,x0.Err]:List Qa)) Tryz.underlying44 ti_53.h rfl rfl rfl rfl rfl ⟨rfl,rfl,(by exact rfl),(by exact rfl),rfl,rfl,(by exact rfl),(by exact rfl),rfl,rfl,(by exact rfl),(by exact rfl),rfl,rfl,(by exact rfl),(by exact rfl),trivial⟩ rfl rfl) ?_
 refine z [31,1,8] ?_;refine fz 101 [2,11] [] ?_;exact rt []
theorem Qia{n:Nat}{x0}:∀ r,Z3 n x0=some r->FnOk Tryz.prog 78 [sli 3 (List.map Qb x0)] [] (sli 3 (List.map Qb r)) []:=by
 unfold Z3
 refine fs Tryz.func78 λw S0 γ hγ=>?_;refine z [2] ?_;refine s1 (asg rfl (kLm (k:=3) Qb)) ?_;refine z [1,2] ?_;refine cb (ca Kl) λr1=>?_;refine z [30] ?_;refine b λr3 h4=>?_;refine o (cG (Qaj _ h4) [] [(100,50)] []) ?_;refine z [31,1,8] ?_;refine fz 100 [2,5] [] ?_;exact rt []
theorem Qkd{n:Nat}{x0}:∀ r,Z0 n x0=some r->FnOk Tryz.prog 76 [Qj x0] [] (sli 14 (List.map Qu r)) []:=by
 unfold Z0
 refine fs Tryz.func76 λw S0 γ hγ=>?_;refine z [2] ?_;refine o (bx' 100) ?_;refine s1 (asg rfl (kLm (k:=14) Qu)) ?_;refine z [1,2] ?_;refine so (asgN (y:=101) (E:=82) (k:=14) rfl rfl) ?_;refine z [1,5,2,33,36,39,30,1,7] ?_;refine srN (λs42=>[(2,sli 14 (List.map Qu ([]:List Qm))),(3,.own 101),(8,sli 14 (List.map Qu x0.Tries))]) (λs42=>[(101,.sl 82 14 (List.map Qu s42))]) (rE (eR [(101,101)])) ?_ ?_
 . intro i43 x44 s42 hx45
   refine z [7,2,43,42] ?_;refine o (al' 102) ?_;refine z [34,1,2,33,36,1] ?_;refine c ?_ ?_
   . refine z [2,32] ?_;refine cb (ca Xl) λr46=>?_;refine cb (ca Qia) λr48=>?_;refine z [31,1] ?_;refine b λy50 h51=>?_;refine b λy52 h53=>?_;refine b λy54 h55=>?_;refine b λy56 h57=>?_;refine b λr58 h59=>?_;refine b λy60 h61=>?_;refine sd ?_;refine zd [[],[],[],[],[],[],[],[],[],[],[],[],[],[102],[102]] ?_;refine dd [] (λ_ _ _ _=>c0 (Qia _ h59)) ?_;refine dx [22,25,28,31,34] [] (λst mm ⟨a22,a25,a28,a31,a34,_⟩ _=>og (bld (l:=[Qb y50,Qb y52,Qb y54,Qb y56,sli 3 (List.map Qb r58),bl true]) pl_82.h ti_82.h Qdk ⟨_,_,_,(a22.trans rfl),rfl,rfl,rfl,(szk (k:=3) rfl rfl),⟨_,_,_,(a25.trans rfl),rfl,rfl,rfl,(szk (k:=3) rfl rfl),⟨_,_,_,(a28.trans rfl),rfl,rfl,rfl,(szk (k:=3) rfl rfl),⟨_,_,_,(a31.trans rfl),rfl,rfl,rfl,(szk (k:=3) rfl rfl),⟨_,_,_,(a34.trans rfl),rfl,rfl,rfl,(szk (k:=1) rfl rfl),⟨_,_,_,kB,rfl,rfl,rfl,(szk (k:=1) rfl rfl),rfl⟩⟩⟩⟩⟩⟩ rfl)) ?_
     refine dx [35] [103] (λst mm ⟨a35,_⟩ ⟨g103,_⟩=>og (bsl (y:=103) (ls:=List.map Qu ([(⟨y50,y52,y54,y56,r58,true⟩:Qm)]:List Qm)) Tryz.underlying59 ti_82.h rfl rfl rfl rfl rfl ⟨rfl,(a35.trans rfl),(by exact rfl),(by exact rfl),trivial⟩ (g103.trans rfl) rfl)) ?_
     refine dd [101,103,104] (λ_ _ _ _=>app' 104) ?_;refine zd [[]] ?_;refine de fol ?_;refine z [11] ?_;exact sgo (eR [(101,104)])
   refine z [9,11] ?_;exact sgo (eR [(101,101)])
 intro s62
 refine z [13,4,2,30,31,1,8] ?_;refine fz 101 [2,3,39] [] ?_;exact rt []
theorem Y2{n:Nat}{x0}{x1}:∀ r,Vy n x0 x1=some r->FnOk Tryz.prog 28 [sli 3 (List.map Qb x0),sli 3 (List.map Qb x1)] [] (bl r) []:=by
 unfold Vy
 refine fs Tryz.func28 λw S0 γ hγ=>?_;refine z [2,31,1,5,2,30,39,30,39,56,1] ?_;refine c ?_ ?_
 . refine z [2,31,1,8,10] ?_;exact rt []
 refine z [9,4,5,2,30,39,30,1,7] ?_;refine srN (λs10=>[(0,sli 3 (List.map Qb x0)),(1,sli 3 (List.map Qb x1)),(4,bl false)]) (λs10=>[]) (rE eI) ?_ ?_
 . intro i11 x12 s10 hx13
   refine z [7,2,30,31,1,5] ?_;refine b λy14 h15=>?_;refine b λr16 h17=>?_;refine sd ?_;refine zd [[],[],[],[],[],[],[],[]] ?_;refine dd [] (λ_ _ _ _=>c0 (Jp _ h17)) ?_;refine zd [[]] ?_;refine de fol ?_;refine z [4] ?_;refine c ?_ ?_
   . refine z [2,31,1,8,12] ?_;refine sU ?_;refine z [12,10] ?_;exact rt []
   refine z [9,11] ?_;exact sgo eI
 intro s18
 refine z [13,4,2,31,1,8] ?_;exact rt []
theorem Qwv{n:Nat}{x0}{x1}:∀ r,Qhg n x0 x1=some r->FnOk Tryz.prog 77 [Qu x0,Qu x1] [] (bl r) []:=by
 unfold Qhg
 refine fs Tryz.func77 λw S0 γ hγ=>?_;refine z [2] ?_;refine o (bx' 100) ?_;refine o (bx' 101) ?_;refine z [31,1] ?_;refine sjq (λs13=>[(4,bl s13)]) (λs13=>[]) ?_ ?_
 . intro j11 hj12
   refine sif (λhb14=>?_) (λhb14=>?_)
   . refine b λr15 h16=>?_;refine b λr17 h18=>?_;refine b λr19 h20=>?_;refine sif (λhb21=>?_) (λhb21=>?_)
     . refine b λr22 h23=>?_;refine sd ?_;refine zd [[100],[100],[101],[101],[]] ?_;refine dd [] (λ_ _ _ _=>obk hb14 ops) ?_;refine zd [[100]] ?_;refine dG [] (λ_ _ _ _=>c0 (Xl _ h16)) ?_;refine zd [[101]] ?_;refine dG [] (λ_ _ _ _=>c0 (Xl _ h18)) ?_;refine dG [] (λ_ _ _ _=>c0 (Y2 _ h20)) ?_;refine zd [[]] ?_;refine dd [] (λ_ _ _ _=>obk hb21 ops) ?_;refine zd [[100],[100],[101],[101]] ?_;refine dG [] (λ_ _ _ _=>c0 (Y2 _ h23)) ?_;refine zd [[],[]] ?_;refine de fol ?_;refine z [4] ?_;exact sj (hj12 _) (eR [])
     refine sd ?_;refine zd [[100],[100],[101],[101],[]] ?_;refine dd [] (λ_ _ _ _=>obk hb14 ops) ?_;refine zd [[100]] ?_;refine dG [] (λ_ _ _ _=>c0 (Xl _ h16)) ?_;refine zd [[101]] ?_;refine dG [] (λ_ _ _ _=>c0 (Xl _ h18)) ?_;refine dG [] (λ_ _ _ _=>c0 (Y2 _ h20)) ?_;refine zd [[]] ?_;refine dd [] (λ_ _ _ _=>obk hb21 ops) ?_;refine zd [[],[],[],[],[],[],[]] ?_;refine de fol ?_;refine z [4] ?_;exact sj (hj12 _) (eR [])
   refine sd ?_;refine zd [[100],[100],[101],[101],[]] ?_;refine dd [] (λ_ _ _ _=>obk hb14 ops) ?_;refine zd [[],[],[],[],[],[],[],[],[],[],[],[],[],[]] ?_;refine de fol ?_;refine z [4] ?_;exact sj (hj12 _) (eR [])
 intro s13
 refine z [8] ?_;exact rt []
theorem Qk6{n:Nat}{x0}{x1}:∀ r,Xx n x0 x1=some r->FnOk Tryz.prog 21 [Qj x0,Qj x1] [] (bl r) []:=by
 unfold Xx
 refine fs Tryz.func21 λw S0 γ hγ=>?_;refine z [2] ?_;refine o (bx' 100) ?_;refine o (bx' 101) ?_;refine z [31,1,5] ?_;refine sjq (λs7=>[(2,.own 100),(3,.own 101),(4,bl false),(29,bl s7)]) (λs7=>[(100,.bx 61 (Qj x0)),(101,.bx 61 (Qj x1))]) ?_ ?_
 . intro j5 hj6
   refine z [6,33,36,39,33,36,39,56,30] ?_;refine sifd 14 rfl ?_ ?_
   . refine z [23,23,23,23,23,23,38,30,23,23,23,23,23,23,38,1] ?_;exact sj (hj6 _) (eR [(100,100),(101,101)])
   refine z [22,22,22,22] ?_;refine b λr8 h9=>?_;refine og' (c0 (Jp _ h9)) ?_;refine z [22,37,30] ?_;refine sifd 22 rfl ?_ ?_
   . refine z [23,23,23,23,23,23,38,1] ?_;exact sj (hj6 _) (eR [(100,100),(101,101)])
   refine z [22,22,22,22] ?_;refine b λr10 h11=>?_;refine og' (c0 (Y2 _ h11)) ?_;refine z [22,37,1] ?_;exact sj (hj6 _) (eR [(100,100),(101,101)])
 intro s7
 refine c ?_ ?_
 . refine z [2,31,1,8,10] ?_;exact rt []
 refine z [9,4,5,2,33,36,39,30,1,7] ?_;refine srN (λs21=>[(3,.own 101),(4,bl false),(31,sli 14 (List.map Qu x0.Tries))]) (λs21=>[(101,.bx 61 (Qj x1))]) (rE (eR [(101,101)])) ?_ ?_
 . intro i22 x23 s21 hx24
   refine z [7,2,30,43,42] ?_;refine o (al' 102) ?_;refine z [31,34,1,5] ?_;refine b λy25 h26=>?_;refine b λr27 h28=>?_;refine sd ?_;refine zd [[102],[101],[101],[],[],[]] ?_;refine dd [] (λ_ _ _ _=>c0 (Qwv _ h28)) ?_;refine zd [[]] ?_;refine de fol ?_;refine z [4] ?_;refine c ?_ ?_
   . refine z [2,31,1,8,12] ?_;refine sU ?_;refine z [12,10] ?_;exact rt []
   refine z [9,11] ?_;exact sgo (eR [(101,101)])
 intro s29
 refine z [13,4,2,31,1,8] ?_;exact rt []
theorem Qjp{n:Nat}{x0}:∀ r,Xe n x0=some r->FnOk Tryz.prog 23 [Qj x0] [] (.tup [sli 3 (List.map Qb r.1),sli 1 (List.map Qg r.2)]) []:=by
 unfold Xe
 refine fs Tryz.func23 λw S0 γ hγ=>?_;refine z [2] ?_;refine o (bx' 100) ?_;refine s1 (asg rfl (kLm (k:=3) Qb)) ?_;refine s1 (asg rfl (kLm (k:=1) Qg)) ?_;refine z [1,2] ?_;refine so (asgN (y:=101) (E:=53) (k:=3) rfl rfl) ?_;refine z [1,2] ?_;refine so (asgN (y:=102) (E:=44) (k:=1) rfl rfl) ?_;refine z [1,5,2,32] ?_;refine cb (ca Qkd) λr1=>?_;refine z [39,30,1,7] ?_;refine srN (λs20=>[(1,.own 100),(2,sli 3 (List.map Qb ([]:List Qa))),(3,sli 1 (List.map Qg ([]:List (List Qa)))),(4,.own 101),(5,.own 102),(9,sli 14 (List.map Qu r1))]) (λs20=>[(100,.bx 61 (Qj x0)),(101,.sl 53 3 (List.map Qb s20.1)),(102,.sl 44 1 (List.map Qg s20.2))]) (rE (eR [(100,100),(101,101),(102,102)])) ?_ ?_
 . intro i21 x22 s20 hx23
   refine z [7,2,43,42] ?_;refine o (al' 103) ?_;refine z [34,1,2,30,33,36] ?_
   refine so (bsl (y:=104) (ls:=List.map Qb ([x22.T]:List Qa)) Tryz.underlying44 ti_53.h rfl rfl rfl rfl rfl ⟨rfl,rfl,(by exact rfl),(by exact rfl),trivial⟩ rfl rfl) ?_
   refine b λy24 h25=>?_;refine o (app' 105) ?_;refine z [31,1,6,30,33,36] ?_
   refine so (bsl (y:=106) (ls:=List.map Qg ([x22.Y]:List (List Qa))) Tryz.underlying45 ti_44.h rfl rfl rfl rfl rfl ⟨rfl,rfl,(by exact rfl),(by exact rfl),trivial⟩ rfl rfl) ?_
   refine b λy26 h27=>?_;refine o (app' 107) ?_;refine z [31,3,11] ?_;exact sgo (eR [(100,100),(101,105),(102,107)])
 intro s28
 refine z [13,4,5] ?_;refine b λr29 h30=>?_;refine b λy31 h32=>?_;refine b λr33 h34=>?_;refine b λy35 h36=>?_;refine sd ?_;refine zd [[],[100],[100]] ?_;refine dd [] (λ_ _ _ _=>c0 (J2 _ h30)) ?_
 refine dx [29] [103] (λst mm ⟨a29,_⟩ ⟨g103,_⟩=>og (bsl (y:=103) (ls:=List.map Qb ([r29]:List Qa)) Tryz.underlying44 ti_53.h rfl rfl rfl rfl rfl ⟨rfl,(a29.trans rfl),(by exact rfl),(by exact rfl),trivial⟩ (g103.trans rfl) rfl)) ?_
 refine dd [101,103,104] (λ_ _ _ _=>app' 104) ?_;refine zd [[],[100],[100]] ?_;refine dd [] (λ_ _ _ _=>c0 (Qia _ h34)) ?_
 refine dx [35] [105] (λst mm ⟨a35,_⟩ ⟨g105,_⟩=>og (bsl (y:=105) (ls:=List.map Qg ([r33]:List (List Qa))) Tryz.underlying45 ti_44.h rfl rfl rfl rfl rfl ⟨rfl,(a35.trans rfl),(by exact rfl),(by exact rfl),trivial⟩ (g105.trans rfl) rfl)) ?_
 refine dd [102,105,106] (λ_ _ _ _=>app' 106) ?_;refine zd [[],[]] ?_;refine de fol ?_;refine z [4,8] ?_;refine fz 104 [2,31] [] ?_;refine fz 106 [3,37] [] ?_;exact rt []
theorem Qnt{n:Nat}{x0}:∀ r,Zy n x0=some r->FnOk Tryz.prog 24 [Qj x0] [] (sli 3 (List.map Qb r)) []:=by
 unfold Zy
 refine fs Tryz.func24 λw S0 γ hγ=>?_;refine z [2] ?_;refine o (bx' 100) ?_;refine s1 (asg rfl (kLm (k:=3) Qb)) ?_;refine z [1,2] ?_;refine so (asgN (y:=101) (E:=53) (k:=3) rfl rfl) ?_;refine z [1,5,2,32] ?_;refine cb (ca Qkd) λr1=>?_;refine z [39,30,1,7] ?_;refine srN (λs16=>[(2,sli 3 (List.map Qb ([]:List Qa))),(3,.own 101),(7,sli 14 (List.map Qu r1))]) (λs16=>[(101,.sl 53 3 (List.map Qb s16))]) (rE (eR [(101,101)])) ?_ ?_
 . intro i17 x18 s16 hx19
   refine z [7,2,43,42] ?_;refine o (al' 102) ?_;refine z [34,1,6,30,33,36] ?_
   refine so (bsl (y:=103) (ls:=List.map Qb ([x18.H]:List Qa)) Tryz.underlying44 ti_53.h rfl rfl rfl rfl rfl ⟨rfl,rfl,(by exact rfl),(by exact rfl),trivial⟩ rfl rfl) ?_
   refine b λy20 h21=>?_;refine o (app' 104) ?_;refine z [31,3,11] ?_;exact sgo (eR [(101,104)])
 intro s22
 refine z [13,4,2,30,31,1,8] ?_;refine fz 101 [2,3,19] [] ?_;exact rt []
theorem Qm1{n:Nat}{x0}:∀ r,X8 n x0=some r->FnOk Tryz.prog 207 [sli 1 (List.map Qg x0)] [] (bl r) []:=by
 unfold X8
 refine fs Tryz.func207 λw S0 γ hγ=>?_;refine z [2,31,1,5,2,30,39,30,1,7] ?_;refine srN (λs20=>[(2,bl false),(7,sli 1 (List.map Qg x0))]) (λs20=>[]) (rE eI) ?_ ?_
 . intro i21 x22 s20 hx23
   refine z [7,2,43,42,31,1,2,30,39,30,1,7] ?_;refine srN (λs31=>[(2,bl false),(7,sli 1 (List.map Qg x0)),(8,i64 (x0.length:Int)),(9,i64 (i21:Int)),(13,sli 3 (List.map Qb x22))]) (λs31=>[]) (rE eI) ?_ ?_
   . intro i32 x33 s31 hx34
     refine z [7,2,43,42] ?_;refine o (al' 100) ?_;refine z [34,1,2,32] ?_;refine cb (ca Qgj) λr35=>?_;refine z [44,1] ?_;refine c ?_ ?_
     . refine z [2,31,1,8,12] ?_;refine sU ?_;refine z [12,12] ?_;refine sU ?_;refine z [12,10] ?_;exact rt []
     refine z [9,11] ?_;exact sgo (eR [])
   intro s37
   refine z [13,11] ?_;exact sgo eI
 intro s38
 refine z [13,4,2,31,1,8] ?_;exact rt []
theorem Qvt{n:Nat}{x0}:∀ r,Qcc n x0=some r->FnOk Tryz.prog 154 [Qj x0] [] (bl r) []:=by
 unfold Qcc
 refine fs Tryz.func154 λw S0 γ hγ=>?_;refine z [2] ?_;refine o (bx' 100) ?_;refine z [31,1,5,2,33,36,39,30,1,7] ?_;refine srN (λs10=>[(1,.own 100),(2,bl false),(6,sli 14 (List.map Qu x0.Tries))]) (λs10=>[(100,.bx 61 (Qj x0))]) (rE (eR [(100,100)])) ?_ ?_
 . intro i11 x12 s10 hx13
   refine z [7,2,43,42] ?_;refine o (al' 101) ?_;refine z [34,1,5] ?_;refine b λr14 h15=>?_;refine b λr16 h17=>?_;refine sd ?_;refine zd [[101]] ?_;refine dd [] (λ_ _ _ _=>c0 (Xl _ h15)) ?_;refine zd [[101],[101]] ?_
   refine dx [13,15] [102] (λst mm ⟨a13,a15,_⟩ ⟨g102,_⟩=>og (bsl (y:=102) (ls:=List.map Qg ([r14,x12.Y]:List (List Qa))) Tryz.underlying45 ti_44.h rfl rfl rfl rfl rfl ⟨rfl,(a13.trans rfl),(by exact rfl),(by exact rfl),rfl,(a15.trans rfl),(by exact rfl),(by exact rfl),trivial⟩ (g102.trans rfl) rfl)) ?_
   refine dx [16] [102] (λst mm ⟨a16,_⟩ ⟨g102,_⟩=>og (callL (em:=[]) [102] [] [] [] rfl (Qm1 _ h17) trivial (pl_bl) ⟨.inr ⟨102,rfl,.inl ⟨(a16.trans rfl),.inl ⟨_,_,_,(g102.trans rfl),Vu (f:=Qg) (λ_=>Qfv) ([r14,x12.Y]:List (List Qa)),rfl⟩⟩⟩,trivial⟩ (λ_ _ h=>by cases h) trivial rfl trivial trivial rfl trivial trivial trivial (rn_id (if_bl)) rfl)) ?_
   refine zd [[]] ?_;refine de fol ?_;refine z [4] ?_;refine c ?_ ?_
   . refine z [2,31,1,8,12] ?_;refine sU ?_;refine z [12,10] ?_;exact rt []
   refine z [9,11] ?_;exact sgo (eR [(100,100)])
 intro s18
 refine z [13,4,2,33,36] ?_
 refine so (bsl (y:=101) (ls:=List.map Qb ([x0.T]:List Qa)) Tryz.underlying44 ti_53.h rfl rfl rfl rfl rfl ⟨rfl,rfl,(by exact rfl),(by exact rfl),trivial⟩ rfl rfl) ?_
 refine z [33,36] ?_;refine fz 101 [22] [] ?_
 refine so (bsl (y:=102) (ls:=List.map Qg ([([x0.T]:List Qa),x0.Y]:List (List Qa))) Tryz.underlying45 ti_44.h rfl rfl rfl rfl rfl ⟨rfl,rfl,(by exact rfl),(by exact rfl),rfl,rfl,(by exact rfl),(by exact rfl),trivial⟩ rfl rfl) ?_
 refine b λr19 h20=>?_
 refine s1 (callL (em:=[]) [102] [] [] [] rfl (Qm1 _ h20) trivial (pl_bl) ⟨.inr ⟨102,rfl,.inl ⟨rfl,.inl ⟨_,_,_,rfl,Vu (f:=Qg) (λ_=>Qfv) ([([x0.T]:List Qa),x0.Y]:List (List Qa)),rfl⟩⟩⟩,trivial⟩ (λ_ _ h=>by cases h) trivial rfl trivial trivial rfl trivial trivial trivial (rn_id (if_bl)) rfl) ?_
 refine z [31,1,8] ?_;exact rt []
theorem Qr6{x0}:∀ r,Qan x0=some r->FnOk Tryz.prog 155 [Qj x0] [] (bl r) []:=by
 unfold Qan
 refine fs Tryz.func155 λw S0 γ hγ=>?_;refine z [2] ?_;refine o (bx' 100) ?_;refine z [31,1,5,2,33,36,39,30,1,7] ?_;refine srN (λs6=>[(1,.own 100),(2,bl false),(6,sli 14 (List.map Qu x0.Tries))]) (λs6=>[(100,.bx 61 (Qj x0))]) (rE (eR [(100,100)])) ?_ ?_
 . intro i7 x8 s6 hx9
   refine z [7,2,43,42] ?_;refine o (al' 101) ?_;refine z [34,1,2,33,36,39,33,36,39,56,1] ?_;refine c ?_ ?_
   . refine z [2,31,1,8,12] ?_;refine sU ?_;refine z [12,10] ?_;exact rt []
   refine z [9,11] ?_;exact sgo (eR [(100,100)])
 intro s10
 refine z [13,4] ?_;refine sjq (λs13=>[(2,bl s13)]) (λs13=>[]) ?_ ?_
 . intro j11 hj12
   refine z [6,33,36,39,57,30] ?_;refine sifd 24 rfl ?_ ?_
   . refine z [22,22,22,22,38,31,1] ?_;exact sj (hj12 _) (eR [])
   refine z [23,23,23,23,37,31,1] ?_;exact sj (hj12 _) (eR [])
 intro s13
 refine z [8] ?_;exact rt []
theorem Qvu{n:Nat}{x0}:∀ r,Qcd n x0=some r->FnOk Tryz.prog 156 [Qj x0] [] (bl r) []:=by
 unfold Qcd
 refine fs Tryz.func156 λw S0 γ hγ=>?_;refine z [2] ?_;refine o (bx' 100) ?_;refine z [31,1,5,2,33,36,39,30,1,7] ?_;refine srN (λs25=>[(2,bl false),(6,sli 14 (List.map Qu x0.Tries))]) (λs25=>[]) (rE (eR [])) ?_ ?_
 . intro i26 x27 s25 hx28
   refine z [7,2,43,42] ?_;refine o (al' 101) ?_;refine z [34,1] ?_;refine sjq (λs39=>[(2,bl false),(6,sli 14 (List.map Qu x0.Tries)),(7,i64 (x0.Tries.length:Int)),(8,i64 (i26:Int)),(35,bl s39)]) (λs39=>[]) ?_ ?_
   . intro j37 hj38
     refine z [6,33,36] ?_;refine cb (ca Zp) λr40=>?_;refine z [58,30] ?_;refine sifd 16 rfl ?_ ?_
     . refine z [23,23,23,23,38,30,23,23,23,23,23,23,38,30,23,23,23,23,38,1] ?_;exact sj (hj38 _) (eR [])
     refine z [22,22] ?_;refine b λr42 h43=>?_;refine og' (c0 (Zp _ h43)) ?_;refine z [22,37,30] ?_;refine sifd 22 rfl ?_ ?_
     . refine z [23,23,23,23,23,23,38,30,23,23,23,23,38,1] ?_;exact sj (hj38 _) (eR [])
     refine z [22,22,22,22] ?_;refine b λr44 h45=>?_;refine og' (c0 (Xk _ h45)) ?_;refine z [22,37,30] ?_;refine sifd 30 rfl ?_ ?_
     . refine z [23,23,23,23,38,1] ?_;exact sj (hj38 _) (eR [])
     refine z [22,22] ?_;refine b λr46 h47=>?_;refine og' (c0 (Zp _ h47)) ?_;refine z [22,37,1] ?_;exact sj (hj38 _) (eR [])
   intro s39
   refine c ?_ ?_
   . refine z [2,31,1,8,12] ?_;refine sU ?_;refine z [12,10] ?_;exact rt []
   refine z [9,11] ?_;exact sgo eI
 intro s48
 refine z [13,4,2,31,1,8] ?_;exact rt []
theorem Qr7{n:Nat}{x0}{x1}{x2}:∀ r,Qce n x0 x1 x2=some r->FnOk Tryz.prog 208 [Qu x0,Qb x1,sli 3 (List.map Qb x2)] [] (bl r) []:=by
 unfold Qce
 refine fs Tryz.func208 λw S0 γ hγ=>?_;refine z [2] ?_;refine o (bx' 100) ?_;refine o (bx' 101) ?_;refine z [31,1,5,2,33,36,1] ?_;refine c ?_ ?_
 . refine z [5] ?_;refine b λr1 h2=>?_;refine b λr3 h4=>?_;refine sd ?_;refine zd [[101],[100],[100],[100],[100]] ?_;refine dd [] (λ_ _ _ _=>c0 (Zo _ h2)) ?_;refine dd [] (λ_ _ _ _=>c0 (Jp _ h4)) ?_;refine zd [[]] ?_;refine de fol ?_;refine z [4,8,10] ?_;exact rt []
 refine z [9,4] ?_;refine sjq (λs11=>[(6,bl s11)]) (λs11=>[]) ?_ ?_
 . intro j9 hj10
   refine z [6,32,33,36] ?_;refine cb (ca Jp) λr12=>?_;refine z [30] ?_;refine sifd 20 rfl ?_ ?_
   . refine z [22,22,22] ?_;refine b λr14 h15=>?_;refine og' (c0 (Y2 _ h15)) ?_;refine z [38,31,1] ?_;exact sj (hj10 _) (eR [])
   refine z [23,23,23,23,37,31,1] ?_;exact sj (hj10 _) (eR [])
 intro s11
 refine z [8] ?_;exact rt []
theorem Qvv{n:Nat}{x0}:∀ r,Qcf n x0=some r->FnOk Tryz.prog 157 [Qj x0] [] (bl r) []:=by
 unfold Qcf
 refine fs Tryz.func157 λw S0 γ hγ=>?_;refine z [2] ?_;refine o (bx' 100) ?_;refine z [31,1,5,2,33,36,39,30,1,7] ?_;refine srN (λs19=>[(1,.own 100),(2,bl false),(8,sli 14 (List.map Qu x0.Tries))]) (λs19=>[(100,.bx 61 (Qj x0))]) (rE (eR [(100,100)])) ?_ ?_
 . intro i20 x21 s19 hx22
   refine z [7,2,30,43,42] ?_;refine o (al' 101) ?_;refine z [31,34,1,5] ?_;refine sd ?_;refine zd [[100],[100],[100],[100]] ?_;refine dd [102] (λ_ _ _ _=>al' 102) ?_;refine zd [[102],[]] ?_;refine de fol ?_;refine z [4] ?_;refine sjq (λs29=>[(1,.own 100),(2,bl false),(4,.own 101),(5,.own 102),(6,sli 3 (List.map Qb s29.2)),(8,sli 14 (List.map Qu x0.Tries)),(9,i64 (x0.Tries.length:Int)),(10,i64 (i20:Int))]) (λs29=>[(100,.bx 61 (Qj x0)),(101,.bx 82 (Qu x21)),(102,.bx 53 (Qb s29.1))]) ?_ ?_
   . intro j27 hj28
     refine z [2,30,40,33,36,39,46,1] ?_;refine c ?_ ?_
     . refine b λy30 h31=>?_;refine b λy32 h33=>?_;refine sd ?_;refine zd [[100],[100],[],[]] ?_;refine dx [26,28] [] (λst mm ⟨a26,a28,_⟩ _=>og (ixR (f:=Qu) Tryz.underlying59 ti_82.h h31 rfl (a26.trans rfl) (a28.trans rfl))) ?_;refine zd [[],[],[100],[100],[],[]] ?_;refine dx [33,35] [] (λst mm ⟨a33,a35,_⟩ _=>og (ixR (f:=Qu) Tryz.underlying59 ti_82.h h33 rfl (a33.trans rfl) (a35.trans rfl))) ?_;refine zd [[],[],[102],[]] ?_;refine de fol ?_;refine z [4] ?_;exact sj (hj28 _) (eR [(100,100),(101,101),(102,102)])
     refine z [9,4] ?_;exact sj (hj28 _) (eR [(100,100),(101,101),(102,102)])
   intro s29
   refine z [2,32,32,30] ?_;refine cb (ca Qr7) λr34=>?_;refine z [44,1] ?_;refine c ?_ ?_
   . refine z [2,31,1,8,12] ?_;refine sU ?_;refine z [12,10] ?_;exact rt []
   refine z [9,11] ?_;exact sgo (eR [(100,100)])
 intro s36
 refine z [13,4,2,31,1,8] ?_;exact rt []
theorem Qvw{n:Nat}{x0}:∀ r,Qd5 n x0=some r->FnOk Tryz.prog 86 [Qj x0] [] (i64 r) []:=by
 unfold Qd5
 refine fs Tryz.func86 λw S0 γ hγ=>?_;refine z [2] ?_;refine o (bx' 100) ?_;refine z [31,1,5,7,2,32] ?_;refine cb (ca Qvt) λr1=>?_;refine z [44,31,1] ?_;refine c ?_ ?_
 . refine z [2,31,1,8,12,10] ?_;exact rt []
 refine z [2,32] ?_;refine cb (ca Qr6) λr3=>?_;refine z [44,31,1] ?_;refine c ?_ ?_
 . refine z [2,31,1,8,12,10] ?_;exact rt []
 refine z [2,33,36,39,47,31,1] ?_;refine c ?_ ?_
 . refine z [2,31,1,8,12,10] ?_;exact rt []
 refine z [2,32] ?_;refine cb (ca Qvu) λr5=>?_;refine z [44,31,1] ?_;refine c ?_ ?_
 . refine z [2,31,1,8,12,10] ?_;exact rt []
 refine z [2,32] ?_;refine cb (ca Qvv) λr7=>?_;refine z [44,31,1] ?_;refine c ?_ ?_
 . refine z [2,31,1,8,12,10] ?_;exact rt []
 refine z [9,11,4,2,31,1,8] ?_;exact rt []
theorem Qay{n:Nat}{x0}:∀ r,Zv n x0=some r->FnOk Tryz.prog 27 [Qj x0] [] (bl r) []:=by
 unfold Zv
 refine fs Tryz.func27 λw S0 γ hγ=>?_;refine z [2] ?_;refine o (bx' 100) ?_;refine z [31,1,2,32] ?_;refine cb (ca Qvw) λr1=>?_;refine z [41,31,1,8] ?_;exact rt []
theorem Qww{n:Nat}{x0}:∀ r,Qe3 n x0=some r->FnOk Tryz.prog 159 [sli 3 (List.map Qb x0)] [] (bl r) []:=by
 unfold Qe3
 refine fs Tryz.func159 λw S0 γ hγ=>?_;refine z [2,31,1,5,2,30,39,30,1,7] ?_;refine srN (λs8=>[(0,sli 3 (List.map Qb x0)),(2,bl false),(5,sli 3 (List.map Qb x0))]) (λs8=>[]) (rE eI) ?_ ?_
 . intro i9 x10 s8 hx11
   refine z [7,2,43,42] ?_;refine o (al' 100) ?_;refine z [34,1,2,32] ?_;refine cb (ca Zp) λr12=>?_;refine z [58,1] ?_;refine c ?_ ?_
   . refine z [2,31,1,8,12] ?_;refine sU ?_;refine z [12,10] ?_;exact rt []
   refine z [9,11] ?_;exact sgo (eR [])
 intro s14
 refine z [13,4,2,30,39,58,31,1,8] ?_;exact rt []
theorem Qt6{n:Nat}{x0}{x1}{x2}{x3}:∀ r,Z4 n x0 x1 x2 x3=some r->FnOk Tryz.prog 88 [Q8 x0,Qb x1,sli 3 (List.map Qb x2),sli 3 (List.map Qb x3)] [] (.tup [Qj r.1,Qo r.2]) []:=by
 unfold Z4
 refine fs Tryz.func88 λw S0 γ hγ=>?_;refine z [2] ?_;refine o (bx' 100) ?_;refine o (bx' 101) ?_;refine o (al' 102) ?_;refine o (al' 103) ?_;refine z [1,5] ?_;refine sjq (λs7=>[(2,sli 3 (List.map Qb x2)),(3,sli 3 (List.map Qb x3)),(4,.own 100),(5,.own 101),(8,.own 102),(9,.own 103),(30,bl s7)]) (λs7=>[(100,.bx 49 (Q8 x0)),(101,.bx 53 (Qb x1)),(102,.bx 61 (Qj (⟨[],(⟨(⟨false,[]⟩:Qd),[]⟩:Qa),[]⟩:Qi))),(103,.bx 63 (Qo (⟨0,0,0,0⟩:Qc)))]) ?_ ?_
 . intro j5 hj6
   refine z [6,32] ?_;refine cb (ca Qjn) λr8=>?_;refine z [44,30] ?_;refine sifd 18 rfl ?_ ?_
   . refine z [23,23,23,23,23,23,38,30,23,23,23,38,1] ?_;exact sj (hj6 _) (eR [(100,100),(101,101),(102,102),(103,103)])
   refine z [22,22,22,22,22,22,37,30] ?_;refine sifd 26 rfl ?_ ?_
   . refine z [23,23,23,38,1] ?_;exact sj (hj6 _) (eR [(100,100),(101,101),(102,102),(103,103)])
   refine z [22] ?_;refine b λr10 h11=>?_;refine og' (c0 (Qww _ h11)) ?_;refine z [22,37,1] ?_;exact sj (hj6 _) (eR [(100,100),(101,101),(102,102),(103,103)])
 intro s7
 refine c ?_ ?_
 . refine z [2] ?_;refine s1 (bld (l:=[sli 14 (List.map Qu []),Qb (⟨(⟨false,[]⟩:Qd),[]⟩:Qa),sli 3 (List.map Qb [])]) pl_61.h ti_61.h Wm rfl rfl) ?_;refine s1 (bld (l:=[i64 (2:Int),i64 0,i64 0,i64 0]) pl_63.h ti_63.h Qq ⟨_,_,_,(kI (x:=2) rfl),rfl,rfl,rfl,(szk (k:=1) rfl rfl),rfl⟩ rfl) ?_;refine z [34,34,1,8,10] ?_;exact rt []
 refine z [9,4,2,32] ?_;refine cb (ca J2) λr12=>?_;refine cb (ca Kl) λr14=>?_;refine z [30] ?_;refine b λr16 h17=>?_;refine o (cG (Qaj _ h17) [] [(104,50)] []) ?_;refine fz 104 [37] [] ?_;refine so (bldO (l:=[.own 106,Qb r12,sli 3 (List.map Qb r16)]) [(106,82,14)] pl_61.h ti_61.h (Qho (Kh (c1:=[.slice none 0 0]) (Qf1 rfl) (Kh (c1:=[.bool false,.slice none 0 0,.slice none 0 0]) (zo_of Jm) (Kh (c1:=[.slice none 0 0]) (zo_of (Jz (k:=3))) (Qfk))))) ⟨rfl,trivial⟩ rfl ⟨_,_,_,rfl,rfl,rfl,rfl,(szk (k:=3) rfl rfl),⟨_,_,_,rfl,rfl,rfl,rfl,(szk (k:=1) rfl rfl),rfl⟩⟩ rfl) ?_;refine o (al' 107) ?_;refine z [34,1,5,2,30,39,30,1,7] ?_;refine srN (λs47=>[(4,.own 100),(8,.own 102),(9,.own 103),(10,.own 107),(39,sli 3 (List.map Qb x3))]) (λs47=>[(100,.bx 49 (Q8 x0)),(102,.bx 61 (Qj (⟨[],(⟨(⟨false,[]⟩:Qd),[]⟩:Qa),[]⟩:Qi))),(103,.bx 63 (Qo (⟨0,0,0,0⟩:Qc))),(107,.bx 61 (.agg [.own 106,Qb s47.2.1,sli 3 (List.map Qb s47.2.2)])),(106,.sl 82 14 (List.map Qu s47.1))]) (rE (eR [(100,100),(102,102),(103,103),(107,107),(106,106)])) ?_ ?_
 . intro i48 x49 s47 hx50
   refine z [7,2,30,43,42] ?_;refine o (al' 108) ?_;refine z [31,34,1,2,32] ?_;refine cb (ca J2) λr51=>?_;refine z [34,1,2,32,33,36,32,33,36] ?_;refine cb (ca Qkc) λr53=>?_;refine z [30,35,35] ?_;refine o (al' 109) ?_;refine o (al' 110) ?_;refine z [34,34,1,5,2,32] ?_;refine s1 (bld (l:=[i64 0,i64 0,i64 0,i64 0]) pl_63.h ti_63.h Qq rfl rfl) ?_;refine s1 (neA (p:=(r53.2:Qc)) (q:=((⟨0,0,0,0⟩:Qc):Qc)) Kk rfl eg_63 rfl rfl rfl) ?_;refine z [1] ?_;refine c ?_ ?_
   . refine z [2,30,40,33] ?_;refine o (stP (Qo (⟨r53.2.Kind,wrap64 ((i48:Int)+(1:Int)),r53.2.Stage,r53.2.At⟩:Qc)) [1]) ?_;refine z [1,5] ?_;refine sd ?_;refine dx [] [] (λst mm _ _=>og (bld (l:=[sli 14 (List.map Qu []),Qb (⟨(⟨false,[]⟩:Qd),[]⟩:Qa),sli 3 (List.map Qb [])]) pl_61.h ti_61.h Wm rfl rfl)) ?_;refine zd [[110],[102],[103]] ?_;refine de fol ?_;refine z [4,8,10,12] ?_;refine sU ?_;refine z [12,10] ?_;exact rt []
   refine z [9,4,5] ?_;refine b λr55 h56=>?_;refine b λy57 h58=>?_;refine sd ?_;refine zd [[107],[107],[107],[107],[108],[108],[109],[109]] ?_;refine dd [] (λ_ _ _ _=>c0 (Qme _ h56)) ?_;refine zd [[107],[107]] ?_;refine dx [69,70,71,74,76] [] (λst mm ⟨a69,a70,a71,a74,a76,_⟩ _=>og (bld (l:=[Qb s47.2.1,Qb r51,Qb r51,Qb r55,sli 3 (List.map Qb s47.2.2),bl true]) pl_82.h ti_82.h Qdk ⟨_,_,_,(a69.trans rfl),rfl,rfl,rfl,(szk (k:=3) rfl rfl),⟨_,_,_,(a70.trans rfl),rfl,rfl,rfl,(szk (k:=3) rfl rfl),⟨_,_,_,(a71.trans rfl),rfl,rfl,rfl,(szk (k:=3) rfl rfl),⟨_,_,_,(a74.trans rfl),rfl,rfl,rfl,(szk (k:=3) rfl rfl),⟨_,_,_,(a76.trans rfl),rfl,rfl,rfl,(szk (k:=1) rfl rfl),⟨_,_,_,kB,rfl,rfl,rfl,(szk (k:=1) rfl rfl),rfl⟩⟩⟩⟩⟩⟩ rfl)) ?_
   refine dx [77] [111] (λst mm ⟨a77,_⟩ ⟨g111,_⟩=>og (bsl (y:=111) (ls:=List.map Qu ([(⟨s47.2.1,r51,r51,r55,s47.2.2,true⟩:Qm)]:List Qm)) Tryz.underlying59 ti_82.h rfl rfl rfl rfl rfl ⟨rfl,(a77.trans rfl),(by exact rfl),(by exact rfl),trivial⟩ (g111.trans rfl) rfl)) ?_
   refine dd [106,111,112] (λ_ _ _ _=>app' 112) ?_;refine zd [[107]] ?_;refine dd [107] (λ_ _ _ _=>stP (.agg [.own 112,Qb s47.2.1,sli 3 (List.map Qb s47.2.2)]) [0]) ?_;refine de fol ?_;refine z [4] ?_;refine b λr59 h60=>?_;refine sd ?_;refine zd [[107],[107],[108]] ?_;refine dd [] (λ_ _ _ _=>c0 (Zo _ h60)) ?_;refine zd [[109],[109],[107]] ?_;refine dd [107] (λ_ _ _ _=>stP (.agg [.own 112,Qb r59,sli 3 (List.map Qb s47.2.2)]) [1]) ?_;refine zd [[107]] ?_;refine dd [107] (λ_ _ _ _=>stP (.agg [.own 112,Qb r59,sli 3 (List.map Qb r53.1.Next)]) [2]) ?_;refine de fol ?_;refine z [11] ?_;exact sgo (eR [(100,100),(102,102),(103,103),(107,107),(106,112)])
 intro s61
 refine z [13,4,2,32] ?_;refine s1 (bld (l:=[i64 0,i64 0,i64 0,i64 0]) pl_63.h ti_63.h Qq rfl rfl) ?_;refine z [34,34,1,8] ?_;refine fz 106 [90] [102,107] ?_;exact rt []
theorem Qr8{n:Nat}{x0}{x1}:∀ r,Qao n x0 x1=some r->FnOk Tryz.prog 30 [Q8 x0,Qj x1] [] (.tup [Qj r.1,Qo r.2]) []:=by
 unfold Qao
 refine fs Tryz.func30 λw S0 γ hγ=>?_;refine z [2] ?_;refine o (bx' 100) ?_;refine o (bx' 101) ?_;refine o (al' 102) ?_;refine o (al' 103) ?_;refine z [1,2,32] ?_;refine cb (ca Qjp) λr1=>?_;refine z [30,35,35,31,31,1,5] ?_;refine b λy3 h4=>?_;refine b λy5 h6=>?_;refine b λr7 h8=>?_;refine b λr9 h10=>?_;refine sd ?_;refine zd [[100],[],[],[],[],[],[],[101]] ?_;refine dd [] (λ_ _ _ _=>c0 (Qnt _ h8)) ?_;refine dd [] (λ_ _ _ _=>c0 (Qt6 _ h10)) ?_;refine zd [[],[],[102],[103]] ?_;refine de fol ?_;refine z [4,8] ?_;exact rt []
theorem Qfq{x0}{x1}:∀ r,Xa x0 x1=some r->FnOk Tryz.prog 216 [Wj x0,i64 x1] [] (.tup [Qb r.1,sli 3 (List.map Qb r.2)]) []:=by
 unfold Xa
 refine fs Tryz.func216 λw S0 γ hγ=>?_;refine z [2] ?_;refine o (bx' 100) ?_;refine o (al' 101) ?_;refine s1 (asg rfl (kLm (k:=3) Qb)) ?_;refine z [1,5,2,30,33,45,36,39,46,1] ?_;refine c ?_ ?_
 . refine z [5] ?_;refine b λy1 h2=>?_;refine b λy3 h4=>?_;refine sd ?_;refine zd [[100],[],[100],[]] ?_;refine dx [14,15] [] (λst mm ⟨a14,a15,_⟩ _=>og (ixR (f:=Qu) Tryz.underlying59 ti_82.h h2 rfl (a14.trans rfl) (a15.trans rfl))) ?_;refine zd [[],[],[100],[],[100],[]] ?_;refine dx [21,22] [] (λst mm ⟨a21,a22,_⟩ _=>og (ixR (f:=Qu) Tryz.underlying59 ti_82.h h4 rfl (a21.trans rfl) (a22.trans rfl))) ?_;refine zd [[],[],[101],[]] ?_;refine de fol ?_;refine z [4,8,10] ?_;exact rt []
 refine z [9,4,5] ?_;refine sd ?_;refine zd [[100],[],[100],[100],[],[100],[101],[]] ?_;refine de fol ?_;refine z [4,8] ?_;exact rt []
theorem Qj5{n:Nat}{x0}:∀ r,Xn n x0=some r->FnOk Tryz.prog 166 [Wj x0] [] (bl r) []:=by
 unfold Xn
 refine fs Tryz.func166 λw S0 γ hγ=>?_;refine z [2] ?_;refine o (bx' 100) ?_;refine z [31,1,2,32] ?_;refine cb (ca Qfq) λr1=>?_;refine z [30,35,35] ?_;refine o (al' 101) ?_;refine z [34,31,1] ?_;refine sjq (λs9=>[(2,bl s9)]) (λs9=>[]) ?_ ?_
 . intro j7 hj8
   refine z [6,32,33,45,36] ?_;refine cb (ca Jp) λr10=>?_;refine z [30] ?_;refine sifd 15 rfl ?_ ?_
   . refine z [22,22,22,22] ?_;refine b λr12 h13=>?_;refine og' (c0 (Y2 _ h13)) ?_;refine z [38,31,1] ?_;exact sj (hj8 _) (eR [])
   refine z [23,23,23,23,23,37,31,1] ?_;exact sj (hj8 _) (eR [])
 intro s9
 refine z [8] ?_;exact rt []
theorem Qln{n:Nat}{x0}:∀ r,Yg n x0=some r->FnOk Tryz.prog 167 [Wj x0] [] (bl r) []:=by
 unfold Yg
 refine fs Tryz.func167 λw S0 γ hγ=>?_;refine z [2] ?_;refine o (bx' 100) ?_;refine z [31,1,5,2,33,45,36,39,30,1,7] ?_;refine srN (λs8=>[(1,.own 100),(2,bl false),(7,sli 14 (List.map Qu x0.h.Tries))]) (λs8=>[(100,.bx 175 (Wj x0))]) (rE (eR [(100,100)])) ?_ ?_
 . intro i9 x10 s8 hx11
   refine z [7,2,43,42] ?_;refine o (al' 101) ?_;refine z [34,1,2,33,36,33,45,36] ?_;refine cb (ca Xk) λr12=>?_;refine z [57,1] ?_;refine c ?_ ?_
   . refine z [2,31,1,8,12] ?_;refine sU ?_;refine z [12,10] ?_;exact rt []
   refine z [9,11] ?_;exact sgo (eR [(100,100)])
 intro s14
 refine z [13,4,2,33,45,36,39,33,45,45,36,58,31,1,8] ?_;exact rt []
theorem Qj6{n:Nat}{x0}{x1}:∀ r,Xo n x0 x1=some r->FnOk Tryz.prog 217 [Wj x0,i64 x1] [] (bl r) []:=by
 unfold Xo
 refine fs Tryz.func217 λw S0 γ hγ=>?_;refine z [2] ?_;refine o (bx' 100) ?_;refine z [31,1,2,33,45,36] ?_;refine o (al' 101) ?_;refine z [34,1] ?_;refine sjq (λs7=>[(1,i64 x1),(2,.own 100),(4,bl false),(5,.own 101)]) (λs7=>[(100,.bx 175 (Wj x0)),(101,.bx 53 (Qb s7))]) ?_ ?_
 . intro j5 hj6
   refine z [2,30,47,1] ?_;refine c ?_ ?_
   . refine z [2,33,45,36,30,49] ?_;refine b λy8 h9=>?_;refine z [43,42] ?_;refine o (al' 102) ?_;refine z [34,1,6,33,45,36,33,36,33,36] ?_;refine cb (ca Qpb) λr10=>?_;refine z [34,1] ?_;exact sj (hj6 _) (eR [(100,100),(101,101)])
   refine z [9,4] ?_;exact sj (hj6 _) (eR [(100,100),(101,101)])
 intro s7
 refine sjq (λs21=>[(4,bl s21)]) (λs21=>[]) ?_ ?_
 . intro j19 hj20
   refine b λy22 h23=>?_;refine b λr24 h25=>?_;refine sif (λhb26=>?_) (λhb26=>?_)
   . refine b λr27 h28=>?_;refine sd ?_;refine zd [[100],[],[100],[],[],[],[],[101]] ?_;refine dd [] (λ_ _ _ _=>c0 (Jp _ h25)) ?_;refine dd [] (λ_ _ _ _=>obk hb26 ops) ?_;refine zd [[100],[],[100],[101]] ?_;refine dG [] (λ_ _ _ _=>c0 (Qnp _ h28)) ?_;refine zd [[],[],[]] ?_;refine de fol ?_;refine z [4] ?_;exact sj (hj20 _) (eR [])
   refine sd ?_;refine zd [[100],[],[100],[],[],[],[],[101]] ?_;refine dd [] (λ_ _ _ _=>c0 (Jp _ h25)) ?_;refine dd [] (λ_ _ _ _=>obk hb26 ops) ?_;refine zd [[],[],[],[],[],[],[],[]] ?_;refine de fol ?_;refine z [4] ?_;exact sj (hj20 _) (eR [])
 intro s21
 refine z [8] ?_;exact rt []
theorem Qml{n:Nat}{x0}{x1}:∀ r,Xj n x0 x1=some r->FnOk Tryz.prog 168 [Wj x0,i64 x1] [] (i64 r) []:=by
 unfold Xj
 refine fs Tryz.func168 λw S0 γ hγ=>?_;refine z [2] ?_;refine o (bx' 100) ?_;refine z [31,1,2,33,45,36,30] ?_;refine b λy1 h2=>?_;refine z [43,42] ?_;refine o (al' 101) ?_;refine z [34,1,5,7,2,32,30] ?_;refine cb (ca Qj6) λr3=>?_;refine z [44,31,1] ?_;refine c ?_ ?_
 . refine z [2,31,1,8,12,10] ?_;exact rt []
 refine z [5] ?_;refine b λr5 h6=>?_;refine b λr7 h8=>?_;refine sd ?_;refine zd [[101],[101],[101],[101],[100],[],[100],[101],[101]] ?_;refine dd [] (λ_ _ _ _=>c0 (Qqt _ h6)) ?_;refine dd [] (λ_ _ _ _=>c0 (Jp _ h8)) ?_;refine zd [[],[]] ?_;refine de fol ?_;refine z [4] ?_;refine c ?_ ?_
 . refine z [2,31,1,8,12,10] ?_;exact rt []
 refine z [9,11,4,2,33,45,36,33,36,33,36,33,36] ?_;refine cb (ca Qkc) λr9=>?_;refine z [30,35,35] ?_;refine o (al' 102) ?_;refine o (al' 103) ?_;refine z [34,34,1,2,32,30,40] ?_;refine cb (ca Qfq) λr11=>?_;refine z [30,35,35] ?_;refine o (al' 104) ?_;refine z [34,31,1,5,7,2,33,36,56,31,1] ?_;refine c ?_ ?_
 . refine z [2,31,1,8,12,10] ?_;exact rt []
 refine z [5] ?_;refine b λr13 h14=>?_;refine b λr15 h16=>?_;refine sd ?_;refine zd [[101],[101],[102],[102]] ?_;refine dd [] (λ_ _ _ _=>c0 (Qme _ h14)) ?_;refine dd [] (λ_ _ _ _=>c0 (Jp _ h16)) ?_;refine zd [[],[]] ?_;refine de fol ?_;refine z [4] ?_;refine c ?_ ?_
 . refine z [2,31,1,8,12,10] ?_;exact rt []
 refine z [5] ?_;refine b λr17 h18=>?_;refine sd ?_;refine zd [[101],[101],[100],[],[100],[101],[101]] ?_;refine dd [] (λ_ _ _ _=>c0 (Qlm _ h18)) ?_;refine zd [[],[]] ?_;refine de fol ?_;refine z [4] ?_;refine c ?_ ?_
 . refine z [2,31,1,8,12,10] ?_;exact rt []
 refine sjq (λs23=>[(4,i64 (0:Int)),(76,bl s23)]) (λs23=>[]) ?_ ?_
 . intro j21 hj22
   refine z [6,33,36,30] ?_;refine sifd 79 rfl ?_ ?_
   . refine z [22,22,22] ?_;refine b λr24 h25=>?_;refine og' (c0 (Y2 _ h25)) ?_;refine z [22,38,31,1] ?_;exact sj (hj22 _) (eR [])
   refine z [23,23,23,23,23,37,31,1] ?_;exact sj (hj22 _) (eR [])
 intro s23
 refine c ?_ ?_
 . refine z [2,31,1,8,12,10] ?_;exact rt []
 refine z [9,11,4,2,31,1,8] ?_;exact rt []
theorem Qgm{n:Nat}{x0}:∀ r,Vz n x0=some r->FnOk Tryz.prog 98 [Wj x0] [] (V0 r) []:=by
 unfold Vz
 refine fs Tryz.func98 λw S0 γ hγ=>?_;refine z [2] ?_;refine o (bx' 100) ?_;refine o (al' 101) ?_;refine z [1,5,7] ?_;refine sjq (λs5=>[(1,.own 100),(2,.own 101),(5,bl s5)]) (λs5=>[(100,.bx 175 (Wj x0)),(101,.bx 171 (V0 (⟨0,0⟩:Qv)))]) ?_ ?_
 . intro j3 hj4
   refine z [6,33,36] ?_;refine cb (ca Qay) λr6=>?_;refine z [44,30] ?_;refine sifd 10 rfl ?_ ?_
   . refine z [23,23,23,23,23,23,23,23,23,38,31,1] ?_;exact sj (hj4 _) (eR [(100,100),(101,101)])
   refine z [22,22,22,22,22,22,22,22,22,37,31,1] ?_;exact sj (hj4 _) (eR [(100,100),(101,101)])
 intro s5
 refine c ?_ ?_
 . refine z [2] ?_;refine s1 (bld (l:=[i64 (1:Int),i64 0]) Qe6.h Qc8.h Vl ⟨_,_,_,(kI (x:=1) rfl),rfl,rfl,rfl,(szk (k:=1) rfl rfl),rfl⟩ rfl) ?_;refine z [34,1,8,12,10] ?_;exact rt []
 refine z [2,32] ?_;refine cb (ca Qj5) λr8=>?_;refine z [44,31,1] ?_;refine c ?_ ?_
 . refine z [2] ?_;refine s1 (bld (l:=[i64 (2:Int),i64 0]) Qe6.h Qc8.h Vl ⟨_,_,_,(kI (x:=2) rfl),rfl,rfl,rfl,(szk (k:=1) rfl rfl),rfl⟩ rfl) ?_;refine z [34,1,8,12,10] ?_;exact rt []
 refine z [2,32] ?_;refine cb (ca Qln) λr10=>?_;refine z [44,31,1] ?_;refine c ?_ ?_
 . refine z [2] ?_;refine s1 (bld (l:=[i64 (3:Int),i64 0]) Qe6.h Qc8.h Vl ⟨_,_,_,(kI (x:=3) rfl),rfl,rfl,rfl,(szk (k:=1) rfl rfl),rfl⟩ rfl) ?_;refine z [34,1,8,12,10] ?_;exact rt []
 refine z [9,11,4,5,2,33,45,36,39,30,1,7] ?_;refine srN (λs19=>[(1,.own 100),(2,.own 101)]) (λs19=>[(100,.bx 175 (Wj x0)),(101,.bx 171 (V0 (⟨0,0⟩:Qv)))]) (rE (eR [(100,100),(101,101)])) ?_ ?_
 . intro i20 x21 s19 hx22
   refine z [7,2,30,31,1,2,32,30] ?_;refine cb (ca Qml) λr23=>?_;refine z [31,1,2,30,56,1] ?_;refine c ?_ ?_
   . refine z [2,30,30] ?_;refine s1 (bld (l:=[i64 r23,i64 (i20:Int)]) Qe6.h Qc8.h Vl ⟨_,_,_,rfl,rfl,rfl,rfl,(szk (k:=1) rfl rfl),⟨_,_,_,rfl,rfl,rfl,rfl,(szk (k:=1) rfl rfl),rfl⟩⟩ rfl) ?_;refine z [34,1,8,12] ?_;refine sU ?_;refine z [12,10] ?_;exact rt []
   refine z [9,11] ?_;exact sgo (eR [(100,100),(101,101)])
 intro s25
 refine z [13,4,2] ?_;refine s1 (bld (l:=[i64 0,i64 0]) Qe6.h Qc8.h Vl rfl rfl) ?_;refine z [34,1,8] ?_;exact rt []
theorem Qqu{n:Nat}{x0}{x1}:∀ r,Qel n x0 x1=some r->FnOk Tryz.prog 96 [Q5 x0,Qj x1] [] (V0 r) []:=by
 unfold Qel
 refine fs Tryz.func96 λw S0 γ hγ=>?_;refine z [2] ?_;refine o (bx' 100) ?_;refine o (bx' 101) ?_;refine o (al' 102) ?_;refine z [1,5,2,32] ?_;refine cb (ca Qda) λr1=>?_;refine z [44,1] ?_;refine c ?_ ?_
 . refine z [2] ?_;refine s1 (bld (l:=[i64 (-1:Int),i64 0]) Qe6.h Qc8.h Vl ⟨_,_,_,(kI (x:=(-1)) rfl),rfl,rfl,rfl,(szk (k:=1) rfl rfl),rfl⟩ rfl) ?_;refine z [34,1,8,10] ?_;exact rt []
 refine z [9,4,2,32,32] ?_;refine s1 (bld (l:=[Q5 x0,Qj x1]) Qzi.h Qve.h Qkb ⟨_,_,_,rfl,rfl,rfl,rfl,(szk (k:=38) rfl rfl),⟨_,_,_,rfl,rfl,rfl,rfl,(szk (k:=5) rfl rfl),rfl⟩⟩ rfl) ?_;refine cb (ca Qgm) λr3=>?_;refine o (al' 103) ?_;refine z [34,1] ?_;refine sjq (λs14=>[(4,.own 102),(5,.own 103)]) (λs14=>[(102,.bx 171 (V0 (⟨0,0⟩:Qv))),(103,.bx 171 (V0 s14))]) ?_ ?_
 . intro j12 hj13
   refine sjq (λs19=>[(4,.own 102),(5,.own 103),(24,bl s19)]) (λs19=>[(102,.bx 171 (V0 (⟨0,0⟩:Qv))),(103,.bx 171 (V0 r3))]) ?_ ?_
   . intro j17 hj18
     refine z [6,32] ?_;refine s1 (bld (l:=[i64 0,i64 0]) Qe6.h Qc8.h Vl rfl rfl) ?_;refine s1 (eqA (p:=(r3:Qv)) (q:=((⟨0,0⟩:Qv):Qv)) Ql6 rfl Qqn rfl rfl rfl) ?_;refine z [30] ?_;refine sifd 17 rfl ?_ ?_
     . refine z [22,22,22,22] ?_;refine b λr20 h21=>?_;refine og' (c0 (Jp _ h21)) ?_;refine z [22,38,1] ?_;exact sj (hj18 _) (eR [(102,102),(103,103)])
     refine z [23,23,23,23,23,23,37,1] ?_;exact sj (hj18 _) (eR [(102,102),(103,103)])
   intro s19
   refine c ?_ ?_
   . refine z [6,33] ?_;refine o (stP (V0 (⟨(10:Int),r3.Try⟩:Qv)) [0]) ?_;refine z [1] ?_;exact sj (hj13 _) (eR [(102,102),(103,103)])
   refine z [9,4] ?_;exact sj (hj13 _) (eR [(102,102),(103,103)])
 intro s14
 refine z [2,32,34,1,8] ?_;exact rt []
theorem Qjq{n:Nat}{x0}{x1}:∀ r,Wi n x0 x1=some r->FnOk Tryz.prog 41 [Q5 x0,Qj x1] [] (bl r) []:=by
 unfold Wi
 refine fs Tryz.func41 λw S0 γ hγ=>?_;refine z [2] ?_;refine o (bx' 100) ?_;refine o (bx' 101) ?_;refine z [31,1,2,32,32] ?_;refine cb (ca Qqu) λr1=>?_;refine s1 (bld (l:=[i64 0,i64 0]) Qe6.h Qc8.h Vl rfl rfl) ?_;refine s1 (eqA (p:=(r1:Qv)) (q:=((⟨0,0⟩:Qv):Qv)) Ql6 rfl Qqn rfl rfl rfl) ?_;refine z [31,1,8] ?_;exact rt []
theorem Qt7{n:Nat}{x0}{x1}{x2}:∀ r,Qc6 n x0 x1 x2=some r->FnOk Tryz.prog 97 [Q5 x0,Qj x1,i64 x2] [] (.tup [Qj r.1,bl r.2]) []:=by
 unfold Qc6
 refine fs Tryz.func97 λw S0 γ hγ=>?_;refine z [2] ?_;refine o (bx' 100) ?_;refine o (bx' 101) ?_;refine o (al' 102) ?_;refine z [31,1,5] ?_;refine b λy9 h10=>?_;refine b λr11 h12=>?_;refine b λr13 h14=>?_;refine b λr15 h16=>?_;refine sd ?_;refine zd [[101],[101],[],[]] ?_;refine dx [13,14,15] [] (λst mm ⟨a13,a14,a15,_⟩ _=>og (slR3 (f:=Qu) h10 Tryz.underlying59 ti_82.h rfl (a13.trans rfl) bnd0 ⟨_,(a14.trans rfl)⟩ ⟨_,(a15.trans rfl)⟩)) ?_;refine zd [[100],[100]] ?_;refine dd [] (λ_ _ _ _=>c0 (J2 _ h12)) ?_;refine dd [] (λ_ _ _ _=>c0 (Kl _ h14)) ?_;refine zd [[100],[100]] ?_;refine dd [103] (λ_ _ _ _=>tV (cG (Qaj _ h16) [] [(103,50)] [])) ?_;refine dx [16,19,23] [] (λst mm ⟨a16,a19,a23,_⟩ _=>og (bld (l:=[sli 14 (List.map Qu y9),Qb r11,sli 3 (List.map Qb r15)]) pl_61.h ti_61.h Wm ⟨_,_,_,(a16.trans rfl),rfl,rfl,rfl,(szk (k:=1) rfl rfl),⟨_,_,_,(a19.trans rfl),rfl,rfl,rfl,(szk (k:=3) rfl rfl),⟨_,_,_,(a23.trans rfl),rfl,rfl,rfl,(szk (k:=1) rfl rfl),rfl⟩⟩⟩ rfl)) ?_;refine dd [104] (λ_ _ _ _=>al' 104) ?_;refine zd [[104]] ?_;refine de fol ?_;refine z [4,5,2,30,41,1] ?_;refine c ?_ ?_
 . refine z [2,32,34,31,1,8,10] ?_;exact rt []
 refine z [9,4,2,33,36,30,49] ?_;refine b λy17 h18=>?_;refine z [43,42] ?_;refine o (al' 105) ?_;refine z [34,1,5] ?_;refine sd ?_;refine zd [[105],[105],[105],[105],[104]] ?_;refine dd [104] (λ_ _ _ _=>stP (Qj (⟨y9,y17.T,r15⟩:Qi)) [1]) ?_;refine zd [[104]] ?_;refine dd [104] (λ_ _ _ _=>stP (Qj (⟨y9,y17.T,y17.Y⟩:Qi)) [2]) ?_;refine de fol ?_;refine z [4,5,2,33,36,1] ?_;refine c ?_ ?_
 . refine z [2,33,36,33,36,33,36,33,36] ?_;refine cb (ca Qkc) λr19=>?_;refine z [30,35,35] ?_;refine o (al' 106) ?_;refine o (al' 107) ?_;refine z [34,34,1,5] ?_;refine b λr21 h22=>?_;refine sd ?_;refine zd [[105],[105],[105],[105]] ?_;refine dd [] (λ_ _ _ _=>c0 (Zo _ h22)) ?_;refine zd [[106],[106],[104]] ?_;refine dd [104] (λ_ _ _ _=>stP (Qj (⟨y9,r21,y17.Y⟩:Qi)) [1]) ?_;refine zd [[104]] ?_;refine dd [104] (λ_ _ _ _=>stP (Qj (⟨y9,r21,r19.1.Next⟩:Qi)) [2]) ?_;refine de fol ?_;refine z [4,5] ?_;refine sd ?_;refine zd [[104],[107],[107],[],[102],[]] ?_;refine de fol ?_;refine z [4,8,10] ?_;exact rt []
 refine z [9,4,2,32,34,31,1,8] ?_;exact rt []
theorem Qr9{n:Nat}{x0}:∀ r,Qch n x0=some r->FnOk Tryz.prog 99 [Qj x0] [] (Qj r) []:=by
 unfold Qch
 refine fs Tryz.func99 λw S0 γ hγ=>?_;refine z [2] ?_;refine o (bx' 100) ?_;refine o (al' 101) ?_;refine z [1,2] ?_;refine cb (ca Kl) λr1=>?_;refine o (al' 102) ?_;refine z [34,1,5] ?_;refine b λr3 h4=>?_;refine b λr5 h6=>?_;refine sd ?_;refine zd [[100],[100]] ?_;refine dd [] (λ_ _ _ _=>c0 (J2 _ h4)) ?_;refine zd [[102],[100],[100]] ?_;refine dd [103] (λ_ _ _ _=>tV (cG (Qaj _ h6) [] [(103,50)] [])) ?_;refine dx [10,14] [104] (λst mm ⟨a10,a14,_⟩ ⟨g104,_⟩=>og (bldO (l:=[.own 104,Qb r3,sli 3 (List.map Qb r5)]) [(104,82,14)] pl_61.h ti_61.h (Qho (Kh (c1:=[.slice none 0 0]) (Qf1 rfl) (Kh (c1:=[.bool false,.slice none 0 0,.slice none 0 0]) (zo_of Jm) (Kh (c1:=[.slice none 0 0]) (zo_of (Jz (k:=3))) (Qfk))))) ⟨(g104.trans rfl),trivial⟩ rfl ⟨_,_,_,(a10.trans rfl),rfl,rfl,rfl,(szk (k:=3) rfl rfl),⟨_,_,_,(a14.trans rfl),rfl,rfl,rfl,(szk (k:=1) rfl rfl),rfl⟩⟩ rfl)) ?_;refine dd [105] (λ_ _ _ _=>al' 105) ?_;refine zd [[105]] ?_;refine de fol ?_;refine z [4,5,2,33,36,39,30,1,7] ?_;refine srN (λs40=>[(2,.own 101),(3,.own 102),(4,.own 105),(17,sli 14 (List.map Qu x0.Tries))]) (λs40=>[(101,.bx 61 (Qj (⟨[],(⟨(⟨false,[]⟩:Qd),[]⟩:Qa),[]⟩:Qi))),(102,.bx 53 (Qb r1)),(105,.bx 61 (.agg [.own 104,Qb r3,sli 3 (List.map Qb r5)])),(104,.sl 82 14 (List.map Qu s40))]) (rE (eR [(101,101),(102,102),(105,105),(104,104)])) ?_ ?_
 . intro i41 x42 s40 hx43
   refine z [7,2,43,42] ?_;refine o (al' 106) ?_;refine z [34,1] ?_;refine b λr44 h45=>?_;refine b λr46 h47=>?_;refine b λr48 h49=>?_;refine b λr50 h51=>?_;refine b λr52 h53=>?_;refine b λy54 h55=>?_;refine sd ?_;refine zd [[105],[105],[106],[106]] ?_;refine dd [] (λ_ _ _ _=>c0 (J2 _ h45)) ?_;refine zd [[106],[106]] ?_;refine dd [] (λ_ _ _ _=>c0 (J2 _ h47)) ?_;refine zd [[106],[106]] ?_;refine dd [] (λ_ _ _ _=>c0 (J2 _ h49)) ?_;refine zd [[106],[106]] ?_;refine dd [] (λ_ _ _ _=>c0 (J2 _ h51)) ?_;refine zd [[102],[106],[106]] ?_;refine dd [107] (λ_ _ _ _=>tV (cG (Qaj _ h53) [] [(107,50)] [])) ?_;refine zd [[106],[106]] ?_;refine dx [27,30,33,36,40,42] [] (λst mm ⟨a27,a30,a33,a36,a40,a42,_⟩ _=>og (bld (l:=[Qb r44,Qb r46,Qb r48,Qb r50,sli 3 (List.map Qb r52),bl x42.Ok]) pl_82.h ti_82.h Qdk ⟨_,_,_,(a27.trans rfl),rfl,rfl,rfl,(szk (k:=3) rfl rfl),⟨_,_,_,(a30.trans rfl),rfl,rfl,rfl,(szk (k:=3) rfl rfl),⟨_,_,_,(a33.trans rfl),rfl,rfl,rfl,(szk (k:=3) rfl rfl),⟨_,_,_,(a36.trans rfl),rfl,rfl,rfl,(szk (k:=3) rfl rfl),⟨_,_,_,(a40.trans rfl),rfl,rfl,rfl,(szk (k:=1) rfl rfl),⟨_,_,_,(a42.trans rfl),rfl,rfl,rfl,(szk (k:=1) rfl rfl),rfl⟩⟩⟩⟩⟩⟩ rfl)) ?_
   refine dx [43] [108] (λst mm ⟨a43,_⟩ ⟨g108,_⟩=>og (bsl (y:=108) (ls:=List.map Qu ([(⟨r44,r46,r48,r50,r52,x42.Ok⟩:Qm)]:List Qm)) Tryz.underlying59 ti_82.h rfl rfl rfl rfl rfl ⟨rfl,(a43.trans rfl),(by exact rfl),(by exact rfl),trivial⟩ (g108.trans rfl) rfl)) ?_
   refine dd [104,108,109] (λ_ _ _ _=>app' 109) ?_;refine zd [[105]] ?_;refine dd [105] (λ_ _ _ _=>stP (.agg [.own 109,Qb r3,sli 3 (List.map Qb r5)]) [0]) ?_;refine de fol ?_;refine z [11] ?_;exact sgo (eR [(101,101),(102,102),(105,105),(104,109)])
 intro s56
 refine z [13,4,2,32,34,1,8] ?_;refine fz 104 [48] [101,105] ?_;exact rt []
theorem Qvx{n:Nat}{x0}{x1}:∀ r,Zx n x0 x1=some r->FnOk Tryz.prog 42 [Q5 x0,Qj x1] [] (.tup [Qj r.1,bl r.2]) []:=by
 unfold Zx
 refine fs Tryz.func42 λw S0 γ hγ=>?_;refine z [2] ?_;refine o (bx' 100) ?_;refine o (bx' 101) ?_;refine o (al' 102) ?_;refine z [31,1,5,2,32] ?_;refine cb (ca Qda) λr1=>?_;refine z [44,1] ?_;refine c ?_ ?_
 . refine z [2] ?_;refine s1 (bld (l:=[sli 14 (List.map Qu []),Qb (⟨(⟨false,[]⟩:Qd),[]⟩:Qa),sli 3 (List.map Qb [])]) pl_61.h ti_61.h Wm rfl rfl) ?_;refine z [34,31,1,8,10] ?_;exact rt []
 refine z [9,4,5,2,33,36,39,31,1,7] ?_;refine sloopE 0 Lp.go (λs29=>[(2,.own 100),(3,.own 101),(4,.own 102),(5,bl false),(6,i64 s29)]) (λs29=>[(100,.bx 57 (Q5 x0)),(101,.bx 61 (Qj x1)),(102,.bx 61 (Qj (⟨[],(⟨(⟨false,[]⟩:Qd),[]⟩:Qa),[]⟩:Qi)))]) (λt27=>[(4,.own 102),(5,bl false)]) (λt27=>[(102,.bx 61 (Qj (⟨[],(⟨(⟨false,[]⟩:Qd),[]⟩:Qa),[]⟩:Qi)))]) (eR [(100,100),(101,101),(102,102)]) ?_ ?_
 . intro hj28 s29
   refine z [5,2,30,57,1] ?_;refine c ?_ ?_
   . refine z [9,4,5,7,2,32,32,30] ?_;refine cb (ca Qt7) λr30=>?_;refine z [30,35,35] ?_;refine o (al' 103) ?_;refine z [34,31,1] ?_;refine sjq (λs36=>[(2,.own 100),(3,.own 101),(4,.own 102),(5,bl false),(6,i64 s29),(7,.own 103),(35,bl s36)]) (λs36=>[(100,.bx 57 (Q5 x0)),(101,.bx 61 (Qj x1)),(102,.bx 61 (Qj (⟨[],(⟨(⟨false,[]⟩:Qd),[]⟩:Qa),[]⟩:Qi))),(103,.bx 61 (Qj r30.1))]) ?_ ?_
     . intro j34 hj35
       refine z [6,30,30] ?_;refine sifd 28 rfl ?_ ?_
       . refine z [22,22] ?_;refine sg 28 rfl rfl (bld (l:=[Q5 x0,Qj r30.1]) Qzi.h Qve.h Qkb ⟨_,_,_,rfl,rfl,rfl,rfl,(szk (k:=38) rfl rfl),⟨_,_,_,rfl,rfl,rfl,rfl,(szk (k:=5) rfl rfl),rfl⟩⟩ rfl) ?_;refine b λr37 h38=>?_;refine og' (c0 (Qgm _ h38)) ?_;refine sg 28 rfl rfl (bld (l:=[i64 0,i64 0]) Qe6.h Qc8.h Vl rfl rfl) ?_;refine sg 28 rfl rfl (eqA (p:=(r37:Qv)) (q:=((⟨0,0⟩:Qv):Qv)) Ql6 rfl Qqn rfl rfl rfl) ?_;refine z [38,1] ?_;exact sj (hj35 _) (eR [(100,100),(101,101),(102,102),(103,103)])
       refine z [23,23,23,23,23,23,37,1] ?_;exact sj (hj35 _) (eR [(100,100),(101,101),(102,102),(103,103)])
     intro s36
     refine c ?_ ?_
     . refine z [2,32] ?_;refine cb (ca Qr9) λr39=>?_;refine z [34,31,1,8,12,10] ?_;refine sU ?_;refine z [12,10] ?_;exact rt []
     refine z [9,11,4,6,30,49,31,3] ?_;exact sgo (eR [(100,100),(101,101),(102,102)])
   refine z [14,15] ?_;exact su (sj (hj28 _) (eR [(102,102)]))
 intro t27
 refine slpk ?_;refine z [13,4,2] ?_;refine s1 (bld (l:=[sli 14 (List.map Qu []),Qb (⟨(⟨false,[]⟩:Qd),[]⟩:Qa),sli 3 (List.map Qb [])]) pl_61.h ti_61.h Wm rfl rfl) ?_;refine z [34,31,1,8] ?_;exact rt []
end Go.Proofs.YtlihkcaoachkdaaGreatDoor
