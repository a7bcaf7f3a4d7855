import Derived.Test.YtlihkcaoachkdaaGreatDoorGen0
import Derived.Test.YtlihkcaoachkdaaGreatDoorGenA1
import Derived.Test.YtlihkcaoachkdaaGreatDoorGenA2
set_option maxRecDepth 100000
set_option maxHeartbeats 4000000
namespace Go.Proofs.YtlihkcaoachkdaaGreatDoor
open Go Go.RowKit
theorem Qcv{n:Nat}{x0}{x1}:∀ r,X7 n x0 x1=some r->FnOk Tryz.prog 102 [Qb x0,Qb x1] [] (Qb r) []:=by
 unfold X7
 refine fs Tryz.func102 λw S0 γ hγ=>?_;refine z [2] ?_;refine o (bx' 100) ?_;refine o (bx' 101) ?_;refine o (al' 102) ?_;refine z [1,2,32] ?_;refine cb (ca Wk) λr1=>?_;refine z [30,35,35] ?_;refine o (al' 103) ?_;refine z [34,31,1,2,32] ?_;refine cb (ca Wk) λr3=>?_;refine z [30,35,35] ?_;refine o (al' 104) ?_;refine z [34,31,1,2,32,32] ?_;refine cb (ca Qk3) λr5=>?_;refine z [30,30] ?_;refine cb (ca Qbk) λr7=>?_;refine cb (ca Qa5) λr9=>?_;refine z [34,1,8] ?_;exact rt []
theorem Qaj{n:Nat}{x0}{x1}:∀ r,W1 n x0 x1=some r->FnOk Tryz.prog 52 [Qb x0,sli 3 (List.map Qb x1)] [] (.own 50) [(50,.sl 53 3 (List.map Qb r))]:=by
 unfold W1
 refine fs Tryz.func52 λw S0 γ hγ=>?_;refine z [2] ?_;refine o (bx' 100) ?_;refine s1 (asg rfl (kLm (k:=3) Qb)) ?_;refine z [1,2] ?_;refine so (asgN (y:=101) (E:=53) (k:=3) rfl rfl) ?_;refine z [1,5,2,30,39,30,1,7] ?_;refine srN (λs18=>[(2,.own 100),(4,sli 3 (List.map Qb ([]:List Qa))),(5,.own 101),(8,sli 3 (List.map Qb x1))]) (λs18=>[(100,.bx 53 (Qb x0)),(101,.sl 53 3 (List.map Qb s18))]) (rE (eR [(100,100),(101,101)])) ?_ ?_
 . intro i19 x20 s18 hx21
   refine z [7,2,43,42] ?_;refine o (al' 102) ?_;refine z [34,1,6,30,32,32] ?_;refine cb (ca Qcv) λr22=>?_
   refine so (bsl (y:=103) (ls:=List.map Qb ([r22]:List Qa)) Tryz.underlying44 ti_53.h rfl rfl rfl rfl rfl ⟨rfl,rfl,(by exact rfl),(by exact rfl),trivial⟩ rfl rfl) ?_
   refine b λy24 h25=>?_;refine o (app' 104) ?_;refine z [31,3,11] ?_;exact sgo (eR [(100,100),(101,104)])
 intro s26
 refine z [13,4,2,30,31,1,8] ?_;exact rt [(50,101)]
theorem Qk5{n:Nat}{x0_k}{x0_h_Tries}{x0_h_T}{x0_h_Y}{x0_want}:∀ r,W2 n x0_k x0_h_Tries x0_h_T x0_h_Y x0_want=some r->FnOk Tryz.prog 54 [.own 0] [(0,.bx 119 (.agg [Q5 x0_k,.agg [.own 1,Qb x0_h_T,sli 3 (List.map Qb x0_h_Y)],Qb x0_want])),(1,.sl 82 14 (List.map Qu x0_h_Tries))] (bl r) [(0,.bx 119 (.agg [Q5 x0_k,.agg [.own 1,Qb x0_h_T,sli 3 (List.map Qb x0_h_Y)],Qb x0_want])),(1,.sl 82 14 (List.map Qu x0_h_Tries))]:=by
 unfold W2
 refine fs Tryz.func54 λw S0 γ hγ=>?_;refine z [2,31,1,5] ?_;refine b λr1 h2=>?_;refine sd ?_;refine zd [[],[0],[0],[],[0],[],[0],[0],[],[0]] ?_;refine dd [] (λ_ _ _ _=>c0 (Jp _ h2)) ?_;refine zd [[]] ?_;refine de fol ?_;refine z [4,8] ?_;exact rt [(0,0),(1,1)]
theorem Qnp{n:Nat}{x0}{x1}:∀ r,Yu n x0 x1=some r->FnOk Tryz.prog 103 [K2 x0,Qb x1] [] (bl r) []:=by
 unfold Yu
 refine fs Tryz.func103 λw S0 γ hγ=>?_;refine z [2] ?_;refine o (bx' 100) ?_;refine o (bx' 101) ?_;refine z [31,1,2,32,33,36] ?_;refine cb (ca Xk) λr1=>?_;refine z [46,31,1,8] ?_;exact rt []
theorem Qli{n:Nat}{x0_k}{x0_h_Tries}{x0_h_T}{x0_h_Y}{x0_want}:∀ r,Vq n x0_k x0_h_Tries x0_h_T x0_h_Y x0_want=some r->FnOk Tryz.prog 55 [.own 0] [(0,.bx 119 (.agg [Q5 x0_k,.agg [.own 1,Qb x0_h_T,sli 3 (List.map Qb x0_h_Y)],Qb x0_want])),(1,.sl 82 14 (List.map Qu x0_h_Tries))] (Qo r) [(0,.bx 119 (.agg [Q5 x0_k,.agg [.own 1,Qb x0_h_T,sli 3 (List.map Qb x0_h_Y)],Qb x0_want])),(1,.sl 82 14 (List.map Qu x0_h_Tries))]:=by
 unfold Vq
 refine fs Tryz.func55 λw S0 γ hγ=>?_;refine z [2] ?_;refine o (al' 100) ?_;refine z [1,2,30,48,33,45,36,55,31,1,5,7,2,30,30,48,33,45,45,36,41,31,1] ?_;refine c ?_ ?_
 . refine z [2,30,40] ?_;refine s1 (bld (l:=[i64 (5:Int),i64 (wrap64 ((x0_h_Tries.length:Int)+(1:Int))),i64 0,i64 0]) pl_63.h ti_63.h Qq ⟨_,_,_,(kI (x:=5) rfl),rfl,rfl,rfl,(szk (k:=1) rfl rfl),⟨_,_,_,rfl,rfl,rfl,rfl,(szk (k:=1) rfl rfl),rfl⟩⟩ rfl) ?_;refine z [34,1,8,12,10] ?_;exact rt [(0,0),(1,1)]
 refine z [5] ?_;refine b λr1 h2=>?_;refine sd ?_;refine zd [[],[0],[0],[],[0],[],[0],[0],[0]] ?_;refine dd [] (λ_ _ _ _=>c0 (Qnp _ h2)) ?_;refine zd [[]] ?_;refine de fol ?_;refine z [4] ?_;refine c ?_ ?_
 . refine z [2,30,40] ?_;refine s1 (bld (l:=[i64 (4:Int),i64 (wrap64 ((x0_h_Tries.length:Int)+(1:Int))),i64 0,i64 0]) pl_63.h ti_63.h Qq ⟨_,_,_,(kI (x:=4) rfl),rfl,rfl,rfl,(szk (k:=1) rfl rfl),⟨_,_,_,rfl,rfl,rfl,rfl,(szk (k:=1) rfl rfl),rfl⟩⟩ rfl) ?_;refine z [34,1,8,12,10] ?_;exact rt [(0,0),(1,1)]
 refine z [9,11,4,2] ?_;refine s1 (bld (l:=[i64 0,i64 0,i64 0,i64 0]) pl_63.h ti_63.h Qq rfl rfl) ?_;refine z [34,1,8] ?_;exact rt [(0,0),(1,1)]
theorem Qlj{x0}{x1}:∀ r,W3 x0 x1=some r->FnOk Tryz.prog 53 [Qo x0,.own 0] [(0,.bx 63 (Qo x1))] (bl r.1) [(0,.bx 63 (Qo r.2))]:=by
 unfold W3
 refine fs Tryz.func53 λw S0 γ hγ=>?_;refine z [2] ?_;refine o (bx' 100) ?_;refine z [31,1,2,32,34,1,2,32] ?_;refine s1 (bld (l:=[i64 0,i64 0,i64 0,i64 0]) pl_63.h ti_63.h Qq rfl rfl) ?_;refine s1 (neA (p:=(x0:Qc)) (q:=((⟨0,0,0,0⟩:Qc):Qc)) Kk rfl eg_63 rfl rfl rfl) ?_;refine z [31,1,8] ?_;exact rt [(0,0)]
theorem Qmc{n:Nat}{x0}{x1}:∀ r,Qcr n x0 x1=some r->FnOk Tryz.prog 29 [Qb x0,Qb x1] [] (Qb r) []:=by
 unfold Qcr
 refine fs Tryz.func29 λw S0 γ hγ=>?_;refine z [2] ?_;refine o (bx' 100) ?_;refine o (bx' 101) ?_;refine o (al' 102) ?_;refine z [1,2,32] ?_;refine cb (ca Wk) λr1=>?_;refine z [30,35,35] ?_;refine o (al' 103) ?_;refine z [34,31,1,2,32] ?_;refine cb (ca Wk) λr3=>?_;refine z [30,35,35] ?_;refine o (al' 104) ?_;refine z [34,31,1,5] ?_;refine b λr5 h6=>?_;refine b λr7 h8=>?_;refine b λr9 h10=>?_;refine b λr11 h12=>?_;refine b λr13 h14=>?_;refine sd ?_;refine zd [[103],[]] ?_;refine dd [] (λ_ _ _ _=>c0 (Qax _ h6)) ?_;refine zd [[104],[]] ?_;refine dd [] (λ_ _ _ _=>c0 (Qax _ h8)) ?_;refine dd [] (λ_ _ _ _=>c0 (Qhk _ h10)) ?_;refine zd [[],[]] ?_;refine dd [] (λ_ _ _ _=>c0 (Qbk _ h12)) ?_;refine dd [] (λ_ _ _ _=>c0 (Qa5 _ h14)) ?_;refine zd [[102]] ?_;refine de fol ?_;refine z [4,8] ?_;exact rt []
theorem Qqt{n:Nat}{x0}{x1}{x2}:∀ r,Qei n x0 x1 x2=some r->FnOk Tryz.prog 104 [Qb x0,Qb x1,Qb x2] [] (Qb r) []:=by
 unfold Qei
 refine fs Tryz.func104 λw S0 γ hγ=>?_;refine z [2] ?_;refine o (bx' 100) ?_;refine o (bx' 101) ?_;refine o (bx' 102) ?_;refine o (al' 103) ?_;refine z [1,2,32,32] ?_;refine cb (ca Qmc) λr1=>?_;refine o (al' 104) ?_;refine z [34,1,5,2,32,32] ?_;refine cb (ca Xk) λr3=>?_;refine z [47,1] ?_;refine c ?_ ?_
 . refine z [2,32,34,1,8,10] ?_;exact rt []
 refine z [9,4,2,32] ?_;refine cb (ca J2) λr5=>?_;refine z [34,1,8] ?_;exact rt []
theorem Qpa{x0}:∀ r,Qdh x0=some r->FnOk Tryz.prog 170 [i64 x0] [] (.own 50) [(50,.bx 298 (Qs r))]:=by
 unfold Qdh
 refine fs Tryz.func170 λw S0 γ hγ=>?_;refine z [2,31,1,2,30,88,89] ?_;refine s1 (bld (l:=[Qh6 (⟨0,0⟩:X4),i64 (min (max x0 (0:Int)) (4096:Int))]) Q3b.h Q3a.h Qrz ⟨_,_,_,rfl,rfl,rfl,rfl,(szk (k:=1) rfl rfl),rfl⟩ rfl) ?_;refine o (bx' 100) ?_;refine z [31,1,8] ?_;exact rt [(50,100)]
theorem Qx7{n:Nat}{x0}:∀ r,Qek n x0=some r->FnOk Tryz.prog 302 [i64 x0] [] (.own 50) [(50,.sl 53 3 (List.map Qb r))]:=by
 unfold Qek
 refine fs Tryz.func302 λw S0 γ hγ=>?_;refine z [2] ?_;refine s1 (asg rfl (kLm (k:=3) Qb)) ?_;refine z [1,2,30,88,89,31,1,2,30] ?_;refine b λy1 h2=>?_;refine so (mks (y:=100) (f:=Qb) h2 Tryz.underlying44 ti_53.h Jm rfl rfl rfl rfl rfl rfl) ?_;refine z [31,1,5,2,30,30,1,7] ?_;refine sloopE 0 (λt=>t) (λs15=>[(2,sli 3 (List.map Qb ([]:List Qa))),(3,.own 100),(10,i64 (min (max x0 (0:Int)) (300:Int))),(11,i64 s15.2)]) (λs15=>[(100,.sl 53 3 (List.map Qb s15.1))]) (λt13=>[(2,sli 3 (List.map Qb ([]:List Qa))),(3,.own 100)]) (λt13=>[(100,.sl 53 3 (List.map Qb t13))]) (eR [(100,100)]) ?_ ?_
 . intro hj14 s15
   refine z [2,46,1,5] ?_;refine c ?_ ?_
   . refine z [9,4,5,7,2,30,31,1,6,30,30] ?_;refine cb (ca Kl) λr16=>?_;refine b λy18 h19=>?_;refine z [50,53,3,11,4,6,40,30,3] ?_;exact sgo (eR [(100,100)])
   refine z [14,15] ?_;exact su (sj (hj14 _) (eR [(100,100)]))
 intro t13
 refine z [13,4,2,30,31,1,8] ?_;exact rt [(50,100)]
theorem Qvq{n:Nat}{x0}{x1}{x2}:∀ r,Qf9 n x0 x1 x2=some r->FnOk Tryz.prog 266 [sli 3 (List.map Qb x0),.own 0,i64 x2] [(0,.sl 44 1 (List.map Qg x1))] (.tup [sli 3 (List.map Qb r.1),bl r.2]) [(0,.sl 44 1 (List.map Qg x1))]:=by
 unfold Qf9
 refine fs Tryz.func266 λw S0 γ hγ=>?_;refine z [2] ?_;refine s1 (asg rfl (kLm (k:=3) Qb)) ?_;refine z [31,1,5] ?_;refine sjq (λs3=>[(0,sli 3 (List.map Qb x0)),(1,.own 0),(2,i64 x2),(6,sli 3 (List.map Qb ([]:List Qa))),(7,bl false),(27,bl s3)]) (λs3=>[(0,.sl 44 1 (List.map Qg x1))]) ?_ ?_
 . intro j1 hj2
   refine z [6,30,39,30,55,56,30] ?_;refine sifd 20 rfl ?_ ?_
   . refine z [23,23,38,30,23,23,38,1] ?_;exact sj (hj2 _) (eR [(0,0)])
   refine z [22,22,37,30] ?_;refine sifd 24 rfl ?_ ?_
   . refine z [23,23,38,1] ?_;exact sj (hj2 _) (eR [(0,0)])
   refine z [22,22,37,1] ?_;exact sj (hj2 _) (eR [(0,0)])
 intro s3
 refine c ?_ ?_
 . refine z [2] ?_;refine s1 (asg rfl (kLm (k:=3) Qb)) ?_;refine z [31,1,8,10] ?_;exact rt [(0,0)]
 refine z [9,4,5,2,30,55,30,1,7] ?_;refine srN (λs9=>[(0,sli 3 (List.map Qb x0)),(1,.own 0),(2,i64 x2),(6,sli 3 (List.map Qb ([]:List Qa))),(7,bl false),(28,.own 0)]) (λs9=>[(0,.sl 44 1 (List.map Qg x1))]) (rE (eR [(0,0)])) ?_ ?_
 . intro i10 x11 s9 hx12
   refine z [7,2,50,51,31,1,2,30,39,30,56,1] ?_;refine c ?_ ?_
   . refine z [2] ?_;refine s1 (asg rfl (kLm (k:=3) Qb)) ?_;refine z [31,1,8,12] ?_;refine sU ?_;refine z [12,10] ?_;exact rt [(0,0)]
   refine z [9,11] ?_;exact sgo (eR [(0,0)])
 intro s13
 refine z [13,4,2,30] ?_;refine b λr14 h15=>?_;refine o (cG (Qx7 _ h15) [] [(100,50)] []) ?_;refine z [31,1,5,2,30,55,30,1,7] ?_;refine srN (λs107=>[(0,sli 3 (List.map Qb x0)),(6,sli 3 (List.map Qb ([]:List Qa))),(7,bl false),(10,.own 100),(41,.own 0)]) (λs107=>[(0,.sl 44 1 (List.map Qg x1)),(100,.sl 53 3 (List.map Qb s107))]) (rE (eR [(0,0),(100,100)])) ?_ ?_
 . intro i108 x109 s107 hx110
   refine z [7,2,30,50,51,31,31,1,5,2,30,30] ?_;refine b λy111 h112=>?_;refine z [43,42] ?_;refine cb (ca Zp) λr113=>?_;refine z [41,1] ?_;refine c ?_ ?_
   . refine z [14,15,13] ?_;exact sgo (eR [(0,0),(100,100)])
   refine z [9,4,2,30,39,30,1,7] ?_;refine srN (λs130=>[(0,sli 3 (List.map Qb x0)),(6,sli 3 (List.map Qb ([]:List Qa))),(7,bl false),(10,.own 100),(11,i64 (i108:Int)),(41,.own 0),(42,i64 (x1.length:Int)),(43,i64 (i108:Int)),(54,sli 3 (List.map Qb x109))]) (λs130=>[(0,.sl 44 1 (List.map Qg x1)),(100,.sl 53 3 (List.map Qb s130))]) (rE (eR [(0,0),(100,100)])) ?_ ?_
   . intro i131 x132 s130 hx133
     refine z [7,2,30,43,42] ?_;refine o (al' 101) ?_;refine z [31,34,1] ?_;refine b λy134 h135=>?_;refine b λy136 h137=>?_;refine b λr138 h139=>?_;refine b λr140 h141=>?_;refine b λy142 h143=>?_;refine sd ?_;refine zd [[],[],[],[]] ?_;refine dx [63,64] [100] (λst mm ⟨a63,a64,_⟩ ⟨g100,_⟩=>og (ixO (f:=Qb) (g100.trans rfl) Tryz.underlying44 ti_53.h h135 rfl (a63.trans rfl) (a64.trans rfl))) ?_
     refine dx [65] [100] (λst mm ⟨a65,_⟩ ⟨g100,_⟩=>og (ldO (f:=Qb) [] (g100.trans rfl) (Qg1 h135) (by exact rfl) off0 sh_53.h (by exact rfl) (by exact rfl) rfl (a65.trans rfl))) ?_
     refine zd [[],[],[],[],[101]] ?_;refine dd [] (λ_ _ _ _=>c0 (Qcv _ h139)) ?_;refine dd [] (λ_ _ _ _=>c0 (Zo _ h141)) ?_;refine dx [61,62] [100] (λst mm ⟨a61,a62,_⟩ ⟨g100,_⟩=>og (ixO (f:=Qb) (g100.trans rfl) Tryz.underlying44 ti_53.h h143 rfl (a61.trans rfl) (a62.trans rfl))) ?_
     refine dx [74,73] [100] (λst mm ⟨a74,a73,_⟩ ⟨g100,_⟩=>og (stO (f:=Qb) r140 [] (g100.trans rfl) (Qg1 h143) (by exact rfl) off0 (by exact rfl) (by exact rfl) sh_53.h (by exact rfl) (by exact rfl) (by exact rfl) (a74.trans rfl) (a73.trans rfl))) ?_
     refine de fol ?_;refine z [11] ?_;exact sgo (eR [(0,0),(100,100)])
   intro s144
   refine z [13,11] ?_;exact sgo (eR [(0,0),(100,100)])
 intro s145
 refine z [13,4,2,30,31,31,1,8] ?_;refine fz 100 [6,10,77] [] ?_;exact rt [(0,0)]
theorem Qe7{n:Nat}{x0_p}{x0_t}{x0_h}{x0_y}{x0_g}{x0_out_Ys}{x0_out_Ks}{x0_out_Next}{x0_out_Err}{x1}:∀ r,K0 n x0_p x0_t x0_h x0_y x0_g x0_out_Ys x0_out_Ks x0_out_Next x0_out_Err x1=some r->FnOk Tryz.prog 222 [.own 0,sli 3 (List.map Qb x1)] [(0,.bx 247 (.agg [Q8 x0_p,Qb x0_t,Qb x0_h,sli 3 (List.map Qb x0_y),.own 1,.agg [.own 2,.own 3,sli 3 (List.map Qb x0_out_Next),sli 3 (List.map Qb x0_out_Err)]])),(1,.bx 298 (Qs x0_g)),(2,.sl 44 1 (List.map Qg x0_out_Ys)),(3,.sl 44 1 (List.map Qg x0_out_Ks))] (sli 3 (List.map Qb r)) [(0,.bx 247 (.agg [Q8 x0_p,Qb x0_t,Qb x0_h,sli 3 (List.map Qb x0_y),.own 1,.agg [.own 2,.own 3,sli 3 (List.map Qb x0_out_Next),sli 3 (List.map Qb x0_out_Err)]])),(1,.bx 298 (Qs x0_g)),(2,.sl 44 1 (List.map Qg x0_out_Ys)),(3,.sl 44 1 (List.map Qg x0_out_Ks))]:=by
 unfold K0
 refine fs Tryz.func222 λw S0 γ hγ=>?_;refine z [2] ?_;refine s1 (asg rfl (kLm (k:=3) Qb)) ?_;refine z [1,5] ?_;refine b λr1 h2=>?_;refine sd ?_;refine zd [[],[],[0],[0],[],[0],[],[0],[0],[0],[]] ?_;refine dd [3] (λ_ _ _ _=>cG (Qvq _ h2) [3] [] [3]) ?_;refine zd [[],[],[],[],[]] ?_;refine de fol ?_;refine z [4,2,30,48,33,36,30] ?_;refine b λr3 h4=>?_;refine o (cG (Qaj _ h4) [] [(100,50)] []) ?_;refine z [31,1,8] ?_;refine fz 100 [4,27] [] ?_;exact rt [(0,0),(1,1),(2,2),(3,3)]
theorem Qx8{n:Nat}{x0}:∀ r,Qga n x0=some r->FnOk Tryz.prog 300 [sli 3 (List.map Qb x0)] [] (.own 50) [(50,.sl 53 3 (List.map Qb r))]:=by
 unfold Qga
 refine fs Tryz.func300 λw S0 γ hγ=>?_;refine z [2] ?_;refine s1 (asg rfl (kLm (k:=3) Qb)) ?_;refine z [1,2] ?_;refine so (asgN (y:=100) (E:=53) (k:=3) rfl rfl) ?_;refine z [1,5,2,30,39,30,1,7] ?_;refine srN (λs18=>[(2,sli 3 (List.map Qb ([]:List Qa))),(3,.own 100),(6,sli 3 (List.map Qb x0))]) (λs18=>[(100,.sl 53 3 (List.map Qb s18))]) (rE (eR [(100,100)])) ?_ ?_
 . intro i19 x20 s18 hx21
   refine z [7,2,43,42] ?_;refine o (al' 101) ?_;refine z [34,1,6,30,32] ?_;refine cb (ca J2) λr22=>?_
   refine so (bsl (y:=102) (ls:=List.map Qb ([r22]:List Qa)) Tryz.underlying44 ti_53.h rfl rfl rfl rfl rfl ⟨rfl,rfl,(by exact rfl),(by exact rfl),trivial⟩ rfl rfl) ?_
   refine b λy24 h25=>?_;refine o (app' 103) ?_;refine z [31,3,11] ?_;exact sgo (eR [(100,103)])
 intro s26
 refine z [13,4,2,30,31,1,8] ?_;exact rt [(50,100)]
theorem Qtf{n:Nat}{x0}:∀ r,Qfn n x0=some r->FnOk Tryz.prog 263 [sli 1 (List.map Qg x0)] [] (.tup [sli 3 (List.map Qb r.1),bl r.2]) []:=by
 unfold Qfn
 refine fs Tryz.func263 λw S0 γ hγ=>?_;refine z [2] ?_;refine s1 (asg rfl (kLm (k:=3) Qb)) ?_;refine z [31,1,5,2,30,39,41,1] ?_;refine c ?_ ?_
 . refine z [2] ?_;refine s1 (asg rfl (kLm (k:=3) Qb)) ?_;refine z [31,1,8,10] ?_;exact rt []
 refine z [9,4,2,30] ?_;refine b λy1 h2=>?_;refine z [43,42] ?_;refine b λr3 h4=>?_;refine o (cG (Qx8 _ h4) [] [(100,50)] []) ?_;refine z [31,1,5,2,30] ?_;refine b λy5 h6=>?_;refine s1 (slR (f:=Qg) h6 Tryz.underlying45 ti_44.h rfl rfl (bnd (kI (x:=1) rfl)) bnd0) ?_;refine z [39,30,1,7] ?_;refine srN (λs70=>[(2,sli 3 (List.map Qb ([]:List Qa))),(3,bl false),(4,.own 100),(17,sli 1 (List.map Qg y5))]) (λs70=>[(100,.sl 53 3 (List.map Qb s70))]) (rE (eR [(100,100)])) ?_ ?_
 . intro i71 x72 s70 hx73
   refine z [7,2,43,42,31,1,5,2,30,39,30,55,56,1] ?_;refine c ?_ ?_
   . refine z [2] ?_;refine s1 (asg rfl (kLm (k:=3) Qb)) ?_;refine z [31,1,8,10,12] ?_;refine sU ?_;refine z [12,10] ?_;exact rt []
   refine z [9,4,2,30,39,30,1,7] ?_;refine srN (λs85=>[(2,sli 3 (List.map Qb ([]:List Qa))),(3,bl false),(4,.own 100),(17,sli 1 (List.map Qg y5)),(18,i64 (y5.length:Int)),(19,i64 (i71:Int)),(28,sli 3 (List.map Qb x72))]) (λs85=>[(100,.sl 53 3 (List.map Qb s85))]) (rE (eR [(100,100)])) ?_ ?_
   . intro i86 x87 s85 hx88
     refine z [7,2,30,43,42] ?_;refine o (al' 101) ?_;refine z [31,34,1] ?_;refine b λy89 h90=>?_;refine b λr91 h92=>?_;refine b λy93 h94=>?_;refine sd ?_;refine zd [[],[],[],[]] ?_;refine dx [37,38] [100] (λst mm ⟨a37,a38,_⟩ ⟨g100,_⟩=>og (ixO (f:=Qb) (g100.trans rfl) Tryz.underlying44 ti_53.h h90 rfl (a37.trans rfl) (a38.trans rfl))) ?_
     refine dx [39] [100] (λst mm ⟨a39,_⟩ ⟨g100,_⟩=>og (ldO (f:=Qb) [] (g100.trans rfl) (Qg1 h90) (by exact rfl) off0 sh_53.h (by exact rfl) (by exact rfl) rfl (a39.trans rfl))) ?_
     refine zd [[101]] ?_;refine dd [] (λ_ _ _ _=>c0 (Zo _ h92)) ?_;refine dx [35,36] [100] (λst mm ⟨a35,a36,_⟩ ⟨g100,_⟩=>og (ixO (f:=Qb) (g100.trans rfl) Tryz.underlying44 ti_53.h h94 rfl (a35.trans rfl) (a36.trans rfl))) ?_
     refine dx [43,42] [100] (λst mm ⟨a43,a42,_⟩ ⟨g100,_⟩=>og (stO (f:=Qb) r91 [] (g100.trans rfl) (Qg1 h94) (by exact rfl) off0 (by exact rfl) (by exact rfl) sh_53.h (by exact rfl) (by exact rfl) (by exact rfl) (a43.trans rfl) (a42.trans rfl))) ?_
     refine de fol ?_;refine z [11] ?_;exact sgo (eR [(100,100)])
   intro s95
   refine z [13,11] ?_;exact sgo (eR [(100,100)])
 intro s96
 refine z [13,4,2,30,31,31,1,8] ?_;refine fz 100 [2,4,46] [] ?_;exact rt []
theorem Qgk{n:Nat}{x0_p}{x0_t}{x0_h}{x0_y}{x0_g}{x0_out_Ys}{x0_out_Ks}{x0_out_Next}{x0_out_Err}{x1}:∀ r,Wt n x0_p x0_t x0_h x0_y x0_g x0_out_Ys x0_out_Ks x0_out_Next x0_out_Err x1=some r->FnOk Tryz.prog 219 [.own 0,sli 3 (List.map Qb x1)] [(0,.bx 247 (.agg [Q8 x0_p,Qb x0_t,Qb x0_h,sli 3 (List.map Qb x0_y),.own 1,.agg [.own 2,.own 3,sli 3 (List.map Qb x0_out_Next),sli 3 (List.map Qb x0_out_Err)]])),(1,.bx 298 (Qs x0_g)),(2,.sl 44 1 (List.map Qg x0_out_Ys)),(3,.sl 44 1 (List.map Qg x0_out_Ks))] (sli 3 (List.map Qb r)) [(0,.bx 247 (.agg [Q8 x0_p,Qb x0_t,Qb x0_h,sli 3 (List.map Qb x0_y),.own 1,.agg [.own 2,.own 3,sli 3 (List.map Qb x0_out_Next),sli 3 (List.map Qb x0_out_Err)]])),(1,.bx 298 (Qs x0_g)),(2,.sl 44 1 (List.map Qg x0_out_Ys)),(3,.sl 44 1 (List.map Qg x0_out_Ks))]:=by
 unfold Wt
 refine fs Tryz.func219 λw S0 γ hγ=>?_;refine z [2] ?_;refine s1 (asg rfl (kLm (k:=3) Qb)) ?_;refine z [1,5] ?_;refine b λr3 h4=>?_;refine b λr5 h6=>?_;refine sd ?_;refine zd [[],[0],[0],[0],[],[]] ?_;refine dd [0,1,2,3] (λ_ _ _ _=>cG (Qe7 _ h4) [0,1,2,3] [] [0,1,2,3]) ?_
 refine dx [11,14] [100] (λst mm ⟨a11,a14,_⟩ ⟨g100,_⟩=>og (toV (bsl (y:=100) (ls:=List.map Qg ([x0_y,r3]:List (List Qa))) Tryz.underlying45 ti_44.h rfl rfl rfl rfl rfl ⟨rfl,(a11.trans rfl),(by exact rfl),(by exact rfl),rfl,(a14.trans rfl),(by exact rfl),(by exact rfl),trivial⟩ (g100.trans rfl) rfl) (Vu (f:=Qg) (λ_=>Qfv) ([x0_y,r3]:List (List Qa))))) ?_
 refine dd [] (λ_ _ _ _=>c0 (Qtf _ h6)) ?_;refine zd [[],[],[],[],[]] ?_;refine de fol ?_;refine z [4,2,30,31,1,8] ?_;exact rt [(0,0),(1,1),(2,2),(3,3)]
theorem Qlk{x0}{x1}:∀ r,Zz x0 x1=some r->FnOk Tryz.prog 323 [.ptr 0 0,i64 x1] [(0,.bx 298 (Qs x0))] (.tup []) [(0,.bx 298 (Qs r))]:=by
 unfold Zz
 refine fs Tryz.func323 λw S0 γ hγ=>?_;refine z [2,30,48,45,36,40,48,45] ?_;refine o (stP (Qs (⟨(⟨wrap64 (x0.Count.Seen+(1:Int)),x0.Count.Peak⟩:X4),x0.limit⟩:Qp)) [0,0]) ?_;refine z [1,6,30,30,48,45,36,30,88,48,45] ?_;refine o (stP (Qs (⟨(⟨wrap64 (x0.Count.Seen+(1:Int)),max x0.Count.Peak x1⟩:X4),x0.limit⟩:Qp)) [0,1]) ?_;refine z [3] ?_;exact rt [(0,0)]
theorem Qfp{n:Nat}{x0}{x1}:∀ r,Wg n x0 x1=some r->FnOk Tryz.prog 301 [.own 0,Qb x1] [(0,.bx 298 (Qs x0))] (bl r.1) [(0,.bx 298 (Qs r.2))]:=by
 unfold Wg
 refine fs Tryz.func301 λw S0 γ hγ=>?_;refine z [2] ?_;refine o (bx' 100) ?_;refine z [31,1,2,32] ?_;refine cb (ca Qk2) λr1=>?_;refine z [31,1,2,30,48,33,30] ?_;refine b λr3 h4=>?_;refine o (cG (Qlk _ h4) [0] [] []) ?_;refine z [1,2,30,30,48,33,36,58,31,1,8] ?_;exact rt [(0,0)]
theorem Qmd{n:Nat}{x0}{x1}:∀ r,Yt n x0 x1=some r->FnOk Tryz.prog 264 [.own 0,sli 3 (List.map Qb x1)] [(0,.bx 298 (Qs x0))] (.tup [i64 r.1,bl r.2.1]) [(0,.bx 298 (Qs r.2.2))]:=by
 unfold Yt
 refine fs Tryz.func264 λw S0 γ hγ=>?_;refine z [2,31,31,1,5,2,30,39,30,1,7] ?_;refine srN (λs14=>[(0,.own 0),(1,sli 3 (List.map Qb x1)),(4,i64 (0:Int)),(5,bl false),(8,sli 3 (List.map Qb x1))]) (λs14=>[(0,.bx 298 (Qs s14))]) (rE (eR [(0,0)])) ?_ ?_
 . intro i15 x16 s14 hx17
   refine z [7,2,30,43,42] ?_;refine o (al' 100) ?_;refine z [31,34,1,2,30,32] ?_;refine b λr18 h19=>?_;refine o (cG (Qfp _ h19) [0] [] []) ?_;refine z [44,1] ?_;refine c ?_ ?_
   . refine z [2,30,31,31,1,8,12] ?_;refine sU ?_;refine z [12,10] ?_;exact rt [(0,0)]
   refine z [9,11] ?_;exact sgo (eR [(0,0)])
 intro s20
 refine z [13,4,2,30,39,31,31,1,8] ?_;exact rt [(0,0)]
theorem Qcw{n:Nat}{x0_p}{x0_t}{x0_h}{x0_y}{x0_g}{x0_out_Ys}{x0_out_Ks}{x0_out_Next}{x0_out_Err}{x1}{x2}:∀ r,Vb n x0_p x0_t x0_h x0_y x0_g x0_out_Ys x0_out_Ks x0_out_Next x0_out_Err x1 x2=some r->FnOk Tryz.prog 220 [.own 0,sli 3 (List.map Qb x1),i64 x2] [(0,.bx 247 (.agg [Q8 x0_p,Qb x0_t,Qb x0_h,sli 3 (List.map Qb x0_y),.own 1,.agg [.own 2,.own 3,sli 3 (List.map Qb x0_out_Next),sli 3 (List.map Qb x0_out_Err)]])),(1,.bx 298 (Qs x0_g)),(2,.sl 44 1 (List.map Qg x0_out_Ys)),(3,.sl 44 1 (List.map Qg x0_out_Ks))] (Qo r.1) [(0,.bx 247 (.agg [Q8 x0_p,Qb x0_t,Qb x0_h,sli 3 (List.map Qb x0_y),.own 1,.agg [.own 2,.own 3,sli 3 (List.map Qb x0_out_Next),sli 3 (List.map Qb x0_out_Err)]])),(1,.bx 298 (Qs r.2)),(2,.sl 44 1 (List.map Qg x0_out_Ys)),(3,.sl 44 1 (List.map Qg x0_out_Ks))]:=by
 unfold Vb
 refine fs Tryz.func220 λw S0 γ hγ=>?_;refine z [2] ?_;refine o (al' 100) ?_;refine z [1,5,2,30,48,33,36,30] ?_;refine b λr1 h2=>?_;refine o (cG (Qmd _ h2) [1] [] []) ?_;refine z [30,35,35,31,31,1,2,30,44,1] ?_;refine c ?_ ?_
 . refine z [2,30,30,40] ?_;refine s1 (bld (l:=[i64 (6:Int),i64 0,i64 x2,i64 (wrap64 ((300:Int)+r1.1))]) pl_63.h ti_63.h Qq ⟨_,_,_,(kI (x:=6) rfl),rfl,rfl,rfl,(szk (k:=1) rfl rfl),⟨_,_,_,rfl,rfl,rfl,rfl,(szk (k:=1) rfl rfl),⟨_,_,_,rfl,rfl,rfl,rfl,(szk (k:=1) rfl rfl),rfl⟩⟩⟩ rfl) ?_;refine z [34,1,8,10] ?_;exact rt [(0,0),(1,1),(2,2),(3,3)]
 refine z [9,4,2] ?_;refine s1 (bld (l:=[i64 0,i64 0,i64 0,i64 0]) pl_63.h ti_63.h Qq rfl rfl) ?_;refine z [34,1,8] ?_;exact rt [(0,0),(1,1),(2,2),(3,3)]
theorem Qt3{n:Nat}{x0}{x1}{x2}{x3}:∀ r,Qc3 n x0 x1 x2 x3=some r->FnOk Tryz.prog 262 [Q8 x0,Qb x1,Qb x2,i64 x3] [] (Qb r) []:=by
 unfold Qc3
 refine fs Tryz.func262 λw S0 γ hγ=>?_;refine z [2] ?_;refine o (bx' 100) ?_;refine o (bx' 101) ?_;refine o (bx' 102) ?_;refine o (al' 103) ?_;refine z [1,5] ?_;refine sjq (λs3=>[(3,i64 x3),(4,.own 100),(5,.own 101),(6,.own 102),(8,.own 103),(18,bl s3)]) (λs3=>[(100,.bx 49 (Q8 x0)),(101,.bx 53 (Qb x1)),(102,.bx 53 (Qb x2)),(103,.bx 53 (Qb (⟨(⟨false,[]⟩:Qd),[]⟩:Qa)))]) ?_ ?_
 . intro j1 hj2
   refine z [6,30,46,30] ?_;refine sifd 11 rfl ?_ ?_
   . refine z [23,23,23,23,23,23,38,1] ?_;exact sj (hj2 _) (eR [(100,100),(101,101),(102,102),(103,103)])
   refine z [22,22,22,22,22,22,37,1] ?_;exact sj (hj2 _) (eR [(100,100),(101,101),(102,102),(103,103)])
 intro s3
 refine c ?_ ?_
 . refine z [2,32] ?_;refine cb (ca J2) λr4=>?_;refine z [34,1,8,10] ?_;exact rt []
 refine z [9,4,5] ?_;refine b λy6 h7=>?_;refine b λr8 h9=>?_;refine b λr10 h11=>?_;refine sd ?_;refine zd [[101],[102],[100],[],[100],[],[],[]] ?_;refine dd [] (λ_ _ _ _=>c0 (Qcv _ h9)) ?_;refine dd [] (λ_ _ _ _=>c0 (Zo _ h11)) ?_;refine zd [[103]] ?_;refine de fol ?_;refine z [4,8] ?_;exact rt []
theorem Qzl{x0}{x1}{x2}:∀ r,Qj9 x0 x1 x2=some r->FnOk Tryz.prog 261 [Q8 x0,Qb x1,sli 3 (List.map Qb x2)] [] (Qat r) []:=by
 unfold Qj9
 refine fs Tryz.func261 λw S0 γ hγ=>?_;refine z [2] ?_;refine o (bx' 100) ?_;refine o (bx' 101) ?_;refine o (al' 102) ?_;refine z [1,2,32,30,33,36] ?_;refine s1 (bld (l:=[Qb x1,sli 3 (List.map Qb x2),sli 3 (List.map Qb x0.P)]) Qy7.h Qqm.h Qh7 ⟨_,_,_,rfl,rfl,rfl,rfl,(szk (k:=3) rfl rfl),⟨_,_,_,rfl,rfl,rfl,rfl,(szk (k:=1) rfl rfl),⟨_,_,_,rfl,rfl,rfl,rfl,(szk (k:=1) rfl rfl),rfl⟩⟩⟩ rfl) ?_;refine z [34,1,8] ?_;exact rt []
theorem Qnq{n:Nat}{x0}:∀ r,Qd3 n x0=some r->FnOk Tryz.prog 335 [sli 3 (List.map Qb x0)] [] (sli 3 (List.map Qb r)) []:=by
 unfold Qd3
 refine fs Tryz.func335 λw S0 γ hγ=>?_;refine z [2] ?_;refine s1 (asg rfl (kLm (k:=3) Qb)) ?_;refine z [1,2] ?_;refine so (asgN (y:=100) (E:=53) (k:=3) rfl rfl) ?_;refine z [1,5,2,30,39,30,1,7] ?_;refine srN (λs18=>[(2,sli 3 (List.map Qb ([]:List Qa))),(3,.own 100),(6,sli 3 (List.map Qb x0))]) (λs18=>[(100,.sl 53 3 (List.map Qb s18))]) (rE (eR [(100,100)])) ?_ ?_
 . intro i19 x20 s18 hx21
   refine z [7,2,43,42] ?_;refine o (al' 101) ?_;refine z [34,1,6,30,32] ?_;refine cb (ca J2) λr22=>?_
   refine so (bsl (y:=102) (ls:=List.map Qb ([r22]:List Qa)) Tryz.underlying44 ti_53.h rfl rfl rfl rfl rfl ⟨rfl,rfl,(by exact rfl),(by exact rfl),trivial⟩ rfl rfl) ?_
   refine b λy24 h25=>?_;refine o (app' 103) ?_;refine z [31,3,11] ?_;exact sgo (eR [(100,103)])
 intro s26
 refine z [13,4,2,30,31,1,8] ?_;refine fz 100 [2,3,18] [] ?_;exact rt []
theorem Qws{n:Nat}{x0}:∀ r,Qhf n x0=some r->FnOk Tryz.prog 321 [Qat x0] [] (Qat r) []:=by
 unfold Qhf
 refine fs Tryz.func321 λw S0 γ hγ=>?_;refine z [2] ?_;refine o (bx' 100) ?_;refine o (al' 101) ?_;refine z [1,5] ?_;refine b λr1 h2=>?_;refine b λr3 h4=>?_;refine b λr5 h6=>?_;refine sd ?_;refine zd [[100],[100]] ?_;refine dd [] (λ_ _ _ _=>c0 (J2 _ h2)) ?_;refine zd [[100],[100]] ?_;refine dd [] (λ_ _ _ _=>c0 (Qnq _ h4)) ?_;refine zd [[100],[100]] ?_;refine dd [] (λ_ _ _ _=>c0 (Qnq _ h6)) ?_;refine dx [5,8,11] [] (λst mm ⟨a5,a8,a11,_⟩ _=>og (bld (l:=[Qb r1,sli 3 (List.map Qb r3),sli 3 (List.map Qb r5)]) Qy7.h Qqm.h Qh7 ⟨_,_,_,(a5.trans rfl),rfl,rfl,rfl,(szk (k:=3) rfl rfl),⟨_,_,_,(a8.trans rfl),rfl,rfl,rfl,(szk (k:=1) rfl rfl),⟨_,_,_,(a11.trans rfl),rfl,rfl,rfl,(szk (k:=1) rfl rfl),rfl⟩⟩⟩ rfl)) ?_;refine zd [[101]] ?_;refine de fol ?_;refine z [4,8] ?_;exact rt []
theorem Qx9{n:Nat}{x0}:∀ r,Qgb n x0=some r->FnOk Tryz.prog 377 [Qb x0] [] (Qb r) []:=by
 unfold Qgb
 refine fs Tryz.func377 λw S0 γ hγ=>?_;refine z [2] ?_;refine o (bx' 100) ?_;refine o (al' 101) ?_;refine z [1,2,32] ?_;refine cb (ca J2) λr1=>?_;refine o (al' 102) ?_;refine z [34,1,2,33,36] ?_;refine cb (ca Qo9) λr3=>?_;refine z [33] ?_;refine o (stP (Qb (⟨r3,r1.Den⟩:Qa)) [0]) ?_;refine z [1,2,32,34,1,8] ?_;exact rt []
theorem Qou{n:Nat}{x0_g}{x1}:∀ r,Qby n x0_g x1=some r->FnOk Tryz.prog 372 [.agg [.own 0],Qb x1] [(0,.bx 298 (Qs x0_g))] (Qb r) [(0,.bx 298 (Qs x0_g))]:=by
 unfold Qby
 refine fs Tryz.func372 λw S0 γ hγ=>?_;refine z [2] ?_;refine o (bx' 100) ?_;refine o (bx' 101) ?_;refine o (al' 102) ?_;refine z [1,2,32] ?_;refine cb (ca Qx9) λr1=>?_;refine z [34,1,8] ?_;exact rt [(0,0)]
theorem Qnr{n:Nat}{x0}{x1}:∀ r,Qca n x0 x1=some r->FnOk Tryz.prog 379 [sli 1 (List.map u32 x0),i64 x1] [] (sli 1 (List.map u32 r)) []:=by
 unfold Qca
 refine fs Tryz.func379 λw S0 γ hγ=>?_;refine z [2] ?_;refine s1 (asg rfl (kLm (k:=1) u32)) ?_;refine z [1,2] ?_;refine cb (ca Qaw) λr1=>?_;refine z [31,1,5,2,30,30,1,7] ?_;refine sloopE 0 (λt=>t) (λs11=>[(0,sli 1 (List.map u32 x0)),(4,sli 1 (List.map u32 ([]:List Nat))),(5,sli 1 (List.map u32 s11.1)),(7,i64 x1),(8,i64 s11.2)]) (λs11=>[]) (λt9=>[(4,sli 1 (List.map u32 ([]:List Nat))),(5,sli 1 (List.map u32 t9))]) (λt9=>[]) eI ?_ ?_
 . intro hj10 s11
   refine z [2,46,1,5] ?_;refine c ?_ ?_
   . refine z [9,4,5,7,6,30,30] ?_;refine cb (ca Qbk) λr12=>?_;refine z [31,3,11,4,6,40,30,3] ?_;exact sgo eI
   refine z [14,15] ?_;exact su (sj (hj10 _) eI)
 intro t9
 refine z [13,4,2,30,31,1,8] ?_;exact rt []
theorem Qya{n:Nat}{x0}{x1}:∀ r,Qgc n x0 x1=some r->FnOk Tryz.prog 378 [Qb x0,i64 x1] [] (.tup [Qb r.1,bl r.2]) []:=by
 unfold Qgc
 refine fs Tryz.func378 λw S0 γ hγ=>?_;refine z [2] ?_;refine o (bx' 100) ?_;refine o (al' 101) ?_;refine z [31,1,5] ?_;refine sjq (λs5=>[(1,i64 x1),(2,.own 100),(4,.own 101),(5,bl false),(24,bl s5)]) (λs5=>[(100,.bx 53 (Qb x0)),(101,.bx 53 (Qb (⟨(⟨false,[]⟩:Qd),[]⟩:Qa)))]) ?_ ?_
 . intro j3 hj4
   refine z [6,30,46,30] ?_;refine sifd 12 rfl ?_ ?_
   . refine z [23,23,38,30,23,23,23,24,24,24,23,38,1] ?_;exact sj (hj4 _) (eR [(100,100),(101,101)])
   refine z [22,22,37,30] ?_;refine sifd 16 rfl ?_ ?_
   . refine z [23,23,23,24,24,24,23,38,1] ?_;exact sj (hj4 _) (eR [(100,100),(101,101)])
   refine z [22,22,22] ?_;refine sifd 19 rfl ?_ ?_
   . refine z [22] ?_;refine b λr6 h7=>?_;refine og' (c0 (Zp _ h7)) ?_;refine z [22,22,37,1] ?_;exact sj (hj4 _) (eR [(100,100),(101,101)])
   refine z [23,23,23,22,37,1] ?_;exact sj (hj4 _) (eR [(100,100),(101,101)])
 intro s5
 refine c ?_ ?_
 . refine z [2] ?_;refine cb (ca Kl) λr8=>?_;refine z [34,31,1,8,10] ?_;exact rt []
 refine z [9,4,2,32] ?_;refine cb (ca J2) λr10=>?_;refine o (al' 102) ?_;refine z [34,1,2,30,30,82,88,31,1,5] ?_;refine b λr12 h13=>?_;refine b λr14 h15=>?_;refine sd ?_;refine zd [[102],[],[102],[]] ?_;refine dd [] (λ_ _ _ _=>c0 (Qnr _ h13)) ?_;refine zd [[102],[102],[]] ?_;refine dd [] (λ_ _ _ _=>c0 (Qnr _ h15)) ?_;refine zd [[],[]] ?_;refine de fol ?_;refine z [4] ?_;refine sjq (λs18=>[(4,.own 101),(5,bl false),(6,.own 102),(7,i64 (max x1 (wrap64 (-x1)))),(8,sli 1 (List.map u32 s18.1)),(9,sli 1 (List.map u32 s18.2))]) (λs18=>[(101,.bx 53 (Qb (⟨(⟨false,[]⟩:Qd),[]⟩:Qa))),(102,.bx 53 (Qb r10))]) ?_ ?_
 . intro j16 hj17
   refine z [2,30,46,1] ?_;refine c ?_ ?_
   . refine z [6,30,30,31,31,1] ?_;exact sj (hj17 _) (eR [(101,101),(102,102)])
   refine z [9,4] ?_;exact sj (hj17 _) (eR [(101,101),(102,102)])
 intro s18
 refine sjq (λs25=>[(4,.own 101),(5,bl true)]) (λs25=>[(101,.bx 53 (Qb s25))]) ?_ ?_
 . intro j23 hj24
   refine z [6,33,45,36,30] ?_;refine sifd 48 rfl ?_ ?_
   . refine z [22,22,22,38,30] ?_;refine s1 (bld (l:=[bl (decide ((Int.tmod (max x1 (wrap64 (-x1))) (2:Int))=(1:Int))),sli 1 (List.map u32 s18.1)]) pl_51.h ti_51.h Kz ⟨_,_,_,rfl,rfl,rfl,rfl,(szk (k:=1) rfl rfl),⟨_,_,_,rfl,rfl,rfl,rfl,(szk (k:=1) rfl rfl),rfl⟩⟩ rfl) ?_;refine cb (ca Qji) λr26=>?_;refine z [30] ?_;refine s1 (bld (l:=[Q1 r26,sli 1 (List.map u32 s18.2)]) pl_53.h ti_53.h Jm ⟨_,_,_,rfl,rfl,rfl,rfl,(szk (k:=2) rfl rfl),⟨_,_,_,rfl,rfl,rfl,rfl,(szk (k:=1) rfl rfl),rfl⟩⟩ rfl) ?_;refine z [34,31,1] ?_;exact sj (hj24 _) (eR [(101,101)])
   refine z [23,23,23,37,30] ?_;refine s1 (bld (l:=[bl false,sli 1 (List.map u32 s18.1)]) pl_51.h ti_51.h Kz ⟨_,_,_,rfl,rfl,rfl,rfl,(szk (k:=1) rfl rfl),⟨_,_,_,rfl,rfl,rfl,rfl,(szk (k:=1) rfl rfl),rfl⟩⟩ rfl) ?_;refine cb (ca Qji) λr28=>?_;refine z [30] ?_;refine s1 (bld (l:=[Q1 r28,sli 1 (List.map u32 s18.2)]) pl_53.h ti_53.h Jm ⟨_,_,_,rfl,rfl,rfl,rfl,(szk (k:=2) rfl rfl),⟨_,_,_,rfl,rfl,rfl,rfl,(szk (k:=1) rfl rfl),rfl⟩⟩ rfl) ?_;refine z [34,31,1] ?_;exact sj (hj24 _) (eR [(101,101)])
 intro s25
 refine z [8] ?_;exact rt []
theorem Qov{n:Nat}{x0_g}{x1}{x2}:∀ r,Qbz n x0_g x1 x2=some r->FnOk Tryz.prog 374 [.agg [.own 0],Qb x1,i64 x2] [(0,.bx 298 (Qs x0_g))] (.tup [Qb r.1,bl r.2]) [(0,.bx 298 (Qs x0_g))]:=by
 unfold Qbz
 refine fs Tryz.func374 λw S0 γ hγ=>?_;refine z [2] ?_;refine o (bx' 100) ?_;refine o (bx' 101) ?_;refine o (al' 102) ?_;refine z [31,1,2,32,30] ?_;refine cb (ca Qya) λr1=>?_;refine z [35,35,34,31,1,8] ?_;exact rt [(0,0)]
theorem Qow{n:Nat}{x0_g}{x1}{x2}:∀ r,Qb0 n x0_g x1 x2=some r->FnOk Tryz.prog 369 [.agg [.own 0],Qb x1,Qb x2] [(0,.bx 298 (Qs x0_g))] (Qb r) [(0,.bx 298 (Qs x0_g))]:=by
 unfold Qb0
 refine fs Tryz.func369 λw S0 γ hγ=>?_;refine z [2] ?_;refine o (bx' 100) ?_;refine o (bx' 101) ?_;refine o (bx' 102) ?_;refine o (al' 103) ?_;refine z [1,2,32,32] ?_;refine cb (ca Zo) λr1=>?_;refine z [34,1,8] ?_;exact rt [(0,0)]
theorem Qox{n:Nat}{x0_g}{x1}{x2}:∀ r,Qb1 n x0_g x1 x2=some r->FnOk Tryz.prog 376 [.agg [.own 0],Qb x1,Qb x2] [(0,.bx 298 (Qs x0_g))] (Qb r) [(0,.bx 298 (Qs x0_g))]:=by
 unfold Qb1
 refine fs Tryz.func376 λw S0 γ hγ=>?_;refine z [2] ?_;refine o (bx' 100) ?_;refine o (bx' 101) ?_;refine o (bx' 102) ?_;refine o (al' 103) ?_;refine z [1,2,32,32] ?_;refine cb (ca Qmc) λr1=>?_;refine z [34,1,8] ?_;exact rt [(0,0)]
theorem Qoy{n:Nat}{x0_g}{x1}{x2}:∀ r,Qb2 n x0_g x1 x2=some r->FnOk Tryz.prog 371 [.agg [.own 0],Qb x1,Qb x2] [(0,.bx 298 (Qs x0_g))] (Qb r) [(0,.bx 298 (Qs x0_g))]:=by
 unfold Qb2
 refine fs Tryz.func371 λw S0 γ hγ=>?_;refine z [2] ?_;refine o (bx' 100) ?_;refine o (bx' 101) ?_;refine o (bx' 102) ?_;refine o (al' 103) ?_;refine z [1,2,32,32] ?_;refine cb (ca Qcv) λr1=>?_;refine z [34,1,8] ?_;exact rt [(0,0)]
theorem Qoz{n:Nat}{x0_g}{x1}{x2}:∀ r,Qb3 n x0_g x1 x2=some r->FnOk Tryz.prog 375 [.agg [.own 0],Qb x1,Qb x2] [(0,.bx 298 (Qs x0_g))] (.tup [Qb r.1,bl r.2]) [(0,.bx 298 (Qs x0_g))]:=by
 unfold Qb3
 refine fs Tryz.func375 λw S0 γ hγ=>?_;refine z [2] ?_;refine o (bx' 100) ?_;refine o (bx' 101) ?_;refine o (bx' 102) ?_;refine o (al' 103) ?_;refine z [31,1,2,32,32] ?_;refine cb (ca Qmb) λr1=>?_;refine z [35,35,34,31,1,8] ?_;exact rt [(0,0)]
theorem Qpt{n:Nat}{x0_g}{x1}:∀ r,Qcu n x0_g x1=some r->FnOk Tryz.prog 373 [.agg [.own 0],Qb x1] [(0,.bx 298 (Qs x0_g))] (Qb r) [(0,.bx 298 (Qs x0_g))]:=by
 unfold Qcu
 refine fs Tryz.func373 λw S0 γ hγ=>?_;refine z [2] ?_;refine o (bx' 100) ?_;refine o (bx' 101) ?_;refine o (al' 102) ?_;refine z [1,2,32] ?_;refine cb (ca J2) λr1=>?_;refine z [34,1,8] ?_;exact rt [(0,0)]
theorem Qck{n:Nat}{x0_Arith_g}{x1}{x2}:∀ r,K6 n x0_Arith_g x1 x2=some r->FnOk Tryz.prog 345 [.agg [.agg [.own 0]],Ko x1,Wr x2] [(0,.bx 298 (Qs x0_Arith_g))] (Qb r) [(0,.bx 298 (Qs x0_Arith_g))]:=by
 unfold K6
 refine fs Tryz.func345 λw S0 γ hγ=>?_;refine z [2] ?_;refine o (bx' 100) ?_;refine o (bx' 101) ?_;refine o (bx' 102) ?_;refine o (al' 103) ?_;refine z [1,5,2,33,36,1,7,2,41,31,1] ?_;refine c ?_ ?_
 . refine z [2,33] ?_
   refine s1 (ldB [0] rfl (by exact rfl) Qht.h (by exact rfl) (by exact rfl) rfl rfl (.inl rfl)) ?_
   refine s1 (mkIf Tryz.underlying393 rfl rfl) ?_;refine z [33,36] ?_;refine b λr1 h2=>?_;refine s1 (okm rfl rfl (callI (em:=[(0,.bx 298 (Qs x0_Arith_g))]) (res':=Qb r1) [(0,0)] [] [(0,0)] rfl Qy9 (Qpt _ h2) (Zq (V3 (W6 rfl) (Xh))) ⟨⟨_,rfl,rn_id Ju⟩,trivial⟩ (MiF.get (mi:=[(0,_)]) ⟨⟨_,_,rfl,rfl,rc_bx (rn_id Ka)⟩,trivial⟩) ⟨⟨_,rfl⟩,trivial⟩ rfl trivial ⟨.inr rfl,trivial⟩ rfl ⟨.inl ⟨_,_,rfl,rfl,rc_bx (rn_id Ka)⟩,trivial⟩ ⟨⟨_,rfl⟩,trivial⟩ trivial (rn_id Ju) rfl)) ?_;refine z [34,1,8,12,10] ?_;exact rt [(0,0)]
 refine z [2,41,31,1] ?_;refine c ?_ ?_
 . refine z [2,33,36,33,36] ?_;refine b λy3 h4=>?_;refine z [43,42,34,1,8,12,10] ?_;exact rt [(0,0)]
 refine z [2,41,31,1] ?_;refine c ?_ ?_
 . refine z [2,33,36,33,36] ?_;refine b λy5 h6=>?_;refine z [43,42,34,1,8,12,10] ?_;exact rt [(0,0)]
 refine z [9,11,4,2,33,36,34,1,8] ?_;exact rt [(0,0)]
theorem Qcl{n:Nat}{x0_Arith_g}{x1}{x2}{x3}:∀ r,J3 n x0_Arith_g x1 x2 x3=some r->FnOk Tryz.prog 336 [.agg [.agg [.own 0]],Ko x1,Wr x2,.own 1] [(0,.bx 298 (Qs x0_Arith_g)),(1,.sl 53 3 (List.map Qb x3))] (.tup [Qb r.1,bl r.2]) [(0,.bx 298 (Qs x0_Arith_g)),(1,.sl 53 3 (List.map Qb x3))]:=by
 unfold J3
 refine fs Tryz.func336 λw S0 γ hγ=>?_;refine z [2] ?_;refine o (bx' 100) ?_;refine o (bx' 101) ?_;refine o (bx' 102) ?_;refine o (al' 103) ?_;refine z [31,1,5,2,33,36,1,7,2,41,31,1] ?_;refine c ?_ ?_
 . refine z [5] ?_;refine b λy1 h2=>?_;refine b λr3 h4=>?_;refine sd ?_;refine zd [[100]] ?_
   refine dx [14] [100] (λst mm ⟨a14,_⟩ ⟨g100,_⟩=>og (ldB [0] (g100.trans rfl) (by exact rfl) Qht.h (by exact rfl) (by exact rfl) rfl (a14.trans rfl) (.inl rfl))) ?_
   refine dx [15] [] (λst mm ⟨a15,_⟩ _=>og (mkIf Tryz.underlying393 rfl (a15.trans rfl))) ?_;refine zd [[],[101],[101],[1],[1]] ?_;refine dx [16,21] [0] (λst mm ⟨a16,a21,_⟩ ⟨g0,_⟩=>og (okm (g0.trans rfl) rfl (callI (em:=[(0,.bx 298 (Qs x0_Arith_g))]) (res':=Qb r3) [(0,0)] [] [(0,0)] (a16.trans rfl) Qxu (Qou _ h4) (Zq (V3 (W6 rfl) (Xh))) ⟨⟨_,(a21.trans rfl),rn_id Ju⟩,trivial⟩ (MiF.get (mi:=[(0,_)]) ⟨⟨_,_,rfl,(g0.trans rfl),rc_bx (rn_id Ka)⟩,trivial⟩) ⟨⟨_,rfl⟩,trivial⟩ rfl trivial ⟨.inr rfl,trivial⟩ rfl ⟨.inl ⟨_,_,rfl,rfl,rc_bx (rn_id Ka)⟩,trivial⟩ ⟨⟨_,rfl⟩,trivial⟩ trivial (rn_id Ju) rfl))) ?_;refine zd [[103],[]] ?_;refine de fol ?_;refine z [4,8,12,10] ?_;exact rt [(0,0),(1,1)]
 refine z [2,41,31,1] ?_;refine c ?_ ?_
 . refine z [5] ?_;refine b λy5 h6=>?_;refine b λr7 h8=>?_;refine sd ?_;refine zd [[100]] ?_
   refine dx [25] [100] (λst mm ⟨a25,_⟩ ⟨g100,_⟩=>og (ldB [0] (g100.trans rfl) (by exact rfl) Qht.h (by exact rfl) (by exact rfl) rfl (a25.trans rfl) (.inl rfl))) ?_
   refine dx [26] [] (λst mm ⟨a26,_⟩ _=>og (mkIf Tryz.underlying393 rfl (a26.trans rfl))) ?_;refine zd [[],[101],[101],[1],[1],[101],[101]] ?_;refine dx [27,32,34] [0] (λst mm ⟨a27,a32,a34,_⟩ ⟨g0,_⟩=>og (okm (g0.trans rfl) rfl (callI (em:=[(0,.bx 298 (Qs x0_Arith_g))]) (res':=.tup [Qb r7.1,bl r7.2]) [(0,0)] [] [(0,0)] (a27.trans rfl) Qxv (Qov _ h8) (Zq (V3 (W6 rfl) (Xh))) ⟨⟨_,(a32.trans rfl),rn_id Ju⟩,⟨_,(a34.trans rfl),rn_id Qcz⟩,trivial⟩ (MiF.get (mi:=[(0,_)]) ⟨⟨_,_,rfl,(g0.trans rfl),rc_bx (rn_id Ka)⟩,trivial⟩) ⟨⟨_,rfl⟩,trivial⟩ rfl trivial ⟨.inr rfl,trivial⟩ rfl ⟨.inl ⟨_,_,rfl,rfl,rc_bx (rn_id Ka)⟩,trivial⟩ ⟨⟨_,rfl⟩,trivial⟩ trivial (Qdt (V3 (rn_id Ju) (V3 (rn_id if_bl) (Xh)))) rfl))) ?_;refine zd [[],[],[103],[]] ?_;refine de fol ?_;refine z [4,8,12,10] ?_;exact rt [(0,0),(1,1)]
 refine z [2,41,31,1] ?_;refine c ?_ ?_
 . refine z [5] ?_;refine b λy9 h10=>?_;refine b λy11 h12=>?_;refine b λr13 h14=>?_;refine sd ?_;refine zd [[100]] ?_
   refine dx [40] [100] (λst mm ⟨a40,_⟩ ⟨g100,_⟩=>og (ldB [0] (g100.trans rfl) (by exact rfl) Qht.h (by exact rfl) (by exact rfl) rfl (a40.trans rfl) (.inl rfl))) ?_
   refine dx [41] [] (λst mm ⟨a41,_⟩ _=>og (mkIf Tryz.underlying393 rfl (a41.trans rfl))) ?_;refine zd [[],[101],[101],[1],[1],[],[101],[101],[1],[1]] ?_;refine dx [42,47,52] [0] (λst mm ⟨a42,a47,a52,_⟩ ⟨g0,_⟩=>og (okm (g0.trans rfl) rfl (callI (em:=[(0,.bx 298 (Qs x0_Arith_g))]) (res':=Qb r13) [(0,0)] [] [(0,0)] (a42.trans rfl) Qxw (Qow _ h14) (Zq (V3 (W6 rfl) (Xh))) ⟨⟨_,(a47.trans rfl),rn_id Ju⟩,⟨_,(a52.trans rfl),rn_id Ju⟩,trivial⟩ (MiF.get (mi:=[(0,_)]) ⟨⟨_,_,rfl,(g0.trans rfl),rc_bx (rn_id Ka)⟩,trivial⟩) ⟨⟨_,rfl⟩,trivial⟩ rfl trivial ⟨.inr rfl,trivial⟩ rfl ⟨.inl ⟨_,_,rfl,rfl,rc_bx (rn_id Ka)⟩,trivial⟩ ⟨⟨_,rfl⟩,trivial⟩ trivial (rn_id Ju) rfl))) ?_;refine zd [[103],[]] ?_;refine de fol ?_;refine z [4,8,12,10] ?_;exact rt [(0,0),(1,1)]
 refine z [2,41,31,1] ?_;refine c ?_ ?_
 . refine z [5] ?_;refine b λy15 h16=>?_;refine b λy17 h18=>?_;refine b λr19 h20=>?_;refine sd ?_;refine zd [[100]] ?_
   refine dx [56] [100] (λst mm ⟨a56,_⟩ ⟨g100,_⟩=>og (ldB [0] (g100.trans rfl) (by exact rfl) Qht.h (by exact rfl) (by exact rfl) rfl (a56.trans rfl) (.inl rfl))) ?_
   refine dx [57] [] (λst mm ⟨a57,_⟩ _=>og (mkIf Tryz.underlying393 rfl (a57.trans rfl))) ?_;refine zd [[],[101],[101],[1],[1],[],[101],[101],[1],[1]] ?_;refine dx [58,63,68] [0] (λst mm ⟨a58,a63,a68,_⟩ ⟨g0,_⟩=>og (okm (g0.trans rfl) rfl (callI (em:=[(0,.bx 298 (Qs x0_Arith_g))]) (res':=Qb r19) [(0,0)] [] [(0,0)] (a58.trans rfl) Qxx (Qox _ h20) (Zq (V3 (W6 rfl) (Xh))) ⟨⟨_,(a63.trans rfl),rn_id Ju⟩,⟨_,(a68.trans rfl),rn_id Ju⟩,trivial⟩ (MiF.get (mi:=[(0,_)]) ⟨⟨_,_,rfl,(g0.trans rfl),rc_bx (rn_id Ka)⟩,trivial⟩) ⟨⟨_,rfl⟩,trivial⟩ rfl trivial ⟨.inr rfl,trivial⟩ rfl ⟨.inl ⟨_,_,rfl,rfl,rc_bx (rn_id Ka)⟩,trivial⟩ ⟨⟨_,rfl⟩,trivial⟩ trivial (rn_id Ju) rfl))) ?_;refine zd [[103],[]] ?_;refine de fol ?_;refine z [4,8,12,10] ?_;exact rt [(0,0),(1,1)]
 refine z [2,41,31,1] ?_;refine c ?_ ?_
 . refine z [5] ?_;refine b λy21 h22=>?_;refine b λy23 h24=>?_;refine b λr25 h26=>?_;refine sd ?_;refine zd [[100]] ?_
   refine dx [72] [100] (λst mm ⟨a72,_⟩ ⟨g100,_⟩=>og (ldB [0] (g100.trans rfl) (by exact rfl) Qht.h (by exact rfl) (by exact rfl) rfl (a72.trans rfl) (.inl rfl))) ?_
   refine dx [73] [] (λst mm ⟨a73,_⟩ _=>og (mkIf Tryz.underlying393 rfl (a73.trans rfl))) ?_;refine zd [[],[101],[101],[1],[1],[],[101],[101],[1],[1]] ?_;refine dx [74,79,84] [0] (λst mm ⟨a74,a79,a84,_⟩ ⟨g0,_⟩=>og (okm (g0.trans rfl) rfl (callI (em:=[(0,.bx 298 (Qs x0_Arith_g))]) (res':=Qb r25) [(0,0)] [] [(0,0)] (a74.trans rfl) Qxy (Qoy _ h26) (Zq (V3 (W6 rfl) (Xh))) ⟨⟨_,(a79.trans rfl),rn_id Ju⟩,⟨_,(a84.trans rfl),rn_id Ju⟩,trivial⟩ (MiF.get (mi:=[(0,_)]) ⟨⟨_,_,rfl,(g0.trans rfl),rc_bx (rn_id Ka)⟩,trivial⟩) ⟨⟨_,rfl⟩,trivial⟩ rfl trivial ⟨.inr rfl,trivial⟩ rfl ⟨.inl ⟨_,_,rfl,rfl,rc_bx (rn_id Ka)⟩,trivial⟩ ⟨⟨_,rfl⟩,trivial⟩ trivial (rn_id Ju) rfl))) ?_;refine zd [[103],[]] ?_;refine de fol ?_;refine z [4,8,12,10] ?_;exact rt [(0,0),(1,1)]
 refine z [2,41,31,1] ?_;refine c ?_ ?_
 . refine z [5] ?_;refine b λy27 h28=>?_;refine b λy29 h30=>?_;refine b λr31 h32=>?_;refine sd ?_;refine zd [[100]] ?_
   refine dx [88] [100] (λst mm ⟨a88,_⟩ ⟨g100,_⟩=>og (ldB [0] (g100.trans rfl) (by exact rfl) Qht.h (by exact rfl) (by exact rfl) rfl (a88.trans rfl) (.inl rfl))) ?_
   refine dx [89] [] (λst mm ⟨a89,_⟩ _=>og (mkIf Tryz.underlying393 rfl (a89.trans rfl))) ?_;refine zd [[],[101],[101],[1],[1],[],[101],[101],[1],[1]] ?_;refine dx [90,95,100] [0] (λst mm ⟨a90,a95,a100,_⟩ ⟨g0,_⟩=>og (okm (g0.trans rfl) rfl (callI (em:=[(0,.bx 298 (Qs x0_Arith_g))]) (res':=.tup [Qb r31.1,bl r31.2]) [(0,0)] [] [(0,0)] (a90.trans rfl) Qxz (Qoz _ h32) (Zq (V3 (W6 rfl) (Xh))) ⟨⟨_,(a95.trans rfl),rn_id Ju⟩,⟨_,(a100.trans rfl),rn_id Ju⟩,trivial⟩ (MiF.get (mi:=[(0,_)]) ⟨⟨_,_,rfl,(g0.trans rfl),rc_bx (rn_id Ka)⟩,trivial⟩) ⟨⟨_,rfl⟩,trivial⟩ rfl trivial ⟨.inr rfl,trivial⟩ rfl ⟨.inl ⟨_,_,rfl,rfl,rc_bx (rn_id Ka)⟩,trivial⟩ ⟨⟨_,rfl⟩,trivial⟩ trivial (Qdt (V3 (rn_id Ju) (V3 (rn_id if_bl) (Xh)))) rfl))) ?_;refine zd [[],[],[103],[]] ?_;refine de fol ?_;refine z [4,8,12,10] ?_;exact rt [(0,0),(1,1)]
 refine z [9,11,4,2,32,32,32] ?_;refine b λr33 h34=>?_;refine o (cG (Qck _ h34) [0] [] [0]) ?_;refine z [34,31,1,8] ?_;exact rt [(0,0),(1,1)]
theorem Qns{n:Nat}{x0_g}{x1}:∀ r,Zu n x0_g x1=some r->FnOk Tryz.prog 370 [.agg [.own 0],Qb x1] [(0,.bx 298 (Qs x0_g))] (bl r.1) [(0,.bx 298 (Qs r.2))]:=by
 unfold Zu
 refine fs Tryz.func370 λw S0 γ hγ=>?_;refine z [2] ?_;refine o (bx' 100) ?_;refine o (bx' 101) ?_;refine z [31,1,2,33,36,32] ?_;refine b λr1 h2=>?_;refine o (cG (Qfp _ h2) [0] [] []) ?_;refine z [31,1,8] ?_;exact rt [(0,0)]
theorem Qcm{n:Nat}{x0_Arith_g}{x1}{x2}:∀ r,Kn n x0_Arith_g x1 x2=some r->FnOk Tryz.prog 322 [.agg [.agg [.own 0]],Kj x1,Wr x2] [(0,.bx 298 (Qs x0_Arith_g))] (.tup [sli 3 (List.map Qb r.1),Qo r.2.1]) [(0,.bx 298 (Qs r.2.2))]:=by
 unfold Kn
 refine fs Tryz.func322 λw S0 γ hγ=>?_;refine z [2] ?_;refine o (bx' 100) ?_;refine o (bx' 101) ?_;refine o (bx' 102) ?_;refine s1 (asg rfl (kLm (k:=3) Qb)) ?_;refine o (al' 103) ?_;refine z [1,5] ?_;refine sjq (λs5=>[(3,.own 100),(4,.own 101),(5,.own 102),(6,sli 3 (List.map Qb ([]:List Qa))),(7,.own 103),(31,bl s5)]) (λs5=>[(0,.bx 298 (Qs x0_Arith_g)),(100,.bx 395 (.agg [.agg [.own 0]])),(101,.bx 43 (Kj x1)),(102,.bx 397 (Wr x2)),(103,.bx 63 (Qo (⟨0,0,0,0⟩:Qc)))]) ?_ ?_
 . intro j3 hj4
   refine z [6,32] ?_;refine cb (ca Qjm) λr6=>?_;refine z [44,30] ?_;refine sifd 16 rfl ?_ ?_
   . refine z [23,23,23,23,23,23,38,30,23,23,23,23,23,23,38,1] ?_;exact sj (hj4 _) (eR [(0,0),(100,100),(101,101),(102,102),(103,103)])
   refine z [22,22,22,22,22,22,37,30] ?_;refine sifd 24 rfl ?_ ?_
   . refine z [23,23,23,23,23,23,38,1] ?_;exact sj (hj4 _) (eR [(0,0),(100,100),(101,101),(102,102),(103,103)])
   refine z [22,22,22,22,22,22,37,1] ?_;exact sj (hj4 _) (eR [(0,0),(100,100),(101,101),(102,102),(103,103)])
 intro s5
 refine c ?_ ?_
 . refine z [2] ?_;refine s1 (bld (l:=[i64 (2:Int),i64 0,i64 0,i64 0]) pl_63.h ti_63.h Qq ⟨_,_,_,(kI (x:=2) rfl),rfl,rfl,rfl,(szk (k:=1) rfl rfl),rfl⟩ rfl) ?_;refine s1 (asg rfl (kLm (k:=3) Qb)) ?_;refine z [34,1,8,10] ?_;exact rt [(0,0)]
 refine z [9,4,2] ?_;refine so (asgN (y:=104) (E:=53) (k:=3) rfl rfl) ?_;refine z [1,5,2,33,36,39,30,1,7] ?_;refine srN (λs29=>[(3,.own 100),(5,.own 102),(6,sli 3 (List.map Qb ([]:List Qa))),(7,.own 103),(8,.own 104),(34,sli 6 (List.map Ko x1.Code))]) (λs29=>[(0,.bx 298 (Qs s29.1)),(100,.bx 395 (.agg [.agg [.own 0]])),(102,.bx 397 (Wr x2)),(103,.bx 63 (Qo (⟨0,0,0,0⟩:Qc))),(104,.sl 53 3 (List.map Qb s29.2))]) (rE (eR [(0,0),(100,100),(102,102),(103,103),(104,104)])) ?_ ?_
 . intro i30 x31 s29 hx32
   refine z [7,2,30,43,42] ?_;refine o (al' 105) ?_;refine z [31,34,1,2,32,32,32,30] ?_;refine b λr33 h34=>?_;refine o (cG (Qcl _ h34) [0,104] [] [0,104]) ?_;refine z [30,35,35] ?_;refine o (al' 106) ?_;refine z [34,31,1,5,7,2,30,44,31,1] ?_;refine c ?_ ?_
   . refine z [2,30] ?_;refine s1 (bld (l:=[i64 (3:Int),i64 0,i64 0,i64 (i30:Int)]) pl_63.h ti_63.h Qq ⟨_,_,_,(kI (x:=3) rfl),rfl,rfl,rfl,(szk (k:=1) rfl rfl),⟨_,_,_,rfl,rfl,rfl,rfl,(szk (k:=1) rfl rfl),rfl⟩⟩ rfl) ?_;refine s1 (asg rfl (kLm (k:=3) Qb)) ?_;refine z [34,1,8,12,10,12] ?_;refine sU ?_;refine z [12,10] ?_;exact rt [(0,0)]
   refine z [2,33] ?_
   refine s1 (ldB [0] rfl (by exact rfl) Qht.h (by exact rfl) (by exact rfl) rfl rfl (.inl rfl)) ?_
   refine s1 (mkIf Tryz.underlying393 rfl rfl) ?_;refine z [32] ?_;refine b λr35 h36=>?_;refine so (callI (em:=[(0,.bx 298 (Qs r35.2))]) (res':=bl r35.1) [(0,0)] [] [(0,0)] rfl Qwj (Qns _ h36) (Zq (V3 (W6 rfl) (Xh))) ⟨⟨_,rfl,rn_id Ju⟩,trivial⟩ (MiF.get (mi:=[(0,_)]) ⟨⟨_,_,rfl,rfl,rc_bx (rn_id Ka)⟩,trivial⟩) ⟨⟨_,rfl⟩,trivial⟩ rfl trivial ⟨.inr rfl,trivial⟩ rfl ⟨.inl ⟨_,_,rfl,rfl,rc_bx (rn_id Ka)⟩,trivial⟩ ⟨⟨_,rfl⟩,trivial⟩ trivial (rn_id if_bl) rfl) ?_;refine z [44,31,1] ?_;refine c ?_ ?_
   . refine z [2,30] ?_;refine s1 (bld (l:=[i64 (6:Int),i64 0,i64 0,i64 (i30:Int)]) pl_63.h ti_63.h Qq ⟨_,_,_,(kI (x:=6) rfl),rfl,rfl,rfl,(szk (k:=1) rfl rfl),⟨_,_,_,rfl,rfl,rfl,rfl,(szk (k:=1) rfl rfl),rfl⟩⟩ rfl) ?_;refine s1 (asg rfl (kLm (k:=3) Qb)) ?_;refine z [34,1,8,12,10,12] ?_;refine sU ?_;refine z [12,10] ?_;exact rt [(0,0)]
   refine z [9,11,4,6,30,32] ?_
   refine so (bsl (y:=107) (ls:=List.map Qb ([r33.1]:List Qa)) Tryz.underlying44 ti_53.h rfl rfl rfl rfl rfl ⟨rfl,rfl,(by exact rfl),(by exact rfl),trivial⟩ rfl rfl) ?_
   refine b λy37 h38=>?_;refine o (app' 108) ?_;refine z [31,3,11] ?_;exact sgo (eR [(0,0),(100,100),(102,102),(103,103),(104,108)])
 intro s39
 refine z [13,4,2,30] ?_;refine s1 (bld (l:=[i64 0,i64 0,i64 0,i64 0]) pl_63.h ti_63.h Qq rfl rfl) ?_;refine z [31,34,1,8] ?_;refine fz 104 [6,8,68] [] ?_;exact rt [(0,0)]
theorem Qyb{n:Nat}{x0}{x1}{x2}:∀ r,Qil n x0 x1 x2=some r->FnOk Tryz.prog 298 [Kj x0,Qat x1,i64 x2] [] (.tup [sli 3 (List.map Qb r.1),Qo r.2]) []:=by
 unfold Qil
 refine fs Tryz.func298 λw S0 γ hγ=>?_;refine z [2] ?_;refine o (bx' 100) ?_;refine o (bx' 101) ?_;refine s1 (asg rfl (kLm (k:=3) Qb)) ?_;refine o (al' 102) ?_;refine z [1,2,32] ?_;refine cb (ca Qws) λr1=>?_;refine z [34,1,2,30] ?_;refine b λr3 h4=>?_;refine o (cG (Qpa _ h4) [] [(103,50)] []) ?_;refine s1 (bld (l:=[.own 103]) Q3f.h Qvc.h (Kb (Qh (c1:=[.pointer none]) Qqh (Js))) ⟨_,_,_,rfl,rfl,rfl,rfl,(szk (k:=1) rfl rfl),rfl⟩ rfl) ?_;refine s1 (bld (l:=[.agg [.own 103]]) Q3g.h Qvd.h (Kb (Qh (c1:=[.pointer none]) (Kb (Qh (c1:=[.pointer none]) Qqh (Js))) (Js))) ⟨_,_,_,rfl,rfl,rfl,rfl,(szk (k:=1) rfl rfl),rfl⟩ rfl) ?_;refine so (al (y:=104) (ly:=.agg [.agg [.por 0]]) Qvd.h (Kb (Qh (c1:=[.pointer none]) (Kb (Qh (c1:=[.pointer none]) Qqh (Js))) (Js))) rfl rfl) ?_;refine z [34,1,2,32,32,33,36,33,36,33,36] ?_;refine s1 (bld (l:=[Qb r1.T,sli 3 (List.map Qb r1.Y),sli 3 (List.map Qb r1.P)]) Q3h.h Qy8.h Qjd ⟨_,_,_,rfl,rfl,rfl,rfl,(szk (k:=3) rfl rfl),⟨_,_,_,rfl,rfl,rfl,rfl,(szk (k:=1) rfl rfl),⟨_,_,_,rfl,rfl,rfl,rfl,(szk (k:=1) rfl rfl),rfl⟩⟩⟩ rfl) ?_;refine b λr5 h6=>?_;refine o (cG (Qcm _ h6) [103] [] []) ?_;refine z [35,35,31,34,1,8] ?_;exact rt []
theorem Qyc{n:Nat}{x0}{x1}:∀ r,Qim n x0 x1=some r->FnOk Tryz.prog 299 [Kj x0,sli 3 (List.map Qb x1)] [] (sli 3 (List.map Qb r)) []:=by
 unfold Qim
 refine fs Tryz.func299 λw S0 γ hγ=>?_;refine z [2] ?_;refine o (bx' 100) ?_;refine s1 (asg rfl (kLm (k:=3) Qb)) ?_;refine z [1,5] ?_;refine sjq (λs5=>[(1,sli 3 (List.map Qb x1)),(2,.own 100),(4,sli 3 (List.map Qb ([]:List Qa))),(18,bl s5)]) (λs5=>[(100,.bx 43 (Kj x0))]) ?_ ?_
 . intro j3 hj4
   refine z [6,32] ?_;refine cb (ca Qjm) λr6=>?_;refine z [44,30] ?_;refine sifd 11 rfl ?_ ?_
   . refine z [23,23,23,23,23,23,38,1] ?_;exact sj (hj4 _) (eR [(100,100)])
   refine z [22,22,22,22,22,22,37,1] ?_;exact sj (hj4 _) (eR [(100,100)])
 intro s5
 refine c ?_ ?_
 . refine z [2] ?_;refine s1 (asg rfl (kLm (k:=3) Qb)) ?_;refine z [1,8,10] ?_;exact rt []
 refine z [9,4,2] ?_;refine so (asgN (y:=101) (E:=53) (k:=3) rfl rfl) ?_;refine z [1,5,2,33,36,39,30,1,7] ?_;refine srN (λs29=>[(1,sli 3 (List.map Qb x1)),(4,sli 3 (List.map Qb ([]:List Qa))),(5,.own 101),(20,sli 1 (List.map i64 x0.Outs))]) (λs29=>[(101,.sl 53 3 (List.map Qb s29))]) (rE (eR [(101,101)])) ?_ ?_
 . intro i30 x31 s29 hx32
   refine z [7,2,43,42,31,1,6,30,30,30] ?_;refine b λy33 h34=>?_;refine z [43,42] ?_;refine cb (ca J2) λr35=>?_
   refine so (bsl (y:=102) (ls:=List.map Qb ([r35]:List Qa)) Tryz.underlying44 ti_53.h rfl rfl rfl rfl rfl ⟨rfl,rfl,(by exact rfl),(by exact rfl),trivial⟩ rfl rfl) ?_
   refine b λy37 h38=>?_;refine o (app' 103) ?_;refine z [31,3,11] ?_;exact sgo (eR [(101,103)])
 intro s39
 refine z [13,4,2,30,31,1,8] ?_;refine fz 101 [4,5,35] [] ?_;exact rt []
theorem Qwt{n:Nat}{x0}{x1}{x2}:∀ r,Qe1 n x0 x1 x2=some r->FnOk Tryz.prog 260 [Kj x0,Qat x1,i64 x2] [] (.tup [sli 3 (List.map Qb r.1),Qo r.2]) []:=by
 unfold Qe1
 refine fs Tryz.func260 λw S0 γ hγ=>?_;refine z [2] ?_;refine o (bx' 100) ?_;refine o (bx' 101) ?_;refine s1 (asg rfl (kLm (k:=3) Qb)) ?_;refine o (al' 102) ?_;refine z [1,2,32,32,30] ?_;refine cb (ca Qyb) λr1=>?_;refine z [30,35,35] ?_;refine o (al' 103) ?_;refine z [31,34,1,5,2,32] ?_;refine s1 (bld (l:=[i64 0,i64 0,i64 0,i64 0]) pl_63.h ti_63.h Qq rfl rfl) ?_;refine s1 (neA (p:=(r1.2:Qc)) (q:=((⟨0,0,0,0⟩:Qc):Qc)) Kk rfl eg_63 rfl rfl rfl) ?_;refine z [1] ?_;refine c ?_ ?_
 . refine z [5] ?_;refine sd ?_;refine zd [[103]] ?_;refine dx [] [] (λst mm _ _=>og (asg rfl (kLm (k:=3) Qb))) ?_;refine zd [[102]] ?_;refine de fol ?_;refine z [4,8,10] ?_;exact rt []
 refine z [9,4,5] ?_;refine b λr3 h4=>?_;refine sd ?_;refine zd [[100],[]] ?_;refine dd [] (λ_ _ _ _=>c0 (Qyc _ h4)) ?_;refine zd [[103],[],[102]] ?_;refine de fol ?_;refine z [4,8] ?_;exact rt []
theorem Qll{n:Nat}{x0_p}{x0_t}{x0_h}{x0_y}{x0_g}{x0_out_Ys}{x0_out_Ks}{x0_out_Next}{x0_out_Err}{x1}:∀ r,Wh n x0_p x0_t x0_h x0_y x0_g x0_out_Ys x0_out_Ks x0_out_Next x0_out_Err x1=some r->FnOk Tryz.prog 218 [.own 0,i64 x1] [(0,.bx 247 (.agg [Q8 x0_p,Qb x0_t,Qb x0_h,sli 3 (List.map Qb x0_y),.own 1,.agg [.own 2,.own 3,sli 3 (List.map Qb x0_out_Next),sli 3 (List.map Qb x0_out_Err)]])),(1,.bx 298 (Qs x0_g)),(2,.sl 44 1 (List.map Qg x0_out_Ys)),(3,.sl 44 1 (List.map Qg x0_out_Ks))] (Qo r.1) [(0,.bx 247 (.agg [Q8 r.2.1,Qb r.2.2.1,Qb r.2.2.2.1,sli 3 (List.map Qb r.2.2.2.2.1),.own 1,.agg [.own 62,.own 63,sli 3 (List.map Qb r.2.2.2.2.2.1),sli 3 (List.map Qb r.2.2.2.2.2.2.1)]])),(1,.bx 298 (Qs r.2.2.2.2.2.2.2.1)),(2,.gone),(3,.gone),(62,.sl 44 1 (List.map Qg r.2.2.2.2.2.2.2.2.1)),(63,.sl 44 1 (List.map Qg r.2.2.2.2.2.2.2.2.2))]:=by
 unfold Wh
 refine fs Tryz.func218 λw S0 γ hγ=>?_;refine z [2] ?_;refine o (al' 100) ?_;refine z [1,2,30,30,48,33,45,45,36,30] ?_;refine b λy1 h2=>?_;refine z [43,42] ?_;refine b λr3 h4=>?_;refine o (cG (Qgk _ h4) [0,1,2,3] [] [0,1,2,3]) ?_;refine z [31,1,5,2,30,30,30] ?_;refine b λr5 h6=>?_;refine o (cG (Qcw _ h6) [0,1,2,3] [] [0,2,3]) ?_;refine o (al' 101) ?_;refine z [34,1,2,32] ?_;refine s1 (bld (l:=[i64 0,i64 0,i64 0,i64 0]) pl_63.h ti_63.h Qq rfl rfl) ?_;refine s1 (neA (p:=(r5.1:Qc)) (q:=((⟨0,0,0,0⟩:Qc):Qc)) Kk rfl eg_63 rfl rfl rfl) ?_;refine z [1] ?_;refine c ?_ ?_
 . refine z [2,32,34,1,8,10] ?_;exact rt [(0,0),(1,1),(2,2),(3,3),(62,2),(63,3)]
 refine z [9,4,5] ?_;refine b λr7 h8=>?_;refine b λr9 h10=>?_;refine b λr11 h12=>?_;refine sd ?_;refine zd [[],[0],[0],[],[0],[],[0],[0],[0],[],[0],[0],[0],[],[0],[0],[0],[],[0],[0],[0],[]] ?_;refine dd [] (λ_ _ _ _=>c0 (Qt3 _ h8)) ?_;refine zd [[]] ?_;refine dd [] (λ_ _ _ _=>c0 (Qzl _ h10)) ?_;refine zd [[],[0],[0],[],[0]] ?_;refine dd [] (λ_ _ _ _=>c0 (Qwt _ h12)) ?_;refine zd [[],[],[]] ?_;refine dd [102] (λ_ _ _ _=>al' 102) ?_;refine zd [[],[102]] ?_;refine de fol ?_;refine z [4,5,2,32] ?_;refine s1 (bld (l:=[i64 0,i64 0,i64 0,i64 0]) pl_63.h ti_63.h Qq rfl rfl) ?_;refine s1 (neA (p:=(r11.2:Qc)) (q:=((⟨0,0,0,0⟩:Qc):Qc)) Kk rfl eg_63 rfl rfl rfl) ?_;refine z [1] ?_;refine c ?_ ?_
 . refine z [2,30,33] ?_;refine o (stP (Qo (⟨r11.2.Kind,r11.2.Step,x1,r11.2.At⟩:Qc)) [2]) ?_;refine z [1,2,32,34,1,8,10] ?_;exact rt [(0,0),(1,1),(2,2),(3,3),(62,2),(63,3)]
 refine z [9,4,2,30,30,48,33,45,36,30] ?_
 refine so (bsl (y:=103) (ls:=List.map Qg ([r3]:List (List Qa))) Tryz.underlying45 ti_44.h rfl rfl rfl rfl rfl ⟨rfl,rfl,(by exact rfl),(by exact rfl),trivial⟩ rfl rfl) ?_
 refine b λy13 h14=>?_;refine o (app' 104) ?_;refine z [48,33,45] ?_;refine o (stP (.agg [Q8 x0_p,Qb x0_t,Qb x0_h,sli 3 (List.map Qb x0_y),.own 1,.agg [.own 104,.own 3,sli 3 (List.map Qb x0_out_Next),sli 3 (List.map Qb x0_out_Err)]]) [5,0]) ?_;refine z [1,2,30,30,48,33,45,36,30] ?_
 refine so (bsl (y:=105) (ls:=List.map Qg ([r11.1]:List (List Qa))) Tryz.underlying45 ti_44.h rfl rfl rfl rfl rfl ⟨rfl,rfl,(by exact rfl),(by exact rfl),trivial⟩ rfl rfl) ?_
 refine b λy15 h16=>?_;refine o (app' 106) ?_;refine z [48,33,45] ?_;refine o (stP (.agg [Q8 x0_p,Qb x0_t,Qb x0_h,sli 3 (List.map Qb x0_y),.own 1,.agg [.own 104,.own 106,sli 3 (List.map Qb x0_out_Next),sli 3 (List.map Qb x0_out_Err)]]) [5,1]) ?_;refine z [1,2,32,34,1,8] ?_;exact rt [(0,0),(1,1),(2,2),(3,3),(62,104),(63,106)]
theorem Qzm{n:Nat}{x0}{x1}:∀ r,Qka n x0 x1=some r->FnOk Tryz.prog 265 [sli 3 (List.map Qb x0),sli 3 (List.map Qb x1)] [] (.tup [sli 3 (List.map Qb r.1),bl r.2]) []:=by
 unfold Qka
 refine fs Tryz.func265 λw S0 γ hγ=>?_;refine z [2] ?_;refine s1 (asg rfl (kLm (k:=3) Qb)) ?_;refine z [31,1,2,30] ?_;refine cb (ca Kl) λr1=>?_;refine z [30] ?_;refine b λr3 h4=>?_;refine o (cG (Qaj _ h4) [] [(100,50)] []) ?_;refine fz 100 [9] [] ?_
 refine so (bsl (y:=101) (ls:=List.map Qg ([x0,r3]:List (List Qa))) Tryz.underlying45 ti_44.h rfl rfl rfl rfl rfl ⟨rfl,rfl,(by exact rfl),(by exact rfl),rfl,rfl,(by exact rfl),(by exact rfl),trivial⟩ rfl rfl) ?_
 refine fz 101 [10] [] ?_;refine cb (ca Qtf) λr5=>?_;refine z [35,35,31,31,1,8] ?_;exact rt []
theorem Qvr{n:Nat}{x0}:∀ r,Qcb n x0=some r->FnOk Tryz.prog 221 [Jl x0] [] (sli 3 (List.map Qb r)) []:=by
 unfold Qcb
 refine fs Tryz.func221 λw S0 γ hγ=>?_;refine z [2] ?_;refine o (bx' 100) ?_;refine s1 (asg rfl (kLm (k:=3) Qb)) ?_;refine z [1,5] ?_;refine sjq (λs5=>[(1,.own 100),(2,sli 3 (List.map Qb ([]:List Qa))),(13,bl s5)]) (λs5=>[(100,.bx 47 (Jl x0))]) ?_ ?_
 . intro j3 hj4
   refine z [6,32] ?_;refine cb (ca Qlh) λr6=>?_;refine z [44,30] ?_;refine sifd 8 rfl ?_ ?_
   . refine z [23,23,23,23,38,1] ?_;exact sj (hj4 _) (eR [(100,100)])
   refine z [22,22,22,22,37,1] ?_;exact sj (hj4 _) (eR [(100,100)])
 intro s5
 refine c ?_ ?_
 . refine z [2] ?_;refine s1 (asg rfl (kLm (k:=3) Qb)) ?_;refine z [1,8,10] ?_;exact rt []
 refine z [9,4,2,33,36,33,36] ?_;refine cb (ca Qzm) λr8=>?_;refine z [30,35,35,31,31,1,2,30,31,1,8] ?_;exact rt []
theorem Qnc{n:Nat}{x0_p}{x0_t}{x0_h}{x0_y}{x0_g}{x0_out_Ys}{x0_out_Ks}{x0_out_Next}{x0_out_Err}:∀ r,Zf n x0_p x0_t x0_h x0_y x0_g x0_out_Ys x0_out_Ks x0_out_Next x0_out_Err=some r->FnOk Tryz.prog 171 [.own 0] [(0,.bx 247 (.agg [Q8 x0_p,Qb x0_t,Qb x0_h,sli 3 (List.map Qb x0_y),.own 1,.agg [.own 2,.own 3,sli 3 (List.map Qb x0_out_Next),sli 3 (List.map Qb x0_out_Err)]])),(1,.bx 298 (Qs x0_g)),(2,.sl 44 1 (List.map Qg x0_out_Ys)),(3,.sl 44 1 (List.map Qg x0_out_Ks))] (Qo r.1) [(0,.bx 247 (.agg [Q8 r.2.1,Qb r.2.2.1,Qb r.2.2.2.1,sli 3 (List.map Qb r.2.2.2.2.1),.own 1,.agg [.own 62,.own 63,sli 3 (List.map Qb r.2.2.2.2.2.1),sli 3 (List.map Qb r.2.2.2.2.2.2.1)]])),(1,.bx 298 (Qs r.2.2.2.2.2.2.2.1)),(2,.gone),(3,.gone),(62,.sl 44 1 (List.map Qg r.2.2.2.2.2.2.2.2.1)),(63,.sl 44 1 (List.map Qg r.2.2.2.2.2.2.2.2.2))]:=by
 unfold Zf
 refine fs Tryz.func171 λw S0 γ hγ=>?_;refine z [2] ?_;refine o (al' 100) ?_;refine z [1,2,30,48,33,45,36] ?_;refine o (al' 101) ?_;refine z [34,1,5,2,33,36,39,30,1,7] ?_;refine srN (λs14=>[(0,.own 0),(2,.own 100),(3,.own 101)]) (λs14=>[(2,.gone),(3,.gone),(0,.bx 247 (.agg [Q8 s14.1,Qb s14.2.1,Qb s14.2.2.1,sli 3 (List.map Qb s14.2.2.2.1),.own 1,.agg [.own 102,.own 103,sli 3 (List.map Qb s14.2.2.2.2.2.2.2.1),sli 3 (List.map Qb s14.2.2.2.2.2.2.2.2)]])),(1,.bx 298 (Qs s14.2.2.2.2.1)),(102,.sl 44 1 (List.map Qg s14.2.2.2.2.2.1)),(103,.sl 44 1 (List.map Qg s14.2.2.2.2.2.2.1)),(100,.bx 63 (Qo (⟨0,0,0,0⟩:Qc))),(101,.bx 47 (Jl x0_p.Scheme))]) (rE (eR [(2,2),(3,3),(0,0),(1,1),(102,2),(103,3),(100,100),(101,101)])) ?_ ?_
 . intro i15 x16 s14 hx17
   refine z [7,2,30,31,1,2,30,30] ?_;refine b λr18 h19=>?_;refine o (cG (Qll _ h19) [0,1,102,103] [(104,62),(105,63)] []) ?_;refine o (al' 106) ?_;refine z [34,1,2,32] ?_;refine s1 (bld (l:=[i64 0,i64 0,i64 0,i64 0]) pl_63.h ti_63.h Qq rfl rfl) ?_;refine s1 (neA (p:=(r18.1:Qc)) (q:=((⟨0,0,0,0⟩:Qc):Qc)) Kk rfl eg_63 rfl rfl rfl) ?_;refine z [1] ?_;refine c ?_ ?_
   . refine z [2,32,34,1,8,12] ?_;refine sU ?_;refine z [12,10] ?_;exact rt [(0,0),(1,1),(2,2),(3,3),(62,104),(63,105)]
   refine z [9,11] ?_;exact sgo (eR [(2,2),(3,3),(0,0),(1,1),(102,104),(103,105),(100,100),(101,101)])
 intro s20
 refine z [13,4,2,30,30,33,36] ?_;refine b λr21 h22=>?_;refine o (cG (Qgk _ h22) [0,1,102,103] [] [0,1,102,103]) ?_;refine z [48,33,45] ?_;refine o (stP (.agg [Q8 s20.1,Qb s20.2.1,Qb s20.2.2.1,sli 3 (List.map Qb s20.2.2.2.1),.own 1,.agg [.own 102,.own 103,sli 3 (List.map Qb r21),sli 3 (List.map Qb s20.2.2.2.2.2.2.2.2)]]) [5,2]) ?_;refine z [1,5,5] ?_;refine b λr23 h24=>?_;refine sd ?_;refine zd [[],[],[0],[0],[],[0],[101],[101],[]] ?_;refine dd [0,1,102,103] (λ_ _ _ _=>cG (Qcw _ h24) [0,1,102,103] [] [0,102,103]) ?_;refine dd [104] (λ_ _ _ _=>al' 104) ?_;refine zd [[104]] ?_;refine de fol ?_;refine z [4,2,32] ?_;refine s1 (bld (l:=[i64 0,i64 0,i64 0,i64 0]) pl_63.h ti_63.h Qq rfl rfl) ?_;refine s1 (neA (p:=(r23.1:Qc)) (q:=((⟨0,0,0,0⟩:Qc):Qc)) Kk rfl eg_63 rfl rfl rfl) ?_;refine z [1] ?_;refine c ?_ ?_
 . refine z [2,32,34,1,8,10] ?_;exact rt [(0,0),(1,1),(2,2),(3,3),(62,102),(63,103)]
 refine z [9,4] ?_;refine sjq (λs31=>[(0,.own 0),(2,.own 100),(3,.own 101)]) (λs31=>[(2,.gone),(3,.gone),(0,.bx 247 (.agg [Q8 s20.1,Qb s20.2.1,Qb s20.2.2.1,sli 3 (List.map Qb s20.2.2.2.1),.own 1,.agg [.own 102,.own 103,sli 3 (List.map Qb r21),sli 3 (List.map Qb s31)]])),(1,.bx 298 (Qs r23.2)),(102,.sl 44 1 (List.map Qg s20.2.2.2.2.2.1)),(103,.sl 44 1 (List.map Qg s20.2.2.2.2.2.2.1)),(100,.bx 63 (Qo (⟨0,0,0,0⟩:Qc))),(101,.bx 47 (Jl x0_p.Scheme))]) ?_ ?_
 . intro j29 hj30
   refine z [2,32] ?_;refine cb (ca Qvr) λr32=>?_;refine z [31,1,2,30,39,47,1] ?_;refine c ?_ ?_
   . refine z [6,30,30,30] ?_;refine b λr34 h35=>?_;refine o (cG (Qe7 _ h35) [0,1,102,103] [] [0,1,102,103]) ?_;refine z [48,33,45] ?_;refine o (stP (.agg [Q8 s20.1,Qb s20.2.1,Qb s20.2.2.1,sli 3 (List.map Qb s20.2.2.2.1),.own 1,.agg [.own 102,.own 103,sli 3 (List.map Qb r21),sli 3 (List.map Qb r34)]]) [5,3]) ?_;refine z [1] ?_;exact sj (hj30 _) (eR [(2,2),(3,3),(0,0),(1,1),(102,102),(103,103),(100,100),(101,101)])
   refine z [9,4] ?_;exact sj (hj30 _) (eR [(2,2),(3,3),(0,0),(1,1),(102,102),(103,103),(100,100),(101,101)])
 intro s31
 refine z [5] ?_;refine b λr36 h37=>?_;refine sd ?_;refine zd [[],[],[0],[0],[],[0],[101],[101],[],[]] ?_;refine dd [0,1,102,103] (λ_ _ _ _=>cG (Qcw _ h37) [0,1,102,103] [] [0,102,103]) ?_;refine zd [[100]] ?_;refine de fol ?_;refine z [4,8] ?_;exact rt [(0,0),(1,1),(2,2),(3,3),(62,102),(63,103)]
theorem Qkc{n:Nat}{x0}{x1}{x2}{x3}:∀ r,Qbh n x0 x1 x2 x3=some r->FnOk Tryz.prog 105 [Q8 x0,Qb x1,Qb x2,sli 3 (List.map Qb x3)] [] (.tup [Qhi r.1,Qo r.2]) []:=by
 unfold Qbh
 refine fs Tryz.func105 λw S0 γ hγ=>?_;refine z [2] ?_;refine o (bx' 100) ?_;refine o (bx' 101) ?_;refine o (bx' 102) ?_;refine o (al' 103) ?_;refine o (al' 104) ?_;refine z [1,5] ?_;refine sjq (λs5=>[(3,sli 3 (List.map Qb x3)),(4,.own 100),(5,.own 101),(6,.own 102),(8,.own 103),(9,.own 104),(22,bl s5)]) (λs5=>[(100,.bx 49 (Q8 x0)),(101,.bx 53 (Qb x1)),(102,.bx 53 (Qb x2)),(103,.bx 183 (Qhi (⟨[],[],[],[]⟩:Yl))),(104,.bx 63 (Qo (⟨0,0,0,0⟩:Qc)))]) ?_ ?_
 . intro j3 hj4
   refine z [6,32] ?_;refine cb (ca Qjn) λr6=>?_;refine z [44,30] ?_;refine sifd 15 rfl ?_ ?_
   . refine z [23,23,23,23,23,23,38,1] ?_;exact sj (hj4 _) (eR [(100,100),(101,101),(102,102),(103,103),(104,104)])
   refine z [22,22,22,22,22,22,37,1] ?_;exact sj (hj4 _) (eR [(100,100),(101,101),(102,102),(103,103),(104,104)])
 intro s5
 refine c ?_ ?_
 . refine z [2] ?_;refine s1 (bld (l:=[sli 1 (List.map Qg []),sli 1 (List.map Qg []),sli 3 (List.map Qb []),sli 3 (List.map Qb [])]) Qy6.h Qnl.h Qjc rfl rfl) ?_;refine s1 (bld (l:=[i64 (2:Int),i64 0,i64 0,i64 0]) pl_63.h ti_63.h Qq ⟨_,_,_,(kI (x:=2) rfl),rfl,rfl,rfl,(szk (k:=1) rfl rfl),rfl⟩ rfl) ?_;refine z [34,34,1,8,10] ?_;exact rt []
 refine z [9,4,5] ?_;refine b λr8 h9=>?_;refine sd ?_;refine zd [[100],[101],[102],[],[100],[100]] ?_;refine dd [105] (λ_ _ _ _=>cG (Qpa _ h9) [] [(105,50)] []) ?_;refine dx [25,26,27,28,31] [106,107] (λst mm ⟨a25,a26,a27,a28,a31,_⟩ ⟨g106,g107,_⟩=>og (bldO (l:=[Q8 x0,Qb x1,Qb x2,sli 3 (List.map Qb x3),.own 105,.agg [.own 106,.own 107,sli 3 (List.map Qb []),sli 3 (List.map Qb [])]]) [(106,44,1),(107,44,1)] Q3d.h Q3c.h (Qho (Kh (c1:=[.slice none 0 0,.slice none 0 0,.int .i64 0,.int .i64 0,.string ⟨#[]⟩,.slice none 0 0,.slice none 0 0,.slice none 0 0,.slice none 0 0,.slice none 0 0,.int .i64 0]) (zo_of Qbj) (Kh (c1:=[.bool false,.slice none 0 0,.slice none 0 0]) (zo_of Jm) (Kh (c1:=[.bool false,.slice none 0 0,.slice none 0 0]) (zo_of Jm) (Kh (c1:=[.slice none 0 0]) (zo_of (Jz (k:=3))) (Kh (c1:=[.pointer none]) (zo_of Qqh) (Kh (c1:=[.slice none 0 0,.slice none 0 0,.slice none 0 0,.slice none 0 0]) (Qho (Kh (c1:=[.slice none 0 0]) (Qf1 rfl) (Kh (c1:=[.slice none 0 0]) (Qf1 rfl) (Kh (c1:=[.slice none 0 0]) (zo_of (Jz (k:=3))) (Kh (c1:=[.slice none 0 0]) (zo_of (Jz (k:=3))) (Qfk)))))) (Qfk)))))))) ⟨(g106.trans rfl),(g107.trans rfl),trivial⟩ rfl ⟨_,_,_,(a25.trans rfl),rfl,rfl,rfl,(szk (k:=11) rfl rfl),⟨_,_,_,(a26.trans rfl),rfl,rfl,rfl,(szk (k:=3) rfl rfl),⟨_,_,_,(a27.trans rfl),rfl,rfl,rfl,(szk (k:=3) rfl rfl),⟨_,_,_,(a28.trans rfl),rfl,rfl,rfl,(szk (k:=1) rfl rfl),⟨_,_,_,(a31.trans rfl),rfl,rfl,rfl,(szk (k:=1) rfl rfl),rfl⟩⟩⟩⟩⟩ rfl)) ?_;refine dd [108] (λ_ _ _ _=>bx' 108) ?_;refine zd [[]] ?_;refine de fol ?_;refine z [4,5,2,30] ?_;refine b λr10 h11=>?_;refine o (cG (Qnc _ h11) [108,105,106,107] [(109,62),(110,63)] []) ?_;refine o (al' 111) ?_;refine z [34,1,2,32] ?_;refine s1 (bld (l:=[i64 0,i64 0,i64 0,i64 0]) pl_63.h ti_63.h Qq rfl rfl) ?_;refine s1 (neA (p:=(r10.1:Qc)) (q:=((⟨0,0,0,0⟩:Qc):Qc)) Kk rfl eg_63 rfl rfl rfl) ?_;refine z [1] ?_;refine c ?_ ?_
 . refine z [5] ?_;refine sd ?_;refine dx [] [] (λst mm _ _=>og (bld (l:=[sli 1 (List.map Qg []),sli 1 (List.map Qg []),sli 3 (List.map Qb []),sli 3 (List.map Qb [])]) Qy6.h Qnl.h Qjc rfl rfl)) ?_;refine zd [[111],[103],[104]] ?_;refine de fol ?_;refine z [4,8,10] ?_;exact rt []
 refine z [9,4,2,30,48,33,36] ?_;refine s1 (bld (l:=[i64 0,i64 0,i64 0,i64 0]) pl_63.h ti_63.h Qq rfl rfl) ?_;refine z [34,34,1,8] ?_;refine fz 109 [44] [103,108] ?_;refine fz 110 [44] [103,108] ?_;exact rt []
theorem Qyd{n:Nat}{x0}:∀ r,Qgd n x0=some r->FnOk Tryz.prog 173 [Qb x0] [] (Qb r) []:=by
 unfold Qgd
 refine fs Tryz.func173 λw S0 γ hγ=>?_;refine z [2] ?_;refine o (bx' 100) ?_;refine o (al' 101) ?_;refine z [1,2,32] ?_;refine cb (ca J2) λr1=>?_;refine o (al' 102) ?_;refine z [34,1,2,33,45] ?_;refine o (stP (Qb (⟨(⟨false,r1.Num.Abs⟩:Qd),r1.Den⟩:Qa)) [0,0]) ?_;refine z [1,2,32,34,1,8] ?_;exact rt []
end Go.Proofs.YtlihkcaoachkdaaGreatDoor
