import Derived.Test.YtlihkcaoachkdaaGreatDoorGen0
import Derived.Test.YtlihkcaoachkdaaGreatDoorGenA1
set_option maxRecDepth 100000
set_option maxHeartbeats 4000000
namespace Go.Proofs.YtlihkcaoachkdaaGreatDoor
open Go Go.RowKit
theorem Qkq{x0}{x1}:∀ r,Qe2 x0 x1=some r->FnOk Tryz.prog 291 [Qp x0,i64 x1] [] (Qp r) []:=by
 unfold Qe2
 refine fs Tryz.func291 λw S0 γ hγ=>?_;refine z [2] ?_;refine o (bx' 100) ?_;refine o (al' 101) ?_;refine z [1] ?_;refine sjq (λs3=>[(2,.own 100),(4,.own 101)]) (λs3=>[(100,.bx 63 (Qp s3)),(101,.bx 63 (Qp (⟨0,0,0,0⟩:Qe)))]) ?_ ?_
 . intro j1 hj2
   refine z [2,32] ?_;refine s1 (bld (l:=[i64 0,i64 0,i64 0,i64 0]) pl_63.h ti_63.h Qt rfl rfl) ?_;refine s1 (neA (p:=(x0:Qe)) (q:=((⟨0,0,0,0⟩:Qe):Qe)) K4 rfl eg_63 rfl rfl rfl) ?_;refine z [1] ?_;refine c ?_ ?_
   . refine z [6,33,36,30,40,33] ?_;refine o (stP (Qp (⟨x0.Kind,x0.Step,x0.Stage,wrap64 (x0.At+x1)⟩:Qe)) [3]) ?_;refine z [1] ?_;exact sj (hj2 _) (eR [(100,100),(101,101)])
   refine z [9,4] ?_;exact sj (hj2 _) (eR [(100,100),(101,101)])
 intro s3
 refine z [2,32,34,1,8] ?_;exact rt []
theorem Qvt{n:Nat}{x0}:∀ r,Qme n x0=some r->FnOk Tryz.prog 290 [str x0] [] (.tup [sli 3 (List.map Qd r.1),Qp r.2]) []:=by
 unfold Qme
 refine fs Tryz.func290 λw S0 γ hγ=>?_;refine z [2] ?_;refine s1 (asg rfl (kLm (k:=3) Qd)) ?_;refine o (al' 100) ?_;refine z [1,5,2,30,72,1] ?_;refine c ?_ ?_
 . refine z [2] ?_;refine s1 (bld (l:=[i64 0,i64 0,i64 0,i64 0]) pl_63.h ti_63.h Qt rfl rfl) ?_;refine s1 (asg rfl (kLm (k:=3) Qd)) ?_;refine z [34,1,8,10] ?_;exact rt []
 refine z [9,4,2] ?_;refine so (asgN (y:=101) (E:=53) (k:=3) rfl rfl) ?_;refine z [1,2,31,1,5,2,30] ?_;refine cb (ca Qvm) λr1=>?_;refine z [39,30,1,7] ?_;refine srN (λs20=>[(2,sli 3 (List.map Qd ([]:List Qb))),(3,.own 100),(4,.own 101),(5,i64 s20.2),(14,sli 1 (List.map str r1))]) (λs20=>[(100,.bx 63 (Qp (⟨0,0,0,0⟩:Qe))),(101,.sl 53 3 (List.map Qd s20.1))]) (rE (eR [(100,100),(101,101)])) ?_ ?_
 . intro i21 x22 s20 hx23
   refine z [7,2,43,42,31,1,2,30] ?_;refine cb (ca Qrw) λr24=>?_;refine z [30,35,35] ?_;refine o (al' 102) ?_;refine o (al' 103) ?_;refine z [34,34,1,5,2,32] ?_;refine s1 (bld (l:=[i64 0,i64 0,i64 0,i64 0]) pl_63.h ti_63.h Qt rfl rfl) ?_;refine s1 (neA (p:=(r24.2:Qe)) (q:=((⟨0,0,0,0⟩:Qe):Qe)) K4 rfl eg_63 rfl rfl rfl) ?_;refine z [1] ?_;refine c ?_ ?_
   . refine z [2,33,36,30,40,33] ?_;refine o (stP (Qp (⟨r24.2.Kind,r24.2.Step,r24.2.Stage,wrap64 (r24.2.At+s20.2)⟩:Qe)) [3]) ?_;refine z [1,5] ?_;refine sd ?_;refine zd [[103]] ?_;refine dx [] [] (λst mm _ _=>og (asg rfl (kLm (k:=3) Qd))) ?_;refine zd [[100]] ?_;refine de fol ?_;refine z [4,8,10,12] ?_;refine sU ?_;refine z [12,10] ?_;exact rt []
   refine z [9,4,2,30,32] ?_
   refine so (bsl (y:=104) (ls:=List.map Qd ([r24.1]:List Qb)) Tryz.underlying44 ti_53.h rfl rfl rfl rfl rfl ⟨rfl,rfl,(by exact rfl),(by exact rfl),trivial⟩ rfl rfl) ?_
   refine b λy26 h27=>?_;refine o (app' 105) ?_;refine z [31,1,6,30,30,54,40,40,31,3,11] ?_;exact sgo (eR [(100,100),(101,105)])
 intro s28
 refine z [13,4,2,30] ?_;refine s1 (bld (l:=[i64 0,i64 0,i64 0,i64 0]) pl_63.h ti_63.h Qt rfl rfl) ?_;refine z [31,34,1,8] ?_;refine fz 101 [2,4,44] [] ?_;exact rt []
theorem Qxd{n:Nat}{x0}{x1}:∀ r,Qkm n x0 x1=some r->FnOk Tryz.prog 288 [str x0,i64 x1] [] (.tup [Qd r.1,sli 3 (List.map Qd r.2.1),Qp r.2.2]) []:=by
 unfold Qkm
 refine fs Tryz.func288 λw S0 γ hγ=>?_;refine z [2] ?_;refine o (al' 100) ?_;refine s1 (asg rfl (kLm (k:=3) Qd)) ?_;refine o (al' 101) ?_;refine z [1,2,30] ?_;refine cb (ca Qls) λr1=>?_;refine z [30,35,35,35,31,31,31,1,2,30] ?_;refine cb (ca Qrw) λr3=>?_;refine z [30,35,35] ?_;refine o (al' 102) ?_;refine o (al' 103) ?_;refine z [34,34,1,5,2,32] ?_;refine s1 (bld (l:=[i64 0,i64 0,i64 0,i64 0]) pl_63.h ti_63.h Qt rfl rfl) ?_;refine s1 (neA (p:=(r3.2:Qe)) (q:=((⟨0,0,0,0⟩:Qe):Qe)) K4 rfl eg_63 rfl rfl rfl) ?_;refine z [1] ?_;refine c ?_ ?_
 . refine z [5] ?_;refine b λr5 h6=>?_;refine sd ?_;refine zd [[102],[103],[]] ?_;refine dd [] (λ_ _ _ _=>c0 (Qkq _ h6)) ?_;refine zd [[100]] ?_;refine dx [] [] (λst mm _ _=>og (asg rfl (kLm (k:=3) Qd))) ?_;refine zd [[101]] ?_;refine de fol ?_;refine z [4,8,10] ?_;exact rt []
 refine z [9,4,2,30] ?_;refine cb (ca Qvt) λr7=>?_;refine z [30,35,35,31,34,1,5] ?_;refine b λr9 h10=>?_;refine sd ?_;refine zd [[102],[],[103],[],[],[],[],[]] ?_;refine dd [] (λ_ _ _ _=>c0 (Qkq _ h10)) ?_;refine zd [[100],[],[101]] ?_;refine de fol ?_;refine z [4,8] ?_;exact rt []
theorem Qmk{n:Nat}{x0}{x1}{x2_Name}{x2_C}{x2_A}{x2_B}{x2_E}:∀ r,Qcr n x0 x1 x2_Name x2_C x2_A x2_B x2_E=some r->FnOk Tryz.prog 254 [.own 0,str x1,.own 1] [(0,.bx 323 (J8 x0)),(1,.bx 47 (.agg [str x2_Name,.own 2,.own 3,sli 3 (List.map Qd x2_B),sli 3 (List.map Qd x2_E)])),(2,.sl 53 3 (List.map Qd x2_C)),(3,.sl 44 1 (List.map Qj x2_A))] (Qp r.1) [(0,.bx 323 (J8 r.2.1)),(1,.bx 47 (.agg [str r.2.2.1,.own 62,.own 63,sli 3 (List.map Qd r.2.2.2.1),sli 3 (List.map Qd r.2.2.2.2.1)])),(2,.gone),(3,.gone),(62,.sl 53 3 (List.map Qd r.2.2.2.2.2.1)),(63,.sl 44 1 (List.map Qj r.2.2.2.2.2.2))]:=by
 unfold Qcr
 refine fs Tryz.func254 λw S0 γ hγ=>?_;refine z [2] ?_;refine o (al' 100) ?_;refine z [1,7] ?_;refine Q88 (λs29=>[(0,.own 0),(1,str x1),(2,.own 1),(6,.own 100)]) (λs29=>[(2,.gone),(3,.gone),(0,.bx 323 (J8 s29.1)),(1,.bx 47 (.agg [str x2_Name,.own 101,.own 102,sli 3 (List.map Qd x2_B),sli 3 (List.map Qd x2_E)])),(101,.sl 53 3 (List.map Qd s29.2.1)),(102,.sl 44 1 (List.map Qj s29.2.2)),(100,.bx 63 (Qp (⟨0,0,0,0⟩:Qe)))]) (eR [(2,2),(3,3),(0,0),(1,1),(101,2),(102,3),(100,100)]) ?_
 intro s29
 refine z [7,2,30] ?_;refine b λr30 h31=>?_;refine o (cG (Qdj _ h31) [0] [] []) ?_;refine z [30,35,35,35,31,31,31,1,5,2,30,44,1] ?_;refine c ?_ ?_
 . refine z [2] ?_;refine s1 (bld (l:=[i64 0,i64 0,i64 0,i64 0]) pl_63.h ti_63.h Qt rfl rfl) ?_;refine z [34,1,8,10,12] ?_;refine sU ?_;refine z [12] ?_;exact rt [(0,0),(1,1),(2,2),(3,3),(62,101),(63,102)]
 refine z [9,4,5,2,30] ?_;refine cb (ca Qsi) λr32=>?_;refine z [44,1] ?_;refine c ?_ ?_
 . refine z [2,30,30,30] ?_;refine b λr34 h35=>?_;refine o (cG (Qn0 _ h35) [0] [] []) ?_;refine z [1,2] ?_;refine s1 (bld (l:=[i64 0,i64 0,i64 0,i64 0]) pl_63.h ti_63.h Qt rfl rfl) ?_;refine z [34,1,8,10,12] ?_;refine sU ?_;refine z [12] ?_;exact rt [(0,0),(1,1),(2,2),(3,3),(62,101),(63,102)]
 refine z [9,4,2,30,30] ?_;refine cb (ca Qxd) λr36=>?_;refine z [30,35,35,35] ?_;refine o (al' 103) ?_;refine o (al' 104) ?_;refine z [34,31,34,1,5,2,32] ?_;refine s1 (bld (l:=[i64 0,i64 0,i64 0,i64 0]) pl_63.h ti_63.h Qt rfl rfl) ?_;refine s1 (neA (p:=(r36.2.2:Qe)) (q:=((⟨0,0,0,0⟩:Qe):Qe)) K4 rfl eg_63 rfl rfl rfl) ?_;refine z [1] ?_;refine c ?_ ?_
 . refine z [2,32,34,1,8,10,12] ?_;refine sU ?_;refine z [12] ?_;exact rt [(0,0),(1,1),(2,2),(3,3),(62,101),(63,102)]
 refine z [9,4,5] ?_;refine b λy38 h39=>?_;refine sd ?_;refine zd [[],[],[1],[1],[1],[103]] ?_
 refine dx [46] [105] (λst mm ⟨a46,_⟩ ⟨g105,_⟩=>og (bsl (y:=105) (ls:=List.map Qd ([r36.1]:List Qb)) Tryz.underlying44 ti_53.h rfl rfl rfl rfl rfl ⟨rfl,(a46.trans rfl),(by exact rfl),(by exact rfl),trivial⟩ (g105.trans rfl) rfl)) ?_
 refine dd [101,105,106] (λ_ _ _ _=>app' 106) ?_;refine zd [[1],[1]] ?_;refine dd [1] (λ_ _ _ _=>stP (.agg [str x2_Name,.own 106,.own 102,sli 3 (List.map Qd x2_B),sli 3 (List.map Qd x2_E)]) [1]) ?_;refine de fol ?_;refine z [4,6,30,30,48,33,36,30] ?_
 refine so (bsl (y:=107) (ls:=List.map Qj ([r36.2.1]:List (List Qb))) Tryz.underlying45 ti_44.h rfl rfl rfl rfl rfl ⟨rfl,rfl,(by exact rfl),(by exact rfl),trivial⟩ rfl rfl) ?_
 refine b λy40 h41=>?_;refine o (app' 108) ?_;refine z [48,33] ?_;refine o (stP (.agg [str x2_Name,.own 106,.own 108,sli 3 (List.map Qd x2_B),sli 3 (List.map Qd x2_E)]) [2]) ?_;refine z [3,11] ?_;exact sgo (eR [(2,2),(3,3),(0,0),(1,1),(101,106),(102,108),(100,100)])
theorem Qf1{n:Nat}{x0}{x1}:∀ r,Qaf n x0 x1=some r->FnOk Tryz.prog 255 [.own 0,str x1] [(0,.bx 323 (J8 x0))] (.tup [sli 3 (List.map Qd r.1),Qp r.2.1]) [(0,.bx 323 (J8 r.2.2))]:=by
 unfold Qaf
 refine fs Tryz.func255 λw S0 γ hγ=>?_;refine z [2] ?_;refine s1 (asg rfl (kLm (k:=3) Qd)) ?_;refine o (al' 100) ?_;refine z [1,2,30] ?_;refine b λr1 h2=>?_;refine o (cG (Qdj _ h2) [0] [] []) ?_;refine z [30,35,35,35,31,31,31,1,2,30,30] ?_;refine b λy3 h4=>?_;refine z [91] ?_;refine cb (ca Qkf) λr5=>?_;refine z [30,35,35,31,31,1,5,2,30,44,1] ?_;refine c ?_ ?_
 . refine z [2,30] ?_;refine s1 (bld (l:=[i64 (1:Int),i64 0,i64 0,i64 r1.2.1]) pl_63.h ti_63.h Qt ⟨_,_,_,(kI (x:=1) rfl),rfl,rfl,rfl,(szk (k:=1) rfl rfl),⟨_,_,_,rfl,rfl,rfl,rfl,(szk (k:=1) rfl rfl),rfl⟩⟩ rfl) ?_;refine s1 (asg rfl (kLm (k:=3) Qd)) ?_;refine z [34,1,8,10] ?_;exact rt [(0,0)]
 refine z [9,4,2,30] ?_;refine cb (ca Qvt) λr7=>?_;refine z [30,35,35] ?_;refine o (al' 101) ?_;refine z [31,34,1,2,30,32,30,30,54,40,40] ?_;refine cb (ca Qkq) λr9=>?_;refine z [31,34,1,8] ?_;exact rt [(0,0)]
theorem Qzh{n:Nat}{x0}:∀ r,Qlx n x0=some r->FnOk Tryz.prog 210 [str x0] [] (.tup [Jm r.1,Qp r.2]) []:=by
 unfold Qlx
 refine fs Tryz.func210 λw S0 γ hγ=>?_;refine z [2] ?_;refine o (al' 100) ?_;refine o (al' 101) ?_;refine z [1,2] ?_;refine so (alOw (y:=102) (ly:=.agg [str [],.own 103,.own 104,sli 3 (List.map Qd []),sli 3 (List.map Qd [])]) [(103,53,3),(104,44,1)] ti_47.h (Qle (Kz (c1:=[.string ⟨#[]⟩]) (zo_of Qfs) (Kz (c1:=[.slice none 0 0]) (Qht rfl) (Kz (c1:=[.slice none 0 0]) (Qht rfl) (Kz (c1:=[.slice none 0 0]) (zo_of (J6 (k:=3))) (Kz (c1:=[.slice none 0 0]) (zo_of (J6 (k:=3))) (Qiu))))))) ⟨rfl,rfl,trivial⟩ rfl rfl rfl) ?_;refine z [1,2,30] ?_;refine s1 (bld (l:=[str x0,i64 0,bl false]) Q9n.h Q9m.h Qun ⟨_,_,_,rfl,rfl,rfl,rfl,(szk (k:=1) rfl rfl),rfl⟩ rfl) ?_;refine o (bx' 105) ?_;refine z [31,1,2,30] ?_;refine b λr1 h2=>?_;refine o (cG (Qdj _ h2) [105] [] []) ?_;refine z [30,35,35,35,33] ?_;refine o (stP (.agg [str r1.1,.own 103,.own 104,sli 3 (List.map Qd []),sli 3 (List.map Qd [])]) [0]) ?_;refine z [1,5,2,33,36] ?_;refine s1 (bld (l:=[i64 (2:Int),str r1.1,i64 0]) Q4u.h Q4t.h Qt9 ⟨_,_,_,(kI (x:=2) rfl),rfl,rfl,rfl,(szk (k:=1) rfl rfl),⟨_,_,_,rfl,rfl,rfl,rfl,(szk (k:=1) rfl rfl),rfl⟩⟩ rfl) ?_;refine cb (ca Qub) λr3=>?_;refine z [44,1] ?_;refine c ?_ ?_
 . refine z [2,32] ?_;refine s1 (bld (l:=[i64 (1:Int),i64 0,i64 0,i64 0]) pl_63.h ti_63.h Qt ⟨_,_,_,(kI (x:=1) rfl),rfl,rfl,rfl,(szk (k:=1) rfl rfl),rfl⟩ rfl) ?_;refine z [34,34,1,8,10] ?_;refine fz 103 [22] [100,102] ?_;refine fz 104 [22] [100,102] ?_;exact rt []
 refine z [9,4,2,30,30] ?_;refine b λr5 h6=>?_;refine o (cG (Qmk _ h6) [105,102,103,104] [(106,62),(107,63)] []) ?_;refine o (al' 108) ?_;refine z [34,1,5,2,32] ?_;refine s1 (bld (l:=[i64 0,i64 0,i64 0,i64 0]) pl_63.h ti_63.h Qt rfl rfl) ?_;refine s1 (neA (p:=(r5.1:Qe)) (q:=((⟨0,0,0,0⟩:Qe):Qe)) K4 rfl eg_63 rfl rfl rfl) ?_;refine z [1] ?_;refine c ?_ ?_
 . refine z [5] ?_;refine sd ?_;refine zd [[102],[108],[100],[101]] ?_;refine de fol ?_;refine z [4,8,10] ?_;refine fz 106 [30] [100,102] ?_;refine fz 107 [30] [100,102] ?_;exact rt []
 refine z [9,4,5,2,30] ?_;refine b λr7 h8=>?_;refine o (cG (Qf1 _ h8) [105] [] []) ?_;refine z [30,35,35,33] ?_;refine o (stP (.agg [str r5.2.2.1,.own 106,.own 107,sli 3 (List.map Qd r7.1),sli 3 (List.map Qd r5.2.2.2.2.1)]) [3]) ?_;refine z [34,1] ?_;refine sjq (λs11=>[(2,.own 100),(3,.own 101),(4,.own 102),(5,.own 105),(6,.own 108),(46,bl s11)]) (λs11=>[(100,.bx 47 (Jm (⟨[],[],[],[],[]⟩:Qq))),(101,.bx 63 (Qp (⟨0,0,0,0⟩:Qe))),(102,.bx 47 (.agg [str r5.2.2.1,.own 106,.own 107,sli 3 (List.map Qd r7.1),sli 3 (List.map Qd r5.2.2.2.2.1)])),(106,.sl 53 3 (List.map Qd r5.2.2.2.2.2.1)),(107,.sl 44 1 (List.map Qj r5.2.2.2.2.2.2)),(105,.bx 323 (J8 r7.2.2)),(108,.bx 63 (Qp r7.2.1))]) ?_ ?_
 . intro j9 hj10
   refine z [6,32] ?_;refine s1 (bld (l:=[i64 0,i64 0,i64 0,i64 0]) pl_63.h ti_63.h Qt rfl rfl) ?_;refine s1 (neA (p:=(r7.2.1:Qe)) (q:=((⟨0,0,0,0⟩:Qe):Qe)) K4 rfl eg_63 rfl rfl rfl) ?_;refine z [30] ?_;refine sifd 41 rfl ?_ ?_
   . refine z [23,23,23,23,38,1] ?_;exact sj (hj10 _) (eR [(100,100),(101,101),(102,102),(106,106),(107,107),(105,105),(108,108)])
   refine z [22,22,22,22,37,1] ?_;exact sj (hj10 _) (eR [(100,100),(101,101),(102,102),(106,106),(107,107),(105,105),(108,108)])
 intro s11
 refine c ?_ ?_
 . refine z [5] ?_;refine sd ?_;refine zd [[102],[108],[100],[101]] ?_;refine de fol ?_;refine z [4,8,10] ?_;refine fz 106 [47] [100,102] ?_;refine fz 107 [47] [100,102] ?_;exact rt []
 refine z [9,4,5,2,30] ?_;refine b λr12 h13=>?_;refine o (cG (Qf1 _ h13) [105] [] []) ?_;refine z [30,35,35,33] ?_;refine o (stP (.agg [str r5.2.2.1,.own 106,.own 107,sli 3 (List.map Qd r7.1),sli 3 (List.map Qd r12.1)]) [4]) ?_;refine z [34,1] ?_;refine sjq (λs16=>[(2,.own 100),(3,.own 101),(4,.own 102),(5,.own 105),(6,.own 108),(63,bl s16)]) (λs16=>[(100,.bx 47 (Jm (⟨[],[],[],[],[]⟩:Qq))),(101,.bx 63 (Qp (⟨0,0,0,0⟩:Qe))),(102,.bx 47 (.agg [str r5.2.2.1,.own 106,.own 107,sli 3 (List.map Qd r7.1),sli 3 (List.map Qd r12.1)])),(106,.sl 53 3 (List.map Qd r5.2.2.2.2.2.1)),(107,.sl 44 1 (List.map Qj r5.2.2.2.2.2.2)),(105,.bx 323 (J8 r12.2.2)),(108,.bx 63 (Qp r12.2.1))]) ?_ ?_
 . intro j14 hj15
   refine z [6,32] ?_;refine s1 (bld (l:=[i64 0,i64 0,i64 0,i64 0]) pl_63.h ti_63.h Qt rfl rfl) ?_;refine s1 (neA (p:=(r12.2.1:Qe)) (q:=((⟨0,0,0,0⟩:Qe):Qe)) K4 rfl eg_63 rfl rfl rfl) ?_;refine z [30] ?_;refine sifd 58 rfl ?_ ?_
   . refine z [23,23,23,23,38,1] ?_;exact sj (hj15 _) (eR [(100,100),(101,101),(102,102),(106,106),(107,107),(105,105),(108,108)])
   refine z [22,22,22,22,37,1] ?_;exact sj (hj15 _) (eR [(100,100),(101,101),(102,102),(106,106),(107,107),(105,105),(108,108)])
 intro s16
 refine c ?_ ?_
 . refine z [5] ?_;refine sd ?_;refine zd [[102],[108],[100],[101]] ?_;refine de fol ?_;refine z [4,8,10] ?_;refine fz 106 [64] [100,102] ?_;refine fz 107 [64] [100,102] ?_;exact rt []
 refine z [9,4,5] ?_;refine sd ?_;refine zd [[102],[],[105],[105],[105]] ?_;refine dx [70] [] (λst mm ⟨a70,_⟩ _=>og (bld (l:=[i64 (1:Int),i64 0,i64 0,i64 r12.2.2.at_]) pl_63.h ti_63.h Qt ⟨_,_,_,(kI (x:=1) rfl),rfl,rfl,rfl,(szk (k:=1) rfl rfl),⟨_,_,_,(a70.trans rfl),rfl,rfl,rfl,(szk (k:=1) rfl rfl),rfl⟩⟩ rfl)) ?_;refine zd [[100],[101]] ?_;refine de fol ?_;refine z [4,8] ?_;refine fz 106 [66] [100,102] ?_;refine fz 107 [66] [100,102] ?_;exact rt []
theorem Qxe{x0}:∀ r,Qew x0=some r->FnOk Tryz.prog 234 [Jm x0] [] (bl r) []:=by
 unfold Qew
 refine fs Tryz.func234 λw S0 γ hγ=>?_;refine z [2] ?_;refine o (bx' 100) ?_;refine z [31,1,2,33,36,39,31,1,5] ?_;refine sjq (λs3=>[(1,.own 100),(2,bl false),(41,bl s3)]) (λs3=>[(100,.bx 47 (Jm x0))]) ?_ ?_
 . intro j1 hj2
   refine z [6,30,46,30] ?_;refine sifd 11 rfl ?_ ?_
   . refine z [23,23,38,30,23,23,23,23,23,38,30,23,23,23,23,23,38,30,23,23,23,23,23,23,24,24,24,24,23,38,1] ?_;exact sj (hj2 _) (eR [(100,100)])
   refine z [22,22,37,30] ?_;refine sifd 15 rfl ?_ ?_
   . refine z [23,23,23,23,23,38,30,23,23,23,23,23,38,30,23,23,23,23,23,23,24,24,24,24,23,38,1] ?_;exact sj (hj2 _) (eR [(100,100)])
   refine z [22,22,22,22,22,37,30] ?_;refine sifd 22 rfl ?_ ?_
   . refine z [23,23,23,23,23,38,30,23,23,23,23,23,23,24,24,24,24,23,38,1] ?_;exact sj (hj2 _) (eR [(100,100)])
   refine z [22,22,22,22,22,37,30] ?_;refine sifd 29 rfl ?_ ?_
   . refine z [23,23,23,23,23,23,24,24,24,24,23,38,1] ?_;exact sj (hj2 _) (eR [(100,100)])
   refine z [22,22,22,22,22,22] ?_;refine sifd 35 rfl ?_ ?_
   . refine z [22,22,22,22,22,37,1] ?_;exact sj (hj2 _) (eR [(100,100)])
   refine z [23,23,23,23,22,37,1] ?_;exact sj (hj2 _) (eR [(100,100)])
 intro s3
 refine c ?_ ?_
 . refine z [2,31,1,8,10] ?_;exact rt []
 refine z [9,4,5,2,33,36,39,30,1,7] ?_;refine srN (λs9=>[(2,bl false),(43,sli 1 (List.map Qj x0.A))]) (λs9=>[]) (rE (eR [])) ?_ ?_
 . intro i10 x11 s9 hx12
   refine z [7,2,30,43,42,31,31,1,2,30,39,30,56,1] ?_;refine c ?_ ?_
   . refine z [2,31,1,8,12] ?_;refine sU ?_;refine z [12,10] ?_;exact rt []
   refine z [9,11] ?_;exact sgo eI
 intro s13
 refine z [13,4,2,31,1,8] ?_;exact rt []
theorem Xu{n:Nat}{x0}:∀ r,Vo n x0=some r->FnOk Tryz.prog 81 [Qd x0] [] (.tup [Q2 r.1,sli 1 (List.map u32 r.2)]) []:=by
 unfold Vo
 refine fs Tryz.func81 λw S0 γ hγ=>?_;refine z [2] ?_;refine o (bx' 100) ?_;refine o (al' 101) ?_;refine s1 (asg rfl (kLm (k:=1) u32)) ?_;refine z [1,5,2,33,36] ?_;refine cb (ca Qq6) λr1=>?_;refine z [1] ?_;refine c ?_ ?_
 . refine z [2] ?_;refine s1 (bld (l:=[bl false,sli 1 (List.map u32 [])]) pl_51.h ti_51.h Vp rfl rfl) ?_;refine cb (ca Qda) λr3=>?_;refine z [34,31,1,8,10] ?_;exact rt []
 refine z [9,4,5] ?_;refine sd ?_;refine zd [[100],[100],[100],[100],[101],[]] ?_;refine de fol ?_;refine z [4,8] ?_;exact rt []
theorem Wh{n:Nat}{x0}:∀ r,K1 n x0=some r->FnOk Tryz.prog 51 [Qd x0] [] (Qd r) []:=by
 unfold K1
 refine fs Tryz.func51 λw S0 γ hγ=>?_;refine z [2] ?_;refine o (bx' 100) ?_;refine o (al' 101) ?_;refine z [1,2,32] ?_;refine cb (ca Xu) λr1=>?_;refine z [35,35] ?_;refine cb (ca Qdl) λr3=>?_;refine z [34,1,8] ?_;exact rt []
theorem Qm9{n:Nat}{x0}:∀ r,Wm n x0=some r->FnOk Tryz.prog 238 [Qd x0] [] (bl r) []:=by
 unfold Wm
 refine fs Tryz.func238 λw S0 γ hγ=>?_;refine z [2] ?_;refine o (bx' 100) ?_;refine z [31,1,2,32] ?_;refine cb (ca Wh) λr1=>?_;refine o (al' 101) ?_;refine z [34,1] ?_;refine sjq (λs9=>[(2,bl s9)]) (λs9=>[]) ?_ ?_
 . intro j7 hj8
   refine z [6,33,45,36,33,45,36,74,30] ?_;refine sifd 13 rfl ?_ ?_
   . refine z [22,22,22,22,22,22,22,22,22,38,30] ?_;refine sifd 24 rfl ?_ ?_
     . refine z [22,22,22,22,22,22,22,38,30] ?_;refine sifd 33 rfl ?_ ?_
       . refine z [22,22,22,22,22,22] ?_;refine b λr10 h11=>?_;refine og' (c0 (Qlm _ h11)) ?_;refine z [22,38,30] ?_;refine sifd 43 rfl ?_ ?_
         . refine z [22,22,22,22] ?_;refine b λr12 h13=>?_;refine og' (c0 (Qlm _ h13)) ?_;refine z [22,38,31,1] ?_;exact sj (hj8 _) (eR [])
         refine z [23,23,23,23,23,23,37,31,1] ?_;exact sj (hj8 _) (eR [])
       refine z [23,23,23,23,23,23,23,23,37,30,23,23,23,23,23,23,37,31,1] ?_;exact sj (hj8 _) (eR [])
     refine z [23,23,23,23,23,23,23,37,30,23,23,23,23,23,23,23,23,37,30,23,23,23,23,23,23,37,31,1] ?_;exact sj (hj8 _) (eR [])
   refine z [23,23,23,23,23,23,23,23,23,37,30,23,23,23,23,23,23,23,37,30,23,23,23,23,23,23,23,23,37,30,23,23,23,23,23,23,37,31,1] ?_;exact sj (hj8 _) (eR [])
 intro s9
 refine z [8] ?_;exact rt []
theorem Qpe{n:Nat}{x0}:∀ r,Wc n x0=some r->FnOk Tryz.prog 239 [Qd x0] [] (i64 r) []:=by
 unfold Wc
 refine fs Tryz.func239 λw S0 γ hγ=>?_;refine z [2] ?_;refine o (bx' 100) ?_;refine z [31,1,5] ?_;refine b λr1 h2=>?_;refine b λr3 h4=>?_;refine sd ?_;refine zd [[100],[],[100]] ?_;refine dd [] (λ_ _ _ _=>c0 (Qmj _ h2)) ?_;refine zd [[100],[100]] ?_;refine dd [] (λ_ _ _ _=>c0 (Qmj _ h4)) ?_;refine zd [[],[]] ?_;refine de fol ?_;refine z [4,8] ?_;exact rt []
theorem Qna{n:Nat}{x0}:∀ r,Qbv n x0=some r->FnOk Tryz.prog 235 [sli 1 (List.map Qj x0)] [] (bl r) []:=by
 unfold Qbv
 refine fs Tryz.func235 λw S0 γ hγ=>?_;refine z [2,31,1,5,2,30,39,30,1,7] ?_;refine srN (λs38=>[(2,bl false),(7,sli 1 (List.map Qj x0))]) (λs38=>[]) (rE eI) ?_ ?_
 . intro i39 x40 s38 hx41
   refine z [7,2,43,42,31,1,2,30,39,30,1,7] ?_;refine srN (λs58=>[(2,bl false),(7,sli 1 (List.map Qj x0)),(8,i64 (x0.length:Int)),(9,i64 (i39:Int)),(13,sli 3 (List.map Qd x40))]) (λs58=>[]) (rE eI) ?_ ?_
   . intro i59 x60 s58 hx61
     refine z [7,2,43,42] ?_;refine o (al' 100) ?_;refine z [34,1] ?_;refine sjq (λs68=>[(2,bl false),(7,sli 1 (List.map Qj x0)),(8,i64 (x0.length:Int)),(9,i64 (i39:Int)),(13,sli 3 (List.map Qd x40)),(14,i64 (x40.length:Int)),(15,i64 (i59:Int)),(26,bl s68)]) (λs68=>[]) ?_ ?_
     . intro j66 hj67
       refine z [6,32] ?_;refine cb (ca Qm9) λr69=>?_;refine z [44,30] ?_;refine sifd 22 rfl ?_ ?_
       . refine z [23,23,23,38,1] ?_;exact sj (hj67 _) (eR [])
       refine z [22] ?_;refine b λr71 h72=>?_;refine og' (c0 (Qpe _ h72)) ?_;refine z [22,37,1] ?_;exact sj (hj67 _) (eR [])
     intro s68
     refine c ?_ ?_
     . refine z [2,31,1,8,12] ?_;refine sU ?_;refine z [12,12] ?_;refine sU ?_;refine z [12,10] ?_;exact rt []
     refine z [9,11] ?_;exact sgo eI
   intro s73
   refine z [13,11] ?_;exact sgo eI
 intro s74
 refine z [13,4,2,31,1,8] ?_;exact rt []
theorem Qpf{n:Nat}{x0}{x1}:∀ r,Qec n x0 x1=some r->FnOk Tryz.prog 151 [Q2 x0,Q2 x1] [] (Q2 r) []:=by
 unfold Qec
 refine fs Tryz.func151 λw S0 γ hγ=>?_;refine z [2] ?_;refine o (bx' 100) ?_;refine o (bx' 101) ?_;refine o (al' 102) ?_;refine z [1,5] ?_;refine b λr1 h2=>?_;refine b λr3 h4=>?_;refine sd ?_;refine zd [[100],[100],[101],[101],[],[100],[100],[101],[101]] ?_;refine dd [] (λ_ _ _ _=>c0 (Qd5 _ h2)) ?_;refine dd [] (λ_ _ _ _=>c0 (Yo _ h4)) ?_;refine zd [[102]] ?_;refine de fol ?_;refine z [4,8] ?_;exact rt []
theorem Qdb{n:Nat}{x0}{x1}:∀ r,Y5 n x0 x1=some r->FnOk Tryz.prog 84 [Q2 x0,sli 1 (List.map u32 x1)] [] (Q2 r) []:=by
 unfold Y5
 refine fs Tryz.func84 λw S0 γ hγ=>?_;refine z [2] ?_;refine o (bx' 100) ?_;refine o (al' 101) ?_;refine z [1,2,32,30] ?_;refine s1 (bld (l:=[bl false,sli 1 (List.map u32 x1)]) pl_51.h ti_51.h Vp ⟨_,_,_,rfl,rfl,rfl,rfl,(szk (k:=1) rfl rfl),rfl⟩ rfl) ?_;refine cb (ca Qpf) λr1=>?_;refine z [34,1,8] ?_;exact rt []
theorem Q42{n:Nat}{x0}{x1}:∀ r,Qlh n x0 x1=some r->FnOk Tryz.prog 204 [sli 1 (List.map u32 x0),sli 1 (List.map u32 x1)] [] (.tup [sli 1 (List.map u32 r.1),bl r.2]) []:=by
 unfold Qlh
 refine fs Tryz.func204 λw S0 γ hγ=>?_;refine z [2] ?_;refine s1 (asg rfl (kLm (k:=1) u32)) ?_;refine z [31,1,2,30] ?_;refine cb (ca Qbc) λr1=>?_;refine z [30] ?_;refine cb (ca Qbc) λr3=>?_;refine z [31,31,1,5,2,30,30] ?_;refine cb (ca Qlm) λr5=>?_;refine z [46,1] ?_;refine c ?_ ?_
 . refine z [2] ?_;refine s1 (asg rfl (kLm (k:=1) u32)) ?_;refine z [31,1,8,10] ?_;exact rt []
 refine z [9,4,2,30] ?_;refine b λr7 h8=>?_;refine o (cG (Qpd _ h8) [] [(100,50)] []) ?_;refine z [31,1,2,31,1,5,2,30,39,30,1,7] ?_;refine srN (λs40=>[(0,sli 1 (List.map u32 r1)),(1,sli 1 (List.map u32 r3)),(4,sli 1 (List.map u32 ([]:List Nat))),(5,bl false),(6,.own 100),(7,u32 s40.2)]) (λs40=>[(100,.sl 189 1 (List.map u32 s40.1))]) (rE (eR [(100,100)])) ?_ ?_
 . intro i41 x42 s40 hx43
   refine z [7,2,30,31,1,2,31,1] ?_;refine sjq (λs48=>[(0,sli 1 (List.map u32 r1)),(1,sli 1 (List.map u32 r3)),(4,sli 1 (List.map u32 ([]:List Nat))),(5,bl false),(6,.own 100),(7,u32 s40.2),(8,i64 (i41:Int)),(9,u32 s48),(21,i64 (r1.length:Int)),(22,i64 (i41:Int))]) (λs48=>[(100,.sl 189 1 (List.map u32 s40.1))]) ?_ ?_
   . intro j46 hj47
     refine z [2,30,30,39,46,1] ?_;refine c ?_ ?_
     . refine z [6,30,30] ?_;refine b λy49 h50=>?_;refine z [43,42,31,1] ?_;exact sj (hj47 _) (eR [(100,100)])
     refine z [9,4] ?_;exact sj (hj47 _) (eR [(100,100)])
   intro s48
   refine z [6,30,30,30,30,43,42,30,30] ?_;refine cb (ca Qq7) λr51=>?_;refine z [30,35,35] ?_;refine b λy53 h54=>?_;refine z [50,53,31,3,11] ?_;exact sgo (eR [(100,100)])
 intro s55
 refine z [13,4,2,30] ?_;refine fz 100 [6,47] [] ?_;refine cb (ca Qbc) λr56=>?_;refine z [31,31,1,8] ?_;exact rt []
theorem Q43{n:Nat}{x0}{x1}:∀ r,Qli n x0 x1=some r->FnOk Tryz.prog 150 [sli 1 (List.map u32 x0),sli 1 (List.map u32 x1)] [] (.tup [sli 1 (List.map u32 r.1),i64 r.2]) []:=by
 unfold Qli
 refine fs Tryz.func150 λw S0 γ hγ=>?_;refine z [2] ?_;refine s1 (asg rfl (kLm (k:=1) u32)) ?_;refine z [31,1,2,30,30] ?_;refine cb (ca Qlm) λr1=>?_;refine z [31,1] ?_;refine sjq (λs5=>[(0,sli 1 (List.map u32 s5.1)),(1,sli 1 (List.map u32 s5.2)),(4,sli 1 (List.map u32 ([]:List Nat))),(5,i64 (0:Int)),(6,i64 r1)]) (λs5=>[]) ?_ ?_
 . intro j3 hj4
   refine z [2,30,46,1] ?_;refine c ?_ ?_
   . refine z [6,30,30,31,31,1] ?_;exact sj (hj4 _) eI
   refine z [9,4] ?_;exact sj (hj4 _) eI
 intro s5
 refine z [2,30,30] ?_;refine cb (ca Q42) λr6=>?_;refine z [30,35,35,31,31,1,2,30,30,31,31,1,8] ?_;exact rt []
theorem Qpg{n:Nat}{x0}{x1}:∀ r,Qed n x0 x1=some r->FnOk Tryz.prog 83 [Q2 x0,Q2 x1] [] (Q2 r) []:=by
 unfold Qed
 refine fs Tryz.func83 λw S0 γ hγ=>?_;refine z [2] ?_;refine o (bx' 100) ?_;refine o (bx' 101) ?_;refine o (al' 102) ?_;refine z [1,5,2,33,36,33,36,74,1] ?_;refine c ?_ ?_
 . refine z [5] ?_;refine b λr1 h2=>?_;refine b λr3 h4=>?_;refine sd ?_;refine zd [[100],[100],[100],[100],[101],[101]] ?_
   refine dx [15,17] [103] (λst mm ⟨a15,a17,_⟩ ⟨g103,_⟩=>og (toV (bsl (y:=103) (ls:=List.map Qc0 ([x0.Abs,x1.Abs]:List (List Nat))) Tryz.underlying271 ti_32.h rfl rfl rfl rfl rfl ⟨rfl,(a15.trans rfl),(by exact rfl),(by exact rfl),rfl,(a17.trans rfl),(by exact rfl),(by exact rfl),trivial⟩ (g103.trans rfl) rfl) (J7 (f:=Qc0) (λ_=>Qlc) ([x0.Abs,x1.Abs]:List (List Nat))))) ?_
   refine dd [] (λ_ _ _ _=>c0 (Qsp _ h2)) ?_;refine dd [] (λ_ _ _ _=>c0 (Yo _ h4)) ?_;refine zd [[102]] ?_;refine de fol ?_;refine z [4,8,10] ?_;exact rt []
 refine z [9,4,2,33,36,33,36] ?_;refine cb (ca Q43) λr5=>?_;refine z [30,35,35,31,31,1,5,2,30,46,1] ?_;refine c ?_ ?_
 . refine z [2,33,36,30] ?_;refine cb (ca Yo) λr7=>?_;refine z [34,1,8,10] ?_;exact rt []
 refine z [9,4,2,33,36,30] ?_;refine cb (ca Yo) λr9=>?_;refine z [34,1,8] ?_;exact rt []
theorem Qhe{n:Nat}{x0}{x1}:∀ r,Qa4 n x0 x1=some r->FnOk Tryz.prog 26 [Qd x0,Qd x1] [] (Qd r) []:=by
 unfold Qa4
 refine fs Tryz.func26 λw S0 γ hγ=>?_;refine z [2] ?_;refine o (bx' 100) ?_;refine o (bx' 101) ?_;refine o (al' 102) ?_;refine z [1,2,32] ?_;refine cb (ca Xu) λr1=>?_;refine z [30,35,35] ?_;refine o (al' 103) ?_;refine z [34,31,1,2,32] ?_;refine cb (ca Xu) λr3=>?_;refine z [30,35,35] ?_;refine o (al' 104) ?_;refine z [34,31,1,5] ?_;refine b λr5 h6=>?_;refine b λr7 h8=>?_;refine b λr9 h10=>?_;refine b λr11 h12=>?_;refine b λr13 h14=>?_;refine sd ?_;refine zd [[103],[]] ?_;refine dd [] (λ_ _ _ _=>c0 (Qdb _ h6)) ?_;refine zd [[104],[]] ?_;refine dd [] (λ_ _ _ _=>c0 (Qdb _ h8)) ?_;refine dd [] (λ_ _ _ _=>c0 (Qpg _ h10)) ?_;refine zd [[],[]] ?_;refine dd [] (λ_ _ _ _=>c0 (Qd5 _ h12)) ?_;refine dd [] (λ_ _ _ _=>c0 (Qdl _ h14)) ?_;refine zd [[102]] ?_;refine de fol ?_;refine z [4,8] ?_;exact rt []
theorem Qnb{n:Nat}{x0}:∀ r,Qb2 n x0=some r->FnOk Tryz.prog 237 [sli 3 (List.map Qd x0)] [] (Qd r) []:=by
 unfold Qb2
 refine fs Tryz.func237 λw S0 γ hγ=>?_;refine z [2] ?_;refine o (al' 100) ?_;refine z [1,2] ?_;refine cb (ca V7) λr1=>?_;refine o (al' 101) ?_;refine z [34,1,5,2,30,39,30,1,7] ?_;refine srN (λs16=>[(2,.own 100),(3,.own 101),(7,sli 3 (List.map Qd x0))]) (λs16=>[(100,.bx 53 (Qd (⟨(⟨false,[]⟩:Qf),[]⟩:Qb))),(101,.bx 53 (Qd s16))]) (rE (eR [(100,100),(101,101)])) ?_ ?_
 . intro i17 x18 s16 hx19
   refine z [7,2,43,42] ?_;refine o (al' 102) ?_;refine z [34,1,6,32,32] ?_;refine cb (ca Qhe) λr20=>?_;refine z [34,3,11] ?_;exact sgo (eR [(100,100),(101,101)])
 intro s22
 refine z [13,4,2,32,34,1,8] ?_;exact rt []
theorem Qud{n:Nat}{x0}:∀ r,Qf5 n x0=some r->FnOk Tryz.prog 158 [Q2 x0] [] (Q2 r) []:=by
 unfold Qf5
 refine fs Tryz.func158 λw S0 γ hγ=>?_;refine z [2] ?_;refine o (bx' 100) ?_;refine o (al' 101) ?_;refine z [1,5] ?_;refine b λr3 h4=>?_;refine b λr5 h6=>?_;refine sd ?_;refine zd [[100],[100],[],[100],[100]] ?_;refine dd [102] (λ_ _ _ _=>tV (cG (Xk _ h4) [] [(102,50)] [])) ?_;refine dd [] (λ_ _ _ _=>c0 (Yo _ h6)) ?_;refine zd [[101]] ?_;refine de fol ?_;refine z [4,8] ?_;exact rt []
theorem Qk8{n:Nat}{x0}{x1}:∀ r,Qcu n x0 x1=some r->FnOk Tryz.prog 87 [Q2 x0,Q2 x1] [] (Q2 r) []:=by
 unfold Qcu
 refine fs Tryz.func87 λw S0 γ hγ=>?_;refine z [2] ?_;refine o (bx' 100) ?_;refine o (bx' 101) ?_;refine o (al' 102) ?_;refine z [1,5] ?_;refine b λr1 h2=>?_;refine b λr3 h4=>?_;refine sd ?_;refine zd [[100],[101]] ?_;refine dd [] (λ_ _ _ _=>c0 (Qud _ h2)) ?_;refine dd [] (λ_ _ _ _=>c0 (Qpg _ h4)) ?_;refine zd [[102]] ?_;refine de fol ?_;refine z [4,8] ?_;exact rt []
theorem Qg3{n:Nat}{x0}:∀ r,Qa2 n x0=some r->FnOk Tryz.prog 125 [Q2 x0] [] (i64 r) []:=by
 unfold Qa2
 refine fs Tryz.func125 λw S0 γ hγ=>?_;refine z [2] ?_;refine o (bx' 100) ?_;refine z [31,1,5,7,2,33,36] ?_;refine cb (ca Qq6) λr1=>?_;refine z [31,1] ?_;refine c ?_ ?_
 . refine z [2,31,1,8,12,10] ?_;exact rt []
 refine z [2,33,36,31,1] ?_;refine c ?_ ?_
 . refine z [2,31,1,8,12,10] ?_;exact rt []
 refine z [9,11,4,2,31,1,8] ?_;exact rt []
theorem Q2b{n:Nat}{x0}{x1}:∀ r,Qh1 n x0 x1=some r->FnOk Tryz.prog 124 [Q2 x0,Q2 x1] [] (i64 r) []:=by
 unfold Qh1
 refine fs Tryz.func124 λw S0 γ hγ=>?_;refine z [2] ?_;refine o (bx' 100) ?_;refine o (bx' 101) ?_;refine z [31,1,2,32,32] ?_;refine cb (ca Qk8) λr1=>?_;refine cb (ca Qg3) λr3=>?_;refine z [31,1,8] ?_;exact rt []
theorem Qbd{n:Nat}{x0}{x1}:∀ r,X8 n x0 x1=some r->FnOk Tryz.prog 67 [Qd x0,Qd x1] [] (i64 r) []:=by
 unfold X8
 refine fs Tryz.func67 λw S0 γ hγ=>?_;refine z [2] ?_;refine o (bx' 100) ?_;refine o (bx' 101) ?_;refine z [31,1,2,32] ?_;refine cb (ca Xu) λr1=>?_;refine z [30,35,35] ?_;refine o (al' 102) ?_;refine z [34,31,1,2,32] ?_;refine cb (ca Xu) λr3=>?_;refine z [30,35,35] ?_;refine o (al' 103) ?_;refine z [34,31,1,5] ?_;refine b λr5 h6=>?_;refine b λr7 h8=>?_;refine b λr9 h10=>?_;refine sd ?_;refine zd [[102],[]] ?_;refine dd [] (λ_ _ _ _=>c0 (Qdb _ h6)) ?_;refine zd [[103],[]] ?_;refine dd [] (λ_ _ _ _=>c0 (Qdb _ h8)) ?_;refine dd [] (λ_ _ _ _=>c0 (Q2b _ h10)) ?_;refine zd [[]] ?_;refine de fol ?_;refine z [4,8] ?_;exact rt []
theorem Qeg{n:Nat}{x0}{x1}:∀ r,Zz n x0 x1=some r->FnOk Tryz.prog 22 [Qd x0,Qd x1] [] (bl r) []:=by
 unfold Zz
 refine fs Tryz.func22 λw S0 γ hγ=>?_;refine z [2] ?_;refine o (bx' 100) ?_;refine o (bx' 101) ?_;refine z [31,1,2,32,32] ?_;refine cb (ca Qbd) λr1=>?_;refine z [41,31,1,8] ?_;exact rt []
theorem Qzi{n:Nat}{x0}:∀ r,Qfv n x0=some r->FnOk Tryz.prog 236 [Jm x0] [] (bl r) []:=by
 unfold Qfv
 refine fs Tryz.func236 λw S0 γ hγ=>?_;refine z [2] ?_;refine o (bx' 100) ?_;refine z [31,1,5,2,33,36,39,30,1,7] ?_;refine srN (λs12=>[(1,.own 100),(2,bl false),(6,sli 1 (List.map Qj x0.A))]) (λs12=>[(100,.bx 47 (Jm x0))]) (rE (eR [(100,100)])) ?_ ?_
 . intro i13 x14 s12 hx15
   refine z [7,2,30,43,42,31,31,1,5] ?_;refine b λr16 h17=>?_;refine b λy18 h19=>?_;refine b λr20 h21=>?_;refine sd ?_;refine zd [[]] ?_;refine dd [] (λ_ _ _ _=>c0 (Qnb _ h17)) ?_;refine zd [[100],[100],[],[],[]] ?_;refine dd [] (λ_ _ _ _=>c0 (Qeg _ h21)) ?_;refine zd [[]] ?_;refine de fol ?_;refine z [4] ?_;refine c ?_ ?_
   . refine z [2,31,1,8,12] ?_;refine sU ?_;refine z [12,10] ?_;exact rt []
   refine z [9,11] ?_;exact sgo (eR [(100,100)])
 intro s22
 refine z [13,4,2,31,1,8] ?_;exact rt []
theorem Qp1{n:Nat}{x0}:∀ r,Qcy n x0=some r->FnOk Tryz.prog 190 [Jm x0] [] (i64 r) []:=by
 unfold Qcy
 refine fs Tryz.func190 λw S0 γ hγ=>?_;refine z [2] ?_;refine o (bx' 100) ?_;refine z [31,1,2] ?_;refine cb (ca V7) λr1=>?_;refine o (al' 101) ?_;refine z [34,1,5,7,2,33,36] ?_;refine s1 (bld (l:=[i64 (2:Int),str x0.Name,i64 0]) Q4u.h Q4t.h Qt9 ⟨_,_,_,(kI (x:=2) rfl),rfl,rfl,rfl,(szk (k:=1) rfl rfl),⟨_,_,_,rfl,rfl,rfl,rfl,(szk (k:=1) rfl rfl),rfl⟩⟩ rfl) ?_;refine cb (ca Qub) λr3=>?_;refine z [44,31,1] ?_;refine c ?_ ?_
 . refine z [2,31,1,8,12,10] ?_;exact rt []
 refine z [2,32] ?_;refine cb (ca Qxe) λr5=>?_;refine z [44,31,1] ?_;refine c ?_ ?_
 . refine z [2,31,1,8,12,10] ?_;exact rt []
 refine sjq (λs13=>[(1,.own 100),(2,i64 (0:Int)),(3,.own 101),(15,bl s13)]) (λs13=>[(100,.bx 47 (Jm x0)),(101,.bx 53 (Qd r1))]) ?_ ?_
 . intro j11 hj12
   refine z [6,33,36] ?_;refine cb (ca Qna) λr14=>?_;refine z [44,30] ?_;refine sifd 20 rfl ?_ ?_
   . refine z [23,23,23,23,23,23,23,23,23,38,31,1] ?_;exact sj (hj12 _) (eR [(100,100),(101,101)])
   refine z [22,22,22,22,22,22] ?_
   refine sg 20 rfl rfl (bsl (y:=102) (ls:=List.map Qj ([x0.B,x0.C,x0.E]:List (List Qb))) Tryz.underlying45 ti_44.h rfl rfl rfl rfl rfl ⟨rfl,rfl,(by exact rfl),(by exact rfl),rfl,rfl,(by exact rfl),(by exact rfl),rfl,rfl,(by exact rfl),(by exact rfl),trivial⟩ rfl rfl) ?_
   refine b λr16 h17=>?_
   refine sg 20 rfl rfl (callL (em:=[]) [102] [] [] [] rfl (Qna _ h17) trivial (pl_bl) ⟨.inr ⟨102,rfl,.inl ⟨rfl,.inl ⟨_,_,_,rfl,J7 (f:=Qj) (λ_=>Qlc) ([x0.B,x0.C,x0.E]:List (List Qb)),rfl⟩⟩⟩,trivial⟩ (λ_ _ h=>by cases h) trivial rfl trivial trivial rfl trivial trivial trivial (rn_id (if_bl)) rfl) ?_
   refine z [22,37,31,1] ?_;exact sj (hj12 _) (eR [(100,100),(101,101)])
 intro s13
 refine c ?_ ?_
 . refine z [2,31,1,8,12,10] ?_;exact rt []
 refine z [2,32] ?_;refine cb (ca Qzi) λr18=>?_;refine z [44,31,1] ?_;refine c ?_ ?_
 . refine z [2,31,1,8,12,10] ?_;exact rt []
 refine z [5] ?_;refine b λr20 h21=>?_;refine b λr22 h23=>?_;refine sd ?_;refine zd [[100],[100]] ?_;refine dd [] (λ_ _ _ _=>c0 (Qnb _ h21)) ?_;refine zd [[101]] ?_;refine dd [] (λ_ _ _ _=>c0 (Qeg _ h23)) ?_;refine zd [[],[]] ?_;refine de fol ?_;refine z [4] ?_;refine c ?_ ?_
 . refine z [2,31,1,8,12,10] ?_;exact rt []
 refine sjq (λs31=>[(2,i64 (0:Int)),(42,bl s31)]) (λs31=>[]) ?_ ?_
 . intro j29 hj30
   refine sif (λhb32=>?_) (λhb32=>?_)
   . refine b λr33 h34=>?_;refine b λr35 h36=>?_;refine sd ?_;refine zd [[100],[100],[],[]] ?_;refine dd [] (λ_ _ _ _=>obk hb32 ops) ?_;refine zd [[100],[100]] ?_;refine dG [] (λ_ _ _ _=>c0 (Qnb _ h34)) ?_;refine zd [[101]] ?_;refine dG [] (λ_ _ _ _=>c0 (Qeg _ h36)) ?_;refine zd [[],[],[]] ?_;refine de fol ?_;refine z [4] ?_;exact sj (hj30 _) (eR [])
   refine sd ?_;refine zd [[100],[100],[],[]] ?_;refine dd [] (λ_ _ _ _=>obk hb32 ops) ?_;refine zd [[],[],[],[],[],[],[],[]] ?_;refine de fol ?_;refine z [4] ?_;exact sj (hj30 _) (eR [])
 intro s31
 refine c ?_ ?_
 . refine z [2,31,1,8,12,10] ?_;exact rt []
 refine z [9,11,4,2,31,1,8] ?_;exact rt []
theorem Qxf{n:Nat}{x0}:∀ r,Qkn n x0=some r->FnOk Tryz.prog 162 [str x0] [] (.tup [Jm r.1,Qp r.2]) []:=by
 unfold Qkn
 refine fs Tryz.func162 λw S0 γ hγ=>?_;refine z [2] ?_;refine o (al' 100) ?_;refine o (al' 101) ?_;refine z [1,5,2,30,54,47,1] ?_;refine c ?_ ?_
 . refine z [2] ?_;refine s1 (bld (l:=[str [],sli 3 (List.map Qd []),sli 1 (List.map Qj []),sli 3 (List.map Qd []),sli 3 (List.map Qd [])]) pl_47.h ti_47.h Qal rfl rfl) ?_;refine s1 (bld (l:=[i64 (1:Int),i64 0,i64 0,i64 (4000:Int)]) pl_63.h ti_63.h Qt ⟨_,_,_,(kI (x:=1) rfl),rfl,rfl,rfl,(szk (k:=1) rfl rfl),⟨_,_,_,(kI (x:=4000) rfl),rfl,rfl,rfl,(szk (k:=1) rfl rfl),rfl⟩⟩ rfl) ?_;refine z [34,34,1,8,10] ?_;exact rt []
 refine z [9,4,2,30] ?_;refine cb (ca Qzh) λr1=>?_;refine z [30,35,35] ?_;refine o (al' 102) ?_;refine o (al' 103) ?_;refine z [34,34,1,5,2,32] ?_;refine s1 (bld (l:=[i64 0,i64 0,i64 0,i64 0]) pl_63.h ti_63.h Qt rfl rfl) ?_;refine s1 (neA (p:=(r1.2:Qe)) (q:=((⟨0,0,0,0⟩:Qe):Qe)) K4 rfl eg_63 rfl rfl rfl) ?_;refine z [1] ?_;refine c ?_ ?_
 . refine z [5] ?_;refine sd ?_;refine dx [] [] (λst mm _ _=>og (bld (l:=[str [],sli 3 (List.map Qd []),sli 1 (List.map Qj []),sli 3 (List.map Qd []),sli 3 (List.map Qd [])]) pl_47.h ti_47.h Qal rfl rfl)) ?_;refine zd [[103],[100],[101]] ?_;refine de fol ?_;refine z [4,8,10] ?_;exact rt []
 refine z [9,4,5,2,32] ?_;refine cb (ca Qp1) λr3=>?_;refine z [31,1,2,30,56,1] ?_;refine c ?_ ?_
 . refine z [2] ?_;refine s1 (bld (l:=[str [],sli 3 (List.map Qd []),sli 1 (List.map Qj []),sli 3 (List.map Qd []),sli 3 (List.map Qd [])]) pl_47.h ti_47.h Qal rfl rfl) ?_;refine z [30] ?_;refine s1 (bld (l:=[i64 (2:Int),i64 0,i64 0,i64 r3]) pl_63.h ti_63.h Qt ⟨_,_,_,(kI (x:=2) rfl),rfl,rfl,rfl,(szk (k:=1) rfl rfl),⟨_,_,_,rfl,rfl,rfl,rfl,(szk (k:=1) rfl rfl),rfl⟩⟩ rfl) ?_;refine z [34,34,1,8,10] ?_;exact rt []
 refine z [9,4,5] ?_;refine sd ?_;refine zd [[102],[103],[100],[101]] ?_;refine de fol ?_;refine z [4,8] ?_;exact rt []
theorem Q2c{n:Nat}{x0}:∀ r,Qo6 n x0=some r->FnOk Tryz.prog 92 [str x0] [] (.tup [Jm r.1,bl r.2]) []:=by
 unfold Qo6
 refine fs Tryz.func92 λw S0 γ hγ=>?_;refine z [2] ?_;refine o (al' 100) ?_;refine z [31,1,5,2] ?_;refine cb (ca Qzd) λr1=>?_;refine z [30,1,7] ?_;refine sloopE 0 Lp.go (λs17=>[(0,str x0),(2,.own 100),(3,bl false),(8,Qk5 r1),(9,i64 s17)]) (λs17=>[(100,.bx 47 (Jm (⟨[],[],[],[],[]⟩:Qq)))]) (λt15=>[(2,.own 100),(3,bl false)]) (λt15=>[(100,.bx 47 (Jm (⟨[],[],[],[],[]⟩:Qq)))]) (eR [(100,100)]) ?_ ?_
 . intro hj16 s17
   refine z [2,46,1,5] ?_;refine c ?_ ?_
   . refine z [9,4,5,7,2] ?_;refine b λy18 h19=>?_;refine s1 (ixV (f:=str) (xs:=([r1.a0,r1.a1,r1.a2,r1.a3,r1.a4,r1.a5]:List (List UInt8))) (y:=y18) Tryz.underlying233 sh_9.h rfl h19 (λ_=>rfl) (λ_=>rfl) rfl rfl rfl) ?_;refine z [31,1,2,30] ?_;refine cb (ca Q0r) λr20=>?_;refine z [30,72,1] ?_;refine c ?_ ?_
     . refine z [2,30] ?_;refine cb (ca Qxf) λr22=>?_;refine z [30,35,35] ?_;refine o (al' 101) ?_;refine o (al' 102) ?_;refine z [34,34,1,2,32,34,31,1,8,12,10] ?_;refine sU ?_;refine z [12,10] ?_;exact rt []
     refine z [9,11,4,6,40,30,3] ?_;exact sgo (eR [(100,100)])
   refine z [14,15] ?_;exact su (sj (hj16 _) (eR [(100,100)]))
 intro t15
 refine slpk ?_;refine z [13,4,2] ?_;refine s1 (bld (l:=[str [],sli 3 (List.map Qd []),sli 1 (List.map Qj []),sli 3 (List.map Qd []),sli 3 (List.map Qd [])]) pl_47.h ti_47.h Qal rfl rfl) ?_;refine z [34,31,1,8] ?_;exact rt []
theorem Qq8{n:Nat}{x0}{x1}:∀ r,Qfm n x0 x1=some r->FnOk Tryz.prog 101 [Qd x0,Qd x1] [] (.tup [Qd r.1,bl r.2]) []:=by
 unfold Qfm
 refine fs Tryz.func101 λw S0 γ hγ=>?_;refine z [2] ?_;refine o (bx' 100) ?_;refine o (bx' 101) ?_;refine o (al' 102) ?_;refine z [31,1,2,32] ?_;refine cb (ca Xu) λr1=>?_;refine z [30,35,35] ?_;refine o (al' 103) ?_;refine z [34,31,1,2,32] ?_;refine cb (ca Xu) λr3=>?_;refine z [30,35,35] ?_;refine o (al' 104) ?_;refine z [34,31,1,5,2,32] ?_;refine cb (ca Qg3) λr5=>?_;refine z [41,1] ?_;refine c ?_ ?_
 . refine z [2] ?_;refine cb (ca V7) λr7=>?_;refine z [34,31,1,8,10] ?_;exact rt []
 refine z [9,4,2,32,30] ?_;refine cb (ca Qdb) λr9=>?_;refine o (al' 105) ?_;refine z [34,1,2,33,36,33,36,75,33] ?_;refine o (stP (Q2 (⟨(r9.Neg != r3.1.Neg),r9.Abs⟩:Qf)) [0]) ?_;refine z [1,5] ?_;refine b λr11 h12=>?_;refine b λr13 h14=>?_;refine sd ?_;refine zd [[105],[],[104],[104]] ?_;refine dd [] (λ_ _ _ _=>c0 (Qd5 _ h12)) ?_;refine dd [] (λ_ _ _ _=>c0 (Qdl _ h14)) ?_;refine zd [[102],[]] ?_;refine de fol ?_;refine z [4,8] ?_;exact rt []
theorem Qnc{n:Nat}{x0}{x1}:∀ r,Qg0 n x0 x1=some r->FnOk Tryz.prog 47 [i64 x0,i64 x1] [] (.tup [Qd r.1,bl r.2]) []:=by
 unfold Qg0
 refine fs Tryz.func47 λw S0 γ hγ=>?_;refine z [2] ?_;refine o (al' 100) ?_;refine z [31,1,2,30] ?_;refine cb (ca V7) λr1=>?_;refine z [30] ?_;refine cb (ca V7) λr3=>?_;refine cb (ca Qq8) λr5=>?_;refine z [35,35,34,31,1,8] ?_;exact rt []
theorem Qk9{n:Nat}{x0}{x1}:∀ r,Qf9 n x0 x1=some r->FnOk Tryz.prog 169 [i64 x0,i64 x1] [] (Qd r) []:=by
 unfold Qf9
 refine fs Tryz.func169 λw S0 γ hγ=>?_;refine z [2] ?_;refine o (al' 100) ?_;refine z [1,2,30,30] ?_;refine cb (ca Qnc) λr1=>?_;refine z [30,35,35] ?_;refine o (al' 101) ?_;refine z [34,31,1,2,32,34,1,8] ?_;exact rt []
theorem Q0w{n:Nat}:∀ r,Qmz n =some r->FnOk Tryz.prog 100 [] [] (Vv r) []:=by
 unfold Qmz
 refine fs Tryz.func100 λw S0 γ hγ=>?_;refine z [2] ?_;refine o (al' 100) ?_;refine z [1,2] ?_;refine cb (ca Qk9) λr1=>?_;refine cb (ca Qk9) λr3=>?_;refine cb (ca Qk9) λr5=>?_;refine cb (ca V7) λr7=>?_;refine cb (ca Qk9) λr9=>?_;refine s1 (bld (l:=[Qd r1,Qd r3,Qd r5,Qd r7,Qd r9,i64 (16:Int),i64 (100:Int)]) pl_55.h ti_55.h Qig ⟨_,_,_,rfl,rfl,rfl,rfl,(szk (k:=3) rfl rfl),⟨_,_,_,rfl,rfl,rfl,rfl,(szk (k:=3) rfl rfl),⟨_,_,_,rfl,rfl,rfl,rfl,(szk (k:=3) rfl rfl),⟨_,_,_,rfl,rfl,rfl,rfl,(szk (k:=3) rfl rfl),⟨_,_,_,rfl,rfl,rfl,rfl,(szk (k:=3) rfl rfl),⟨_,_,_,(kI (x:=16) rfl),rfl,rfl,rfl,(szk (k:=1) rfl rfl),⟨_,_,_,(kI (x:=100) rfl),rfl,rfl,rfl,(szk (k:=1) rfl rfl),rfl⟩⟩⟩⟩⟩⟩⟩ rfl) ?_;refine z [34,1,8] ?_;exact rt []
theorem Qe3{x0}{x1}:∀ r,Y6 x0 x1=some r->FnOk Tryz.prog 232 [i64 x0,i64 x1] [] (bl r) []:=by
 unfold Y6
 refine fs Tryz.func232 λw S0 γ hγ=>?_;refine z [2,31,1] ?_;refine sjq (λs3=>[(4,bl s3)]) (λs3=>[]) ?_ ?_
 . intro j1 hj2
   refine z [6,30,57,30] ?_;refine sifd 7 rfl ?_ ?_
   . refine z [22,22,22,38,31,1] ?_;exact sj (hj2 _) eI
   refine z [23,23,23,37,31,1] ?_;exact sj (hj2 _) eI
 intro s3
 refine z [8] ?_;exact rt []
theorem Q0x{x0}:∀ r,Qgt x0=some r->FnOk Tryz.prog 230 [K8 x0] [] (bl r) []:=by
 unfold Qgt
 refine fs Tryz.func230 λw S0 γ hγ=>?_;refine z [2] ?_;refine o (bx' 100) ?_;refine z [31,1] ?_;refine sjq (λs7=>[(2,bl s7)]) (λs7=>[]) ?_ ?_
 . intro j5 hj6
   refine z [6,33,36,49] ?_;refine cb (ca Qe3) λr8=>?_;refine z [30] ?_;refine sifd 7 rfl ?_ ?_
   . refine z [22,22] ?_;refine b λr10 h11=>?_;refine og' (c0 (Qe3 _ h11)) ?_;refine z [38,30] ?_;refine sifd 12 rfl ?_ ?_
     . refine z [22,22,22,22,22,22,38,30] ?_;refine sifd 20 rfl ?_ ?_
       . refine z [22,22,22,22,38,31,1] ?_;exact sj (hj6 _) (eR [])
       refine z [23,23,23,23,37,31,1] ?_;exact sj (hj6 _) (eR [])
     refine z [23,23,23,23,23,23,37,30,23,23,23,23,37,31,1] ?_;exact sj (hj6 _) (eR [])
   refine z [23,23,23,37,30,23,23,23,23,23,23,37,30,23,23,23,23,37,31,1] ?_;exact sj (hj6 _) (eR [])
 intro s7
 refine z [8] ?_;exact rt []
theorem Qyp{x0}:∀ r,Qiv x0=some r->FnOk Tryz.prog 273 [Vg x0] [] (Qko r) []:=by
 unfold Qiv
 refine fs Tryz.func273 λw S0 γ hγ=>?_;refine z [2] ?_;refine o (bx' 100) ?_;refine o (al' 101) ?_;refine z [1,2,33,36,33,36,33,36] ?_;refine s1 (bld (l:=[i64 x0.Op,i64 x0.A,i64 x0.B]) Q0l.h Qsl.h Qgd ⟨_,_,_,rfl,rfl,rfl,rfl,(szk (k:=1) rfl rfl),⟨_,_,_,rfl,rfl,rfl,rfl,(szk (k:=1) rfl rfl),⟨_,_,_,rfl,rfl,rfl,rfl,(szk (k:=1) rfl rfl),rfl⟩⟩⟩ rfl) ?_;refine z [34,1,8] ?_;exact rt []
theorem Q0y{x0}:∀ r,Qgu x0=some r->FnOk Tryz.prog 274 [Qd x0] [] (bl r) []:=by
 unfold Qgu
 refine fs Tryz.func274 λw S0 γ hγ=>?_;refine z [2] ?_;refine o (bx' 100) ?_;refine z [31,1] ?_;refine sjq (λs3=>[(2,bl s3)]) (λs3=>[]) ?_ ?_
 . intro j1 hj2
   refine z [6,33,45,36,44,30] ?_;refine sifd 7 rfl ?_ ?_
   . refine z [22,22,22,22,22,38,30] ?_;refine sifd 14 rfl ?_ ?_
     . refine z [22,22,22,22,38,31,1] ?_;exact sj (hj2 _) (eR [])
     refine z [23,23,23,23,37,31,1] ?_;exact sj (hj2 _) (eR [])
   refine z [23,23,23,23,23,37,30,23,23,23,23,37,31,1] ?_;exact sj (hj2 _) (eR [])
 intro s3
 refine z [8] ?_;exact rt []
theorem Qsq{x0}:∀ r,Qev x0=some r->FnOk Tryz.prog 275 [Vg x0] [] (sli 1 (List.map i64 r)) []:=by
 unfold Qev
 refine fs Tryz.func275 λw S0 γ hγ=>?_;refine z [2] ?_;refine o (bx' 100) ?_;refine s1 (asg rfl (kLm (k:=1) i64)) ?_;refine z [1,5,2,33,36,1,7] ?_;refine sjq (λs3=>[(1,.own 100),(2,sli 1 (List.map i64 ([]:List Int))),(4,i64 x0.Op),(5,bl s3)]) (λs3=>[(100,.bx 164 (Vg x0))]) ?_ ?_
 . intro j1 hj2
   refine z [2,41,31,1] ?_;refine c ?_ ?_
   . refine z [9,4] ?_;exact sj (hj2 _) (eR [(100,100)])
   refine z [6,41,31,1] ?_;exact sj (hj2 _) (eR [(100,100)])
 intro s3
 refine c ?_ ?_
 . refine z [2,33,36] ?_
   refine so (bsl (y:=101) (ls:=List.map i64 ([x0.A]:List Int)) Tryz.underlying23 ti_3.h rfl rfl rfl rfl rfl ⟨rfl,rfl,(by exact rfl),(by exact rfl),trivial⟩ rfl rfl) ?_
   refine z [31,1,8,12,10] ?_;refine fz 101 [2,10] [] ?_;exact rt []
 refine sjq (λs6=>[(1,.own 100),(2,sli 1 (List.map i64 ([]:List Int))),(11,bl s6)]) (λs6=>[(100,.bx 164 (Vg x0))]) ?_ ?_
 . intro j4 hj5
   refine z [2,41,31,1] ?_;refine c ?_ ?_
   . refine z [9,4] ?_;exact sj (hj5 _) (eR [(100,100)])
   refine z [2,41,31,1] ?_;refine c ?_ ?_
   . refine z [9,4] ?_;exact sj (hj5 _) (eR [(100,100)])
   refine z [2,41,31,1] ?_;refine c ?_ ?_
   . refine z [9,4] ?_;exact sj (hj5 _) (eR [(100,100)])
   refine z [6,41,31,1] ?_;exact sj (hj5 _) (eR [(100,100)])
 intro s6
 refine c ?_ ?_
 . refine z [2,33,36,33,36] ?_
   refine so (bsl (y:=101) (ls:=List.map i64 ([x0.A,x0.B]:List Int)) Tryz.underlying23 ti_3.h rfl rfl rfl rfl rfl ⟨rfl,rfl,(by exact rfl),(by exact rfl),rfl,rfl,(by exact rfl),(by exact rfl),trivial⟩ rfl rfl) ?_
   refine z [31,1,8,12,10] ?_;refine fz 101 [2,20] [] ?_;exact rt []
 refine z [9,11,4,2] ?_;refine s1 (asg rfl (kLm (k:=1) i64)) ?_;refine z [1,8] ?_;exact rt []
theorem Q3s{n:Nat}{x0}{x1}:∀ r,Qhc n x0 x1=some r->FnOk Tryz.prog 231 [K8 x0,i64 x1] [] (bl r) []:=by
 unfold Qhc
 refine fs Tryz.func231 λw S0 γ hγ=>?_;refine z [2] ?_;refine o (bx' 100) ?_;refine z [31,1,2,33,36,30] ?_;refine b λy1 h2=>?_;refine z [43,42] ?_;refine o (al' 101) ?_;refine z [34,1,5,2,33,36,41,1] ?_;refine c ?_ ?_
 . refine sjq (λs9=>[(1,i64 x1),(2,.own 100),(4,bl s9),(5,.own 101)]) (λs9=>[(100,.bx 43 (K8 x0)),(101,.bx 164 (Vg y1))]) ?_ ?_
   . intro j7 hj8
     refine z [6,32] ?_;refine cb (ca Qyp) λr10=>?_;refine s1 (bld (l:=[i64 (1:Int),i64 0,i64 0]) Q0l.h Qsl.h Qgd ⟨_,_,_,(kI (x:=1) rfl),rfl,rfl,rfl,(szk (k:=1) rfl rfl),rfl⟩ rfl) ?_;refine s1 (eqA (p:=(r10:Ko)) (q:=((⟨(1:Int),0,0⟩:Ko):Ko)) Q0m rfl Q4v rfl rfl rfl) ?_;refine z [30] ?_;refine sifd 20 rfl ?_ ?_
     . refine z [22,22] ?_;refine b λr12 h13=>?_;refine og' (c0 (Qm9 _ h13)) ?_;refine z [38,31,1] ?_;exact sj (hj8 _) (eR [(100,100),(101,101)])
     refine z [23,23,23,37,31,1] ?_;exact sj (hj8 _) (eR [(100,100),(101,101)])
   intro s9
   refine z [8,10] ?_;exact rt []
 refine z [9,4,5,2,33,36] ?_;refine cb (ca Q0y) λr14=>?_;refine z [44,1] ?_;refine c ?_ ?_
 . refine z [2,31,1,8,10] ?_;exact rt []
 refine z [9,4,5,2,32] ?_;refine cb (ca Qsq) λr16=>?_;refine z [39,30,1,7] ?_;refine srN (λs25=>[(1,i64 x1),(2,.own 100),(4,bl false),(5,.own 101),(30,sli 1 (List.map i64 r16))]) (λs25=>[(100,.bx 43 (K8 x0)),(101,.bx 164 (Vg y1))]) (rE (eR [(100,100),(101,101)])) ?_ ?_
 . intro i26 x27 s25 hx28
   refine z [7,2,43,42,31,1,2,30,30] ?_;refine cb (ca Qe3) λr29=>?_;refine z [44,1] ?_;refine c ?_ ?_
   . refine z [2,31,1,8,12] ?_;refine sU ?_;refine z [12,10] ?_;exact rt []
   refine z [9,11] ?_;exact sgo (eR [(100,100),(101,101)])
 intro s31
 refine z [13,4,5,2,33,36,1,7,2,41,31,1] ?_;refine c ?_ ?_
 . refine z [2,32] ?_;refine cb (ca Qyp) λr32=>?_;refine s1 (bld (l:=[i64 (2:Int),i64 0,i64 0]) Q0l.h Qsl.h Qgd ⟨_,_,_,(kI (x:=2) rfl),rfl,rfl,rfl,(szk (k:=1) rfl rfl),rfl⟩ rfl) ?_;refine s1 (eqA (p:=(r32:Ko)) (q:=((⟨(2:Int),0,0⟩:Ko):Ko)) Q0m rfl Q4v rfl rfl rfl) ?_;refine z [31,1,8,12,10] ?_;exact rt []
 refine z [2,41,31,1] ?_;refine c ?_ ?_
 . refine sjq (λs38=>[(4,bl s38),(5,.own 101)]) (λs38=>[(101,.bx 164 (Vg y1))]) ?_ ?_
   . intro j36 hj37
     refine z [6,33,36,33,36] ?_;refine cb (ca Qe3) λr39=>?_;refine z [30] ?_;refine sifd 56 rfl ?_ ?_
     . refine z [22,22,22,38,31,1] ?_;exact sj (hj37 _) (eR [(101,101)])
     refine z [23,23,23,37,31,1] ?_;exact sj (hj37 _) (eR [(101,101)])
   intro s38
   refine z [8,12,10] ?_;exact rt []
 refine z [2,41,31,1] ?_;refine c ?_ ?_
 . refine sjq (λs45=>[(4,bl s45),(5,.own 101)]) (λs45=>[(101,.bx 164 (Vg y1))]) ?_ ?_
   . intro j43 hj44
     refine z [6,33,36,33,36] ?_;refine cb (ca Qe3) λr46=>?_;refine z [30] ?_;refine sifd 68 rfl ?_ ?_
     . refine z [22,22,22,38,31,1] ?_;exact sj (hj44 _) (eR [(101,101)])
     refine z [23,23,23,37,31,1] ?_;exact sj (hj44 _) (eR [(101,101)])
   intro s45
   refine z [8,12,10] ?_;exact rt []
 refine z [2,41,31,1] ?_;refine c ?_ ?_
 . refine z [2,33,36,41,31,1,8,12,10] ?_;exact rt []
 refine z [2,41,31,1] ?_;refine c ?_ ?_
 . refine sjq (λs50=>[(4,bl s50),(5,.own 101)]) (λs50=>[(101,.bx 164 (Vg y1))]) ?_ ?_
   . intro j48 hj49
     refine z [6,33,36,57,30] ?_;refine sifd 83 rfl ?_ ?_
     . refine z [22,22,22,38,31,1] ?_;exact sj (hj49 _) (eR [(101,101)])
     refine z [23,23,23,37,31,1] ?_;exact sj (hj49 _) (eR [(101,101)])
   intro s50
   refine z [8,12,10] ?_;exact rt []
 refine z [9,11,4,2,32] ?_;refine cb (ca Qsq) λr51=>?_;refine z [39,41,31,1,8] ?_;exact rt []
theorem Q0z{n:Nat}{x0}:∀ r,Qji n x0=some r->FnOk Tryz.prog 189 [K8 x0] [] (i64 r) []:=by
 unfold Qji
 refine fs Tryz.func189 λw S0 γ hγ=>?_;refine z [2] ?_;refine o (bx' 100) ?_;refine z [31,1,5,2,32] ?_;refine cb (ca Q0x) λr1=>?_;refine z [44,1] ?_;refine c ?_ ?_
 . refine z [2,31,1,8,10] ?_;exact rt []
 refine z [9,4,5,2,33,36,39,30,1,7] ?_;refine srN (λs10=>[(1,.own 100),(2,i64 (0:Int))]) (λs10=>[(100,.bx 43 (K8 x0))]) (rE (eR [(100,100)])) ?_ ?_
 . intro i11 x12 s10 hx13
   refine z [7,2,30,31,1,2,32,30] ?_;refine cb (ca Q3s) λr14=>?_;refine z [44,1] ?_;refine c ?_ ?_
   . refine z [2,30,31,1,8,12] ?_;refine sU ?_;refine z [12,10] ?_;exact rt []
   refine z [9,11] ?_;exact sgo (eR [(100,100)])
 intro s16
 refine z [13,4,5,2,33,36,39,30,1,7] ?_;refine srN (λs24=>[(1,.own 100),(2,i64 (0:Int)),(22,sli 1 (List.map i64 x0.Outs))]) (λs24=>[(100,.bx 43 (K8 x0))]) (rE (eR [(100,100)])) ?_ ?_
 . intro i25 x26 s24 hx27
   refine z [7,2,43,42,31,1,2,30,33,36,39] ?_;refine cb (ca Qe3) λr28=>?_;refine z [44,1] ?_;refine c ?_ ?_
   . refine z [2,33,36,39,31,1,8,12] ?_;refine sU ?_;refine z [12,10] ?_;exact rt []
   refine z [9,11] ?_;exact sgo (eR [(100,100)])
 intro s30
 refine z [13,4,2,31,1,8] ?_;exact rt []
theorem Qnd{n:Nat}{x0}:∀ r,Qa3 n x0=some r->FnOk Tryz.prog 121 [K8 x0] [] (bl r) []:=by
 unfold Qa3
 refine fs Tryz.func121 λw S0 γ hγ=>?_;refine z [2] ?_;refine o (bx' 100) ?_;refine z [31,1,2,32] ?_;refine cb (ca Q0z) λr1=>?_;refine z [41,31,1,8] ?_;exact rt []
theorem Qp2{n:Nat}{x0}:∀ r,Qcz n x0=some r->FnOk Tryz.prog 122 [Jm x0] [] (bl r) []:=by
 unfold Qcz
 refine fs Tryz.func122 λw S0 γ hγ=>?_;refine z [2] ?_;refine o (bx' 100) ?_;refine z [31,1,2,32] ?_;refine cb (ca Qp1) λr1=>?_;refine z [41,31,1,8] ?_;exact rt []
theorem Qsr{n:Nat}{x0}:∀ r,Qc6 n x0=some r->FnOk Tryz.prog 65 [Jg x0] [] (bl r) []:=by
 unfold Qc6
 refine fs Tryz.func65 λw S0 γ hγ=>?_;refine z [2] ?_;refine o (bx' 100) ?_;refine z [31,1] ?_;refine sjq (λs7=>[(2,bl s7)]) (λs7=>[]) ?_ ?_
 . intro j5 hj6
   refine z [6,33,36] ?_;refine cb (ca Qnd) λr8=>?_;refine z [30] ?_;refine sifd 6 rfl ?_ ?_
   . refine z [22,22] ?_;refine b λr10 h11=>?_;refine og' (c0 (Qp2 _ h11)) ?_;refine z [38,30] ?_;refine sifd 11 rfl ?_ ?_
     . refine z [22,22,22,22,22,22,22,38,31,1] ?_;exact sj (hj6 _) (eR [])
     refine z [23,23,23,23,23,23,23,37,31,1] ?_;exact sj (hj6 _) (eR [])
   refine z [23,23,23,37,30,23,23,23,23,23,23,23,37,31,1] ?_;exact sj (hj6 _) (eR [])
 intro s7
 refine z [8] ?_;exact rt []
theorem Qxg{n:Nat}{x0}:∀ r,Qe0 n x0=some r->FnOk Tryz.prog 191 [sli 3 (List.map Qd x0)] [] (bl r) []:=by
 unfold Qe0
 refine fs Tryz.func191 λw S0 γ hγ=>?_;refine z [2,31,1,5,2,30,39,30,1,7] ?_;refine srN (λs17=>[(2,bl false),(5,sli 3 (List.map Qd x0))]) (λs17=>[]) (rE eI) ?_ ?_
 . intro i18 x19 s17 hx20
   refine z [7,2,43,42] ?_;refine o (al' 100) ?_;refine z [34,1] ?_;refine sjq (λs27=>[(2,bl false),(5,sli 3 (List.map Qd x0)),(6,i64 (x0.length:Int)),(7,i64 (i18:Int)),(18,bl s27)]) (λs27=>[]) ?_ ?_
   . intro j25 hj26
     refine z [6,32] ?_;refine cb (ca Qm9) λr28=>?_;refine z [44,30] ?_;refine sifd 14 rfl ?_ ?_
     . refine z [23,23,23,38,1] ?_;exact sj (hj26 _) (eR [])
     refine z [22] ?_;refine b λr30 h31=>?_;refine og' (c0 (Qpe _ h31)) ?_;refine z [22,37,1] ?_;exact sj (hj26 _) (eR [])
   intro s27
   refine c ?_ ?_
   . refine z [2,31,1,8,12] ?_;refine sU ?_;refine z [12,10] ?_;exact rt []
   refine z [9,11] ?_;exact sgo eI
 intro s32
 refine z [13,4,2,31,1,8] ?_;exact rt []
theorem Qh5{n:Nat}{x0}:∀ r,Qaz n x0=some r->FnOk Tryz.prog 68 [Qd x0] [] (i64 r) []:=by
 unfold Qaz
 refine fs Tryz.func68 λw S0 γ hγ=>?_;refine z [2] ?_;refine o (bx' 100) ?_;refine z [31,1,2,32] ?_;refine cb (ca Xu) λr1=>?_;refine z [30,35,35] ?_;refine o (al' 101) ?_;refine z [34,31,1,2,32] ?_;refine cb (ca Qg3) λr3=>?_;refine z [31,1,8] ?_;exact rt []
theorem Qne{n:Nat}{x0}:∀ r,Qc7 n x0=some r->FnOk Tryz.prog 192 [Qd x0] [] (bl r) []:=by
 unfold Qc7
 refine fs Tryz.func192 λw S0 γ hγ=>?_;refine z [2] ?_;refine o (bx' 100) ?_;refine z [31,1,2,32] ?_;refine cb (ca Qh5) λr1=>?_;refine z [47,31,1,8] ?_;exact rt []
theorem Q00{n:Nat}{x0}:∀ r,Qju n x0=some r->FnOk Tryz.prog 123 [Vv x0] [] (i64 r) []:=by
 unfold Qju
 refine fs Tryz.func123 λw S0 γ hγ=>?_;refine z [2] ?_;refine o (bx' 100) ?_;refine z [31,1,2] ?_;refine cb (ca V7) λr1=>?_;refine o (al' 101) ?_;refine z [34,1,5,7,2,33,36,33,36,33,36,33,36,33,36] ?_
 refine so (bsl (y:=102) (ls:=List.map Qd ([x0.Tol,x0.Safe,x0.Low,x0.High,x0.Least]:List Qb)) Tryz.underlying44 ti_53.h rfl rfl rfl rfl rfl ⟨rfl,rfl,(by exact rfl),(by exact rfl),rfl,rfl,(by exact rfl),(by exact rfl),rfl,rfl,(by exact rfl),(by exact rfl),rfl,rfl,(by exact rfl),(by exact rfl),rfl,rfl,(by exact rfl),(by exact rfl),trivial⟩ rfl rfl) ?_
 refine b λr3 h4=>?_
 refine s1 (callL (em:=[]) [102] [] [] [] rfl (Qxg _ h4) trivial (pl_bl) ⟨.inr ⟨102,rfl,.inl ⟨rfl,.inl ⟨_,_,_,rfl,J7 (f:=Qd) (λ_=>J4) ([x0.Tol,x0.Safe,x0.Low,x0.High,x0.Least]:List Qb),rfl⟩⟩⟩,trivial⟩ (λ_ _ h=>by cases h) trivial rfl trivial trivial rfl trivial trivial trivial (rn_id (if_bl)) rfl) ?_
 refine z [44,31,1] ?_;refine c ?_ ?_
 . refine z [2,31,1,8,12,10] ?_;exact rt []
 refine z [2,33,36] ?_;refine cb (ca Qh5) λr5=>?_;refine z [46,31,1] ?_;refine c ?_ ?_
 . refine z [2,31,1,8,12,10] ?_;exact rt []
 refine sjq (λs13=>[(1,.own 100),(2,i64 (0:Int)),(3,.own 101),(24,bl s13)]) (λs13=>[(100,.bx 55 (Vv x0)),(101,.bx 53 (Qd r1))]) ?_ ?_
 . intro j11 hj12
   refine z [6,33,36] ?_;refine cb (ca Qne) λr14=>?_;refine z [44,30] ?_;refine sifd 29 rfl ?_ ?_
   . refine z [23,23,23,23,23,38,31,1] ?_;exact sj (hj12 _) (eR [(100,100),(101,101)])
   refine z [22,22,22] ?_;refine b λr16 h17=>?_;refine og' (c0 (Qbd _ h17)) ?_;refine z [22,37,31,1] ?_;exact sj (hj12 _) (eR [(100,100),(101,101)])
 intro s13
 refine c ?_ ?_
 . refine z [2,31,1,8,12,10] ?_;exact rt []
 refine sjq (λs24=>[(1,.own 100),(2,i64 (0:Int)),(3,.own 101),(36,bl s24)]) (λs24=>[(100,.bx 55 (Vv x0)),(101,.bx 53 (Qd r1))]) ?_ ?_
 . intro j22 hj23
   refine z [6,33,36] ?_;refine cb (ca Qne) λr25=>?_;refine z [44,30] ?_;refine sifd 41 rfl ?_ ?_
   . refine z [23,23,23,23,23,38,31,1] ?_;exact sj (hj23 _) (eR [(100,100),(101,101)])
   refine z [22,22,22] ?_;refine b λr27 h28=>?_;refine og' (c0 (Qbd _ h28)) ?_;refine z [22,37,31,1] ?_;exact sj (hj23 _) (eR [(100,100),(101,101)])
 intro s24
 refine c ?_ ?_
 . refine z [2,31,1,8,12,10] ?_;exact rt []
 refine z [2,33,36,32] ?_;refine cb (ca Qbd) λr29=>?_;refine z [46,31,1] ?_;refine c ?_ ?_
 . refine z [2,31,1,8,12,10] ?_;exact rt []
 refine z [2,33,36] ?_;refine cb (ca Qne) λr31=>?_;refine z [44,31,1] ?_;refine c ?_ ?_
 . refine z [2,31,1,8,12,10] ?_;exact rt []
 refine sjq (λs35=>[(1,.own 100),(2,i64 (0:Int)),(59,bl s35)]) (λs35=>[(100,.bx 55 (Vv x0))]) ?_ ?_
 . intro j33 hj34
   refine z [6,33,36,46,30] ?_;refine sifd 63 rfl ?_ ?_
   . refine z [23,23,23,38,31,1] ?_;exact sj (hj34 _) (eR [(100,100)])
   refine z [22,22,22,37,31,1] ?_;exact sj (hj34 _) (eR [(100,100)])
 intro s35
 refine c ?_ ?_
 . refine z [2,31,1,8,12,10] ?_;exact rt []
 refine sjq (λs38=>[(2,i64 (0:Int)),(68,bl s38)]) (λs38=>[]) ?_ ?_
 . intro j36 hj37
   refine z [6,33,36,46,30] ?_;refine sifd 72 rfl ?_ ?_
   . refine z [23,23,23,38,31,1] ?_;exact sj (hj37 _) (eR [])
   refine z [22,22,22,37,31,1] ?_;exact sj (hj37 _) (eR [])
 intro s38
 refine c ?_ ?_
 . refine z [2,31,1,8,12,10] ?_;exact rt []
 refine z [9,11,4,2,31,1,8] ?_;exact rt []
theorem Q01{n:Nat}{x0}:∀ r,Qgz n x0=some r->FnOk Tryz.prog 66 [Vv x0] [] (bl r) []:=by
 unfold Qgz
 refine fs Tryz.func66 λw S0 γ hγ=>?_;refine z [2] ?_;refine o (bx' 100) ?_;refine z [31,1,2,32] ?_;refine cb (ca Q00) λr1=>?_;refine z [41,31,1,8] ?_;exact rt []
theorem Ql1{n:Nat}{x0}:∀ r,Qbj n x0=some r->FnOk Tryz.prog 16 [Ke x0] [] (bl r) []:=by
 unfold Qbj
 refine fs Tryz.func16 λw S0 γ hγ=>?_;refine z [2] ?_;refine o (bx' 100) ?_;refine z [31,1] ?_;refine sjq (λs11=>[(2,bl s11)]) (λs11=>[]) ?_ ?_
 . intro j9 hj10
   refine z [6,33,36] ?_;refine cb (ca Qsr) λr12=>?_;refine z [30] ?_;refine sifd 6 rfl ?_ ?_
   . refine z [22,22] ?_;refine b λr14 h15=>?_;refine og' (c0 (Q01 _ h15)) ?_;refine z [38,30] ?_;refine sifd 11 rfl ?_ ?_
     . refine z [22,22,22,22,22,22,22,22,38,30] ?_;refine sifd 21 rfl ?_ ?_
       . refine z [22,22,22,22] ?_;refine b λr16 h17=>?_;refine og' (c0 (Qbd _ h17)) ?_;refine z [22,38,30] ?_;refine sifd 29 rfl ?_ ?_
         . refine z [22,22] ?_;refine b λr18 h19=>?_;refine og' (c0 (Qh5 _ h19)) ?_;refine z [22,38,31,1] ?_;exact sj (hj10 _) (eR [])
         refine z [23,23,23,23,37,31,1] ?_;exact sj (hj10 _) (eR [])
       refine z [23,23,23,23,23,23,37,30,23,23,23,23,37,31,1] ?_;exact sj (hj10 _) (eR [])
     refine z [23,23,23,23,23,23,23,23,37,30,23,23,23,23,23,23,37,30,23,23,23,23,37,31,1] ?_;exact sj (hj10 _) (eR [])
   refine z [23,23,23,37,30,23,23,23,23,23,23,23,23,37,30,23,23,23,23,23,23,37,30,23,23,23,23,37,31,1] ?_;exact sj (hj10 _) (eR [])
 intro s11
 refine z [8] ?_;exact rt []
theorem Qfp{n:Nat}{x0}{x1}:∀ r,Qae n x0 x1=some r->FnOk Tryz.prog 102 [Qd x0,Qd x1] [] (Qd r) []:=by
 unfold Qae
 refine fs Tryz.func102 λw S0 γ hγ=>?_;refine z [2] ?_;refine o (bx' 100) ?_;refine o (bx' 101) ?_;refine o (al' 102) ?_;refine z [1,2,32] ?_;refine cb (ca Xu) λr1=>?_;refine z [30,35,35] ?_;refine o (al' 103) ?_;refine z [34,31,1,2,32] ?_;refine cb (ca Xu) λr3=>?_;refine z [30,35,35] ?_;refine o (al' 104) ?_;refine z [34,31,1,2,32,32] ?_;refine cb (ca Qpf) λr5=>?_;refine z [30,30] ?_;refine cb (ca Qd5) λr7=>?_;refine cb (ca Qdl) λr9=>?_;refine z [34,1,8] ?_;exact rt []
theorem Qla{n:Nat}{x0}{x1}:∀ r,Qby n x0 x1=some r->FnOk Tryz.prog 52 [Qd x0,sli 3 (List.map Qd x1)] [] (.own 50) [(50,.sl 53 3 (List.map Qd r))]:=by
 unfold Qby
 refine fs Tryz.func52 λw S0 γ hγ=>?_;refine z [2] ?_;refine o (bx' 100) ?_;refine s1 (asg rfl (kLm (k:=3) Qd)) ?_;refine z [1,2] ?_;refine so (asgN (y:=101) (E:=53) (k:=3) rfl rfl) ?_;refine z [1,5,2,30,39,30,1,7] ?_;refine srN (λs18=>[(2,.own 100),(4,sli 3 (List.map Qd ([]:List Qb))),(5,.own 101),(8,sli 3 (List.map Qd x1))]) (λs18=>[(100,.bx 53 (Qd x0)),(101,.sl 53 3 (List.map Qd s18))]) (rE (eR [(100,100),(101,101)])) ?_ ?_
 . intro i19 x20 s18 hx21
   refine z [7,2,43,42] ?_;refine o (al' 102) ?_;refine z [34,1,6,30,32,32] ?_;refine cb (ca Qfp) λr22=>?_
   refine so (bsl (y:=103) (ls:=List.map Qd ([r22]:List Qb)) Tryz.underlying44 ti_53.h rfl rfl rfl rfl rfl ⟨rfl,rfl,(by exact rfl),(by exact rfl),trivial⟩ rfl rfl) ?_
   refine b λy24 h25=>?_;refine o (app' 104) ?_;refine z [31,3,11] ?_;exact sgo (eR [(100,100),(101,104)])
 intro s26
 refine z [13,4,2,30,31,1,8] ?_;exact rt [(50,101)]
theorem Qph{n:Nat}{x0_k}{x0_h_Tries}{x0_h_T}{x0_h_Y}{x0_want}:∀ r,Yd n x0_k x0_h_Tries x0_h_T x0_h_Y x0_want=some r->FnOk Tryz.prog 54 [.own 0] [(0,.bx 119 (.agg [Ke x0_k,.agg [.own 1,Qd x0_h_T,sli 3 (List.map Qd x0_h_Y)],Qd x0_want])),(1,.sl 82 14 (List.map Kq x0_h_Tries))] (bl r) [(0,.bx 119 (.agg [Ke x0_k,.agg [.own 1,Qd x0_h_T,sli 3 (List.map Qd x0_h_Y)],Qd x0_want])),(1,.sl 82 14 (List.map Kq x0_h_Tries))]:=by
 unfold Yd
 refine fs Tryz.func54 λw S0 γ hγ=>?_;refine z [2,31,1,5] ?_;refine b λr1 h2=>?_;refine sd ?_;refine zd [[],[0],[0],[],[0],[],[0],[0],[],[0]] ?_;refine dd [] (λ_ _ _ _=>c0 (Qeg _ h2)) ?_;refine zd [[]] ?_;refine de fol ?_;refine z [4,8] ?_;exact rt [(0,0),(1,1)]
theorem Q02{n:Nat}{x0}{x1}:∀ r,Qgx n x0 x1=some r->FnOk Tryz.prog 103 [Vv x0,Qd x1] [] (bl r) []:=by
 unfold Qgx
 refine fs Tryz.func103 λw S0 γ hγ=>?_;refine z [2] ?_;refine o (bx' 100) ?_;refine o (bx' 101) ?_;refine z [31,1,2,32,33,36] ?_;refine cb (ca Qbd) λr1=>?_;refine z [46,31,1,8] ?_;exact rt []
theorem Qp3{n:Nat}{x0_k}{x0_h_Tries}{x0_h_T}{x0_h_Y}{x0_want}:∀ r,Wr n x0_k x0_h_Tries x0_h_T x0_h_Y x0_want=some r->FnOk Tryz.prog 55 [.own 0] [(0,.bx 119 (.agg [Ke x0_k,.agg [.own 1,Qd x0_h_T,sli 3 (List.map Qd x0_h_Y)],Qd x0_want])),(1,.sl 82 14 (List.map Kq x0_h_Tries))] (Qp r) [(0,.bx 119 (.agg [Ke x0_k,.agg [.own 1,Qd x0_h_T,sli 3 (List.map Qd x0_h_Y)],Qd x0_want])),(1,.sl 82 14 (List.map Kq x0_h_Tries))]:=by
 unfold Wr
 refine fs Tryz.func55 λw S0 γ hγ=>?_;refine z [2] ?_;refine o (al' 100) ?_;refine z [1,2,30,48,33,45,36,55,31,1,5,7,2,30,30,48,33,45,45,36,41,31,1] ?_;refine c ?_ ?_
 . refine z [2,30,40] ?_;refine s1 (bld (l:=[i64 (5:Int),i64 (wrap64 ((x0_h_Tries.length:Int)+(1:Int))),i64 0,i64 0]) pl_63.h ti_63.h Qt ⟨_,_,_,(kI (x:=5) rfl),rfl,rfl,rfl,(szk (k:=1) rfl rfl),⟨_,_,_,rfl,rfl,rfl,rfl,(szk (k:=1) rfl rfl),rfl⟩⟩ rfl) ?_;refine z [34,1,8,12,10] ?_;exact rt [(0,0),(1,1)]
 refine z [5] ?_;refine b λr1 h2=>?_;refine sd ?_;refine zd [[],[0],[0],[],[0],[],[0],[0],[0]] ?_;refine dd [] (λ_ _ _ _=>c0 (Q02 _ h2)) ?_;refine zd [[]] ?_;refine de fol ?_;refine z [4] ?_;refine c ?_ ?_
 . refine z [2,30,40] ?_;refine s1 (bld (l:=[i64 (4:Int),i64 (wrap64 ((x0_h_Tries.length:Int)+(1:Int))),i64 0,i64 0]) pl_63.h ti_63.h Qt ⟨_,_,_,(kI (x:=4) rfl),rfl,rfl,rfl,(szk (k:=1) rfl rfl),⟨_,_,_,rfl,rfl,rfl,rfl,(szk (k:=1) rfl rfl),rfl⟩⟩ rfl) ?_;refine z [34,1,8,12,10] ?_;exact rt [(0,0),(1,1)]
 refine z [9,11,4,2] ?_;refine s1 (bld (l:=[i64 0,i64 0,i64 0,i64 0]) pl_63.h ti_63.h Qt rfl rfl) ?_;refine z [34,1,8] ?_;exact rt [(0,0),(1,1)]
theorem Qp4{x0}{x1}:∀ r,Ye x0 x1=some r->FnOk Tryz.prog 53 [Qp x0,.own 0] [(0,.bx 63 (Qp x1))] (bl r.1) [(0,.bx 63 (Qp r.2))]:=by
 unfold Ye
 refine fs Tryz.func53 λw S0 γ hγ=>?_;refine z [2] ?_;refine o (bx' 100) ?_;refine z [31,1,2,32,34,1,2,32] ?_;refine s1 (bld (l:=[i64 0,i64 0,i64 0,i64 0]) pl_63.h ti_63.h Qt rfl rfl) ?_;refine s1 (neA (p:=(x0:Qe)) (q:=((⟨0,0,0,0⟩:Qe):Qe)) K4 rfl eg_63 rfl rfl rfl) ?_;refine z [31,1,8] ?_;exact rt [(0,0)]
theorem Qvu{n:Nat}{x0}{x1}:∀ r,Qhb n x0 x1=some r->FnOk Tryz.prog 29 [Qd x0,Qd x1] [] (Qd r) []:=by
 unfold Qhb
 refine fs Tryz.func29 λw S0 γ hγ=>?_;refine z [2] ?_;refine o (bx' 100) ?_;refine o (bx' 101) ?_;refine o (al' 102) ?_;refine z [1,2,32] ?_;refine cb (ca Xu) λr1=>?_;refine z [30,35,35] ?_;refine o (al' 103) ?_;refine z [34,31,1,2,32] ?_;refine cb (ca Xu) λr3=>?_;refine z [30,35,35] ?_;refine o (al' 104) ?_;refine z [34,31,1,5] ?_;refine b λr5 h6=>?_;refine b λr7 h8=>?_;refine b λr9 h10=>?_;refine b λr11 h12=>?_;refine b λr13 h14=>?_;refine sd ?_;refine zd [[103],[]] ?_;refine dd [] (λ_ _ _ _=>c0 (Qdb _ h6)) ?_;refine zd [[104],[]] ?_;refine dd [] (λ_ _ _ _=>c0 (Qdb _ h8)) ?_;refine dd [] (λ_ _ _ _=>c0 (Qk8 _ h10)) ?_;refine zd [[],[]] ?_;refine dd [] (λ_ _ _ _=>c0 (Qd5 _ h12)) ?_;refine dd [] (λ_ _ _ _=>c0 (Qdl _ h14)) ?_;refine zd [[102]] ?_;refine de fol ?_;refine z [4,8] ?_;exact rt []
theorem Q3t{n:Nat}{x0}{x1}{x2}:∀ r,Qjh n x0 x1 x2=some r->FnOk Tryz.prog 104 [Qd x0,Qd x1,Qd x2] [] (Qd r) []:=by
 unfold Qjh
 refine fs Tryz.func104 λw S0 γ hγ=>?_;refine z [2] ?_;refine o (bx' 100) ?_;refine o (bx' 101) ?_;refine o (bx' 102) ?_;refine o (al' 103) ?_;refine z [1,2,32,32] ?_;refine cb (ca Qvu) λr1=>?_;refine o (al' 104) ?_;refine z [34,1,5,2,32,32] ?_;refine cb (ca Qbd) λr3=>?_;refine z [47,1] ?_;refine c ?_ ?_
 . refine z [2,32,34,1,8,10] ?_;exact rt []
 refine z [9,4,2,32] ?_;refine cb (ca Wh) λr5=>?_;refine z [34,1,8] ?_;exact rt []
theorem Que{x0}:∀ r,Qf8 x0=some r->FnOk Tryz.prog 170 [i64 x0] [] (.own 50) [(50,.bx 298 (Qs r))]:=by
 unfold Qf8
 refine fs Tryz.func170 λw S0 γ hγ=>?_;refine z [2,31,1,2,30,88,89] ?_;refine s1 (bld (l:=[Qly (⟨0,0⟩:Qac),i64 (min (max x0 (0:Int)) (4096:Int))]) Q9r.h Q9q.h Qxa ⟨_,_,_,rfl,rfl,rfl,rfl,(szk (k:=1) rfl rfl),rfl⟩ rfl) ?_;refine o (bx' 100) ?_;refine z [31,1,8] ?_;exact rt [(50,100)]
theorem Q3u{n:Nat}{x0}:∀ r,Qhd n x0=some r->FnOk Tryz.prog 302 [i64 x0] [] (.own 50) [(50,.sl 53 3 (List.map Qd r))]:=by
 unfold Qhd
 refine fs Tryz.func302 λw S0 γ hγ=>?_;refine z [2] ?_;refine s1 (asg rfl (kLm (k:=3) Qd)) ?_;refine z [1,2,30,88,89,31,1,2,30] ?_;refine b λy1 h2=>?_;refine so (mks (y:=100) (f:=Qd) h2 Tryz.underlying44 ti_53.h Jz rfl rfl rfl rfl rfl rfl) ?_;refine z [31,1,5,2,30,30,1,7] ?_;refine sloopE 0 (λt=>t) (λs15=>[(2,sli 3 (List.map Qd ([]:List Qb))),(3,.own 100),(10,i64 (min (max x0 (0:Int)) (300:Int))),(11,i64 s15.2)]) (λs15=>[(100,.sl 53 3 (List.map Qd s15.1))]) (λt13=>[(2,sli 3 (List.map Qd ([]:List Qb))),(3,.own 100)]) (λt13=>[(100,.sl 53 3 (List.map Qd t13))]) (eR [(100,100)]) ?_ ?_
 . intro hj14 s15
   refine z [2,46,1,5] ?_;refine c ?_ ?_
   . refine z [9,4,5,7,2,30,31,1,6,30,30] ?_;refine cb (ca V7) λr16=>?_;refine b λy18 h19=>?_;refine z [50,53,3,11,4,6,40,30,3] ?_;exact sgo (eR [(100,100)])
   refine z [14,15] ?_;exact su (sj (hj14 _) (eR [(100,100)]))
 intro t13
 refine z [13,4,2,30,31,1,8] ?_;exact rt [(50,100)]
theorem Q03{n:Nat}{x0}{x1}{x2}:∀ r,Qjn n x0 x1 x2=some r->FnOk Tryz.prog 266 [sli 3 (List.map Qd x0),.own 0,i64 x2] [(0,.sl 44 1 (List.map Qj x1))] (.tup [sli 3 (List.map Qd r.1),bl r.2]) [(0,.sl 44 1 (List.map Qj x1))]:=by
 unfold Qjn
 refine fs Tryz.func266 λw S0 γ hγ=>?_;refine z [2] ?_;refine s1 (asg rfl (kLm (k:=3) Qd)) ?_;refine z [31,1,5] ?_;refine sjq (λs3=>[(0,sli 3 (List.map Qd x0)),(1,.own 0),(2,i64 x2),(6,sli 3 (List.map Qd ([]:List Qb))),(7,bl false),(27,bl s3)]) (λs3=>[(0,.sl 44 1 (List.map Qj x1))]) ?_ ?_
 . intro j1 hj2
   refine z [6,30,39,30,55,56,30] ?_;refine sifd 20 rfl ?_ ?_
   . refine z [23,23,38,30,23,23,38,1] ?_;exact sj (hj2 _) (eR [(0,0)])
   refine z [22,22,37,30] ?_;refine sifd 24 rfl ?_ ?_
   . refine z [23,23,38,1] ?_;exact sj (hj2 _) (eR [(0,0)])
   refine z [22,22,37,1] ?_;exact sj (hj2 _) (eR [(0,0)])
 intro s3
 refine c ?_ ?_
 . refine z [2] ?_;refine s1 (asg rfl (kLm (k:=3) Qd)) ?_;refine z [31,1,8,10] ?_;exact rt [(0,0)]
 refine z [9,4,5,2,30,55,30,1,7] ?_;refine srN (λs9=>[(0,sli 3 (List.map Qd x0)),(1,.own 0),(2,i64 x2),(6,sli 3 (List.map Qd ([]:List Qb))),(7,bl false),(28,.own 0)]) (λs9=>[(0,.sl 44 1 (List.map Qj x1))]) (rE (eR [(0,0)])) ?_ ?_
 . intro i10 x11 s9 hx12
   refine z [7,2,50,51,31,1,2,30,39,30,56,1] ?_;refine c ?_ ?_
   . refine z [2] ?_;refine s1 (asg rfl (kLm (k:=3) Qd)) ?_;refine z [31,1,8,12] ?_;refine sU ?_;refine z [12,10] ?_;exact rt [(0,0)]
   refine z [9,11] ?_;exact sgo (eR [(0,0)])
 intro s13
 refine z [13,4,2,30] ?_;refine b λr14 h15=>?_;refine o (cG (Q3u _ h15) [] [(100,50)] []) ?_;refine z [31,1,5,2,30,55,30,1,7] ?_;refine srN (λs107=>[(0,sli 3 (List.map Qd x0)),(6,sli 3 (List.map Qd ([]:List Qb))),(7,bl false),(10,.own 100),(41,.own 0)]) (λs107=>[(0,.sl 44 1 (List.map Qj x1)),(100,.sl 53 3 (List.map Qd s107))]) (rE (eR [(0,0),(100,100)])) ?_ ?_
 . intro i108 x109 s107 hx110
   refine z [7,2,30,50,51,31,31,1,5,2,30,30] ?_;refine b λy111 h112=>?_;refine z [43,42] ?_;refine cb (ca Qh5) λr113=>?_;refine z [41,1] ?_;refine c ?_ ?_
   . refine z [14,15,13] ?_;exact sgo (eR [(0,0),(100,100)])
   refine z [9,4,2,30,39,30,1,7] ?_;refine srN (λs130=>[(0,sli 3 (List.map Qd x0)),(6,sli 3 (List.map Qd ([]:List Qb))),(7,bl false),(10,.own 100),(11,i64 (i108:Int)),(41,.own 0),(42,i64 (x1.length:Int)),(43,i64 (i108:Int)),(54,sli 3 (List.map Qd x109))]) (λs130=>[(0,.sl 44 1 (List.map Qj x1)),(100,.sl 53 3 (List.map Qd s130))]) (rE (eR [(0,0),(100,100)])) ?_ ?_
   . intro i131 x132 s130 hx133
     refine z [7,2,30,43,42] ?_;refine o (al' 101) ?_;refine z [31,34,1] ?_;refine b λy134 h135=>?_;refine b λy136 h137=>?_;refine b λr138 h139=>?_;refine b λr140 h141=>?_;refine b λy142 h143=>?_;refine sd ?_;refine zd [[],[],[],[]] ?_;refine dx [63,64] [100] (λst mm ⟨a63,a64,_⟩ ⟨g100,_⟩=>og (ixO (f:=Qd) (g100.trans rfl) Tryz.underlying44 ti_53.h h135 rfl (a63.trans rfl) (a64.trans rfl))) ?_
     refine dx [65] [100] (λst mm ⟨a65,_⟩ ⟨g100,_⟩=>og (ldO (f:=Qd) [] (g100.trans rfl) (Qbh h135) (by exact rfl) off0 sh_53.h (by exact rfl) (by exact rfl) rfl (a65.trans rfl))) ?_
     refine zd [[],[],[],[],[101]] ?_;refine dd [] (λ_ _ _ _=>c0 (Qfp _ h139)) ?_;refine dd [] (λ_ _ _ _=>c0 (Qhe _ h141)) ?_;refine dx [61,62] [100] (λst mm ⟨a61,a62,_⟩ ⟨g100,_⟩=>og (ixO (f:=Qd) (g100.trans rfl) Tryz.underlying44 ti_53.h h143 rfl (a61.trans rfl) (a62.trans rfl))) ?_
     refine dx [74,73] [100] (λst mm ⟨a74,a73,_⟩ ⟨g100,_⟩=>og (stO (f:=Qd) r140 [] (g100.trans rfl) (Qbh h143) (by exact rfl) off0 (by exact rfl) (by exact rfl) sh_53.h (by exact rfl) (by exact rfl) (by exact rfl) (a74.trans rfl) (a73.trans rfl))) ?_
     refine de fol ?_;refine z [11] ?_;exact sgo (eR [(0,0),(100,100)])
   intro s144
   refine z [13,11] ?_;exact sgo (eR [(0,0),(100,100)])
 intro s145
 refine z [13,4,2,30,31,31,1,8] ?_;refine fz 100 [6,10,77] [] ?_;exact rt [(0,0)]
theorem Qh6{n:Nat}{x0_p}{x0_t}{x0_h}{x0_y}{x0_g}{x0_out_Ys}{x0_out_Ks}{x0_out_Next}{x0_out_Err}{x1}:∀ r,Vq n x0_p x0_t x0_h x0_y x0_g x0_out_Ys x0_out_Ks x0_out_Next x0_out_Err x1=some r->FnOk Tryz.prog 222 [.own 0,sli 3 (List.map Qd x1)] [(0,.bx 247 (.agg [Jg x0_p,Qd x0_t,Qd x0_h,sli 3 (List.map Qd x0_y),.own 1,.agg [.own 2,.own 3,sli 3 (List.map Qd x0_out_Next),sli 3 (List.map Qd x0_out_Err)]])),(1,.bx 298 (Qs x0_g)),(2,.sl 44 1 (List.map Qj x0_out_Ys)),(3,.sl 44 1 (List.map Qj x0_out_Ks))] (sli 3 (List.map Qd r)) [(0,.bx 247 (.agg [Jg x0_p,Qd x0_t,Qd x0_h,sli 3 (List.map Qd x0_y),.own 1,.agg [.own 2,.own 3,sli 3 (List.map Qd x0_out_Next),sli 3 (List.map Qd x0_out_Err)]])),(1,.bx 298 (Qs x0_g)),(2,.sl 44 1 (List.map Qj x0_out_Ys)),(3,.sl 44 1 (List.map Qj x0_out_Ks))]:=by
 unfold Vq
 refine fs Tryz.func222 λw S0 γ hγ=>?_;refine z [2] ?_;refine s1 (asg rfl (kLm (k:=3) Qd)) ?_;refine z [1,5] ?_;refine b λr1 h2=>?_;refine sd ?_;refine zd [[],[],[0],[0],[],[0],[],[0],[0],[0],[]] ?_;refine dd [3] (λ_ _ _ _=>cG (Q03 _ h2) [3] [] [3]) ?_;refine zd [[],[],[],[],[]] ?_;refine de fol ?_;refine z [4,2,30,48,33,36,30] ?_;refine b λr3 h4=>?_;refine o (cG (Qla _ h4) [] [(100,50)] []) ?_;refine z [31,1,8] ?_;refine fz 100 [4,27] [] ?_;exact rt [(0,0),(1,1),(2,2),(3,3)]
theorem Q3v{n:Nat}{x0}:∀ r,Qjo n x0=some r->FnOk Tryz.prog 300 [sli 3 (List.map Qd x0)] [] (.own 50) [(50,.sl 53 3 (List.map Qd r))]:=by
 unfold Qjo
 refine fs Tryz.func300 λw S0 γ hγ=>?_;refine z [2] ?_;refine s1 (asg rfl (kLm (k:=3) Qd)) ?_;refine z [1,2] ?_;refine so (asgN (y:=100) (E:=53) (k:=3) rfl rfl) ?_;refine z [1,5,2,30,39,30,1,7] ?_;refine srN (λs18=>[(2,sli 3 (List.map Qd ([]:List Qb))),(3,.own 100),(6,sli 3 (List.map Qd x0))]) (λs18=>[(100,.sl 53 3 (List.map Qd s18))]) (rE (eR [(100,100)])) ?_ ?_
 . intro i19 x20 s18 hx21
   refine z [7,2,43,42] ?_;refine o (al' 101) ?_;refine z [34,1,6,30,32] ?_;refine cb (ca Wh) λr22=>?_
   refine so (bsl (y:=102) (ls:=List.map Qd ([r22]:List Qb)) Tryz.underlying44 ti_53.h rfl rfl rfl rfl rfl ⟨rfl,rfl,(by exact rfl),(by exact rfl),trivial⟩ rfl rfl) ?_
   refine b λy24 h25=>?_;refine o (app' 103) ?_;refine z [31,3,11] ?_;exact sgo (eR [(100,103)])
 intro s26
 refine z [13,4,2,30,31,1,8] ?_;exact rt [(50,100)]
theorem Qyq{n:Nat}{x0}:∀ r,Qiw n x0=some r->FnOk Tryz.prog 263 [sli 1 (List.map Qj x0)] [] (.tup [sli 3 (List.map Qd r.1),bl r.2]) []:=by
 unfold Qiw
 refine fs Tryz.func263 λw S0 γ hγ=>?_;refine z [2] ?_;refine s1 (asg rfl (kLm (k:=3) Qd)) ?_;refine z [31,1,5,2,30,39,41,1] ?_;refine c ?_ ?_
 . refine z [2] ?_;refine s1 (asg rfl (kLm (k:=3) Qd)) ?_;refine z [31,1,8,10] ?_;exact rt []
 refine z [9,4,2,30] ?_;refine b λy1 h2=>?_;refine z [43,42] ?_;refine b λr3 h4=>?_;refine o (cG (Q3v _ h4) [] [(100,50)] []) ?_;refine z [31,1,5,2,30] ?_;refine b λy5 h6=>?_;refine s1 (slR (f:=Qj) h6 Tryz.underlying45 ti_44.h rfl rfl (bnd (kI (x:=1) rfl)) bnd0) ?_;refine z [39,30,1,7] ?_;refine srN (λs70=>[(2,sli 3 (List.map Qd ([]:List Qb))),(3,bl false),(4,.own 100),(17,sli 1 (List.map Qj y5))]) (λs70=>[(100,.sl 53 3 (List.map Qd s70))]) (rE (eR [(100,100)])) ?_ ?_
 . intro i71 x72 s70 hx73
   refine z [7,2,43,42,31,1,5,2,30,39,30,55,56,1] ?_;refine c ?_ ?_
   . refine z [2] ?_;refine s1 (asg rfl (kLm (k:=3) Qd)) ?_;refine z [31,1,8,10,12] ?_;refine sU ?_;refine z [12,10] ?_;exact rt []
   refine z [9,4,2,30,39,30,1,7] ?_;refine srN (λs85=>[(2,sli 3 (List.map Qd ([]:List Qb))),(3,bl false),(4,.own 100),(17,sli 1 (List.map Qj y5)),(18,i64 (y5.length:Int)),(19,i64 (i71:Int)),(28,sli 3 (List.map Qd x72))]) (λs85=>[(100,.sl 53 3 (List.map Qd s85))]) (rE (eR [(100,100)])) ?_ ?_
   . intro i86 x87 s85 hx88
     refine z [7,2,30,43,42] ?_;refine o (al' 101) ?_;refine z [31,34,1] ?_;refine b λy89 h90=>?_;refine b λr91 h92=>?_;refine b λy93 h94=>?_;refine sd ?_;refine zd [[],[],[],[]] ?_;refine dx [37,38] [100] (λst mm ⟨a37,a38,_⟩ ⟨g100,_⟩=>og (ixO (f:=Qd) (g100.trans rfl) Tryz.underlying44 ti_53.h h90 rfl (a37.trans rfl) (a38.trans rfl))) ?_
     refine dx [39] [100] (λst mm ⟨a39,_⟩ ⟨g100,_⟩=>og (ldO (f:=Qd) [] (g100.trans rfl) (Qbh h90) (by exact rfl) off0 sh_53.h (by exact rfl) (by exact rfl) rfl (a39.trans rfl))) ?_
     refine zd [[101]] ?_;refine dd [] (λ_ _ _ _=>c0 (Qhe _ h92)) ?_;refine dx [35,36] [100] (λst mm ⟨a35,a36,_⟩ ⟨g100,_⟩=>og (ixO (f:=Qd) (g100.trans rfl) Tryz.underlying44 ti_53.h h94 rfl (a35.trans rfl) (a36.trans rfl))) ?_
     refine dx [43,42] [100] (λst mm ⟨a43,a42,_⟩ ⟨g100,_⟩=>og (stO (f:=Qd) r91 [] (g100.trans rfl) (Qbh h94) (by exact rfl) off0 (by exact rfl) (by exact rfl) sh_53.h (by exact rfl) (by exact rfl) (by exact rfl) (a43.trans rfl) (a42.trans rfl))) ?_
     refine de fol ?_;refine z [11] ?_;exact sgo (eR [(100,100)])
   intro s95
   refine z [13,11] ?_;exact sgo (eR [(100,100)])
 intro s96
 refine z [13,4,2,30,31,31,1,8] ?_;refine fz 100 [2,4,46] [] ?_;exact rt []
end Go.Proofs.YtlihkcaoachkdaaGreatDoor
