import Derived.Test.YtlihkcaoachkdaaGreatDoorGen0
import Derived.Test.YtlihkcaoachkdaaGreatDoorGenA1
import Derived.Test.YtlihkcaoachkdaaGreatDoorGenA2
set_option maxRecDepth 100000
set_option maxHeartbeats 4000000
namespace Go.Proofs.YtlihkcaoachkdaaGreatDoor
open Go Go.RowKit
theorem Qua{n:Nat}{x0}{x1}:∀ r,Qgb n x0 x1=some r->FnOk Tryz.prog 101 [Qd x0,Qd x1] [] (.tup [Qd r.1,bl r.2]) []:=by
 unfold Qgb
 refine fs Tryz.func101 λw S0 γ hγ=>?_;refine z [2] ?_;refine o (bx' 100) ?_;refine o (bx' 101) ?_;refine o (al' 102) ?_;refine z [31,1,2,32] ?_;refine cb (ca Xp) λr1=>?_;refine z [30,35,35] ?_;refine o (al' 103) ?_;refine z [34,31,1,2,32] ?_;refine cb (ca Xp) λr3=>?_;refine z [30,35,35] ?_;refine o (al' 104) ?_;refine z [34,31,1,5,2,32] ?_;refine cb (ca Qiw) λr5=>?_;refine z [41,1] ?_;refine c ?_ ?_
 . refine z [2] ?_;refine cb (ca Wc) λr7=>?_;refine z [34,31,1,8,10] ?_;exact rt []
 refine z [9,4,2,32,30] ?_;refine cb (ca Qb9) λr9=>?_;refine o (al' 105) ?_;refine z [34,1,2,33,36,33,36,75,33] ?_;refine o (stP (Q4 (⟨(r9.Neg != r3.1.Neg),r9.Abs⟩:Qf)) [0]) ?_;refine z [1,5] ?_;refine b λr11 h12=>?_;refine b λr13 h14=>?_;refine sd ?_;refine zd [[105],[],[104],[104]] ?_;refine dd [] (λ_ _ _ _=>c0 (Qcv _ h12)) ?_;refine dd [] (λ_ _ _ _=>c0 (Qck _ h14)) ?_;refine zd [[102],[]] ?_;refine de fol ?_;refine z [4,8] ?_;exact rt []
theorem Qzp{n:Nat}{x0}{x1}:∀ r,Qlw n x0 x1=some r->FnOk Tryz.prog 47 [i64 x0,i64 x1] [] (.tup [Qd r.1,bl r.2]) []:=by
 unfold Qlw
 refine fs Tryz.func47 λw S0 γ hγ=>?_;refine z [2] ?_;refine o (al' 100) ?_;refine z [31,1,2,30] ?_;refine cb (ca Wc) λr1=>?_;refine z [30] ?_;refine cb (ca Wc) λr3=>?_;refine cb (ca Qua) λr5=>?_;refine z [35,35,34,31,1,8] ?_;exact rt []
theorem Qdw{x0}{x1}:∀ r,Yg x0 x1=some r->FnOk Tryz.prog 232 [i64 x0,i64 x1] [] (bl r) []:=by
 unfold Yg
 refine fs Tryz.func232 λw S0 γ hγ=>?_;refine z [2,31,1] ?_;refine sjq (λs3=>[(4,bl s3)]) (λs3=>[]) ?_ ?_
 . intro j1 hj2
   refine z [6,30,57,30] ?_;refine sifd 7 rfl ?_ ?_
   . refine z [22,22,22,38,31,1] ?_;exact sj (hj2 _) eI
   refine z [23,23,23,37,31,1] ?_;exact sj (hj2 _) eI
 intro s3
 refine z [8] ?_;exact rt []
theorem Qzq{x0}:∀ r,Qft x0=some r->FnOk Tryz.prog 230 [Kj x0] [] (bl r) []:=by
 unfold Qft
 refine fs Tryz.func230 λw S0 γ hγ=>?_;refine z [2] ?_;refine o (bx' 100) ?_;refine z [31,1] ?_;refine sjq (λs7=>[(2,bl s7)]) (λs7=>[]) ?_ ?_
 . intro j5 hj6
   refine z [6,33,36,49] ?_;refine cb (ca Qdw) λr8=>?_;refine z [30] ?_;refine sifd 7 rfl ?_ ?_
   . refine z [22,22] ?_;refine b λr10 h11=>?_;refine og' (c0 (Qdw _ h11)) ?_;refine z [38,30] ?_;refine sifd 12 rfl ?_ ?_
     . refine z [22,22,22,22,22,22,38,30] ?_;refine sifd 20 rfl ?_ ?_
       . refine z [22,22,22,22,38,31,1] ?_;exact sj (hj6 _) (eR [])
       refine z [23,23,23,23,37,31,1] ?_;exact sj (hj6 _) (eR [])
     refine z [23,23,23,23,23,23,37,30,23,23,23,23,37,31,1] ?_;exact sj (hj6 _) (eR [])
   refine z [23,23,23,37,30,23,23,23,23,23,23,37,30,23,23,23,23,37,31,1] ?_;exact sj (hj6 _) (eR [])
 intro s7
 refine z [8] ?_;exact rt []
theorem Qxa{x0}:∀ r,Qhp x0=some r->FnOk Tryz.prog 273 [Kx x0] [] (Qjp r) []:=by
 unfold Qhp
 refine fs Tryz.func273 λw S0 γ hγ=>?_;refine z [2] ?_;refine o (bx' 100) ?_;refine o (al' 101) ?_;refine z [1,2,33,36,33,36,33,36] ?_;refine s1 (bld (l:=[i64 x0.Op,i64 x0.A,i64 x0.B]) Qzc.h Qq5.h Qfa ⟨_,_,_,rfl,rfl,rfl,rfl,(szk (k:=1) rfl rfl),⟨_,_,_,rfl,rfl,rfl,rfl,(szk (k:=1) rfl rfl),⟨_,_,_,rfl,rfl,rfl,rfl,(szk (k:=1) rfl rfl),rfl⟩⟩⟩ rfl) ?_;refine z [34,1,8] ?_;exact rt []
theorem Qzr{x0}:∀ r,Qfu x0=some r->FnOk Tryz.prog 274 [Qd x0] [] (bl r) []:=by
 unfold Qfu
 refine fs Tryz.func274 λw S0 γ hγ=>?_;refine z [2] ?_;refine o (bx' 100) ?_;refine z [31,1] ?_;refine sjq (λs3=>[(2,bl s3)]) (λs3=>[]) ?_ ?_
 . intro j1 hj2
   refine z [6,33,45,36,44,30] ?_;refine sifd 7 rfl ?_ ?_
   . refine z [22,22,22,22,22,38,30] ?_;refine sifd 14 rfl ?_ ?_
     . refine z [22,22,22,22,38,31,1] ?_;exact sj (hj2 _) (eR [])
     refine z [23,23,23,23,37,31,1] ?_;exact sj (hj2 _) (eR [])
   refine z [23,23,23,23,23,37,30,23,23,23,23,37,31,1] ?_;exact sj (hj2 _) (eR [])
 intro s3
 refine z [8] ?_;exact rt []
theorem Qrb{x0}:∀ r,Qdr x0=some r->FnOk Tryz.prog 275 [Kx x0] [] (sli 1 (List.map i64 r)) []:=by
 unfold Qdr
 refine fs Tryz.func275 λw S0 γ hγ=>?_;refine z [2] ?_;refine o (bx' 100) ?_;refine s1 (asg rfl (kLm (k:=1) i64)) ?_;refine z [1,5,2,33,36,1,7] ?_;refine sjq (λs3=>[(1,.own 100),(2,sli 1 (List.map i64 ([]:List Int))),(4,i64 x0.Op),(5,bl s3)]) (λs3=>[(100,.bx 164 (Kx x0))]) ?_ ?_
 . intro j1 hj2
   refine z [2,41,31,1] ?_;refine c ?_ ?_
   . refine z [9,4] ?_;exact sj (hj2 _) (eR [(100,100)])
   refine z [6,41,31,1] ?_;exact sj (hj2 _) (eR [(100,100)])
 intro s3
 refine c ?_ ?_
 . refine z [2,33,36] ?_
   refine so (bsl (y:=101) (ls:=List.map i64 ([x0.A]:List Int)) Tryz.underlying23 ti_3.h rfl rfl rfl rfl rfl ⟨rfl,rfl,(by exact rfl),(by exact rfl),trivial⟩ rfl rfl) ?_
   refine z [31,1,8,12,10] ?_;refine fz 101 [2,10] [] ?_;exact rt []
 refine sjq (λs6=>[(1,.own 100),(2,sli 1 (List.map i64 ([]:List Int))),(11,bl s6)]) (λs6=>[(100,.bx 164 (Kx x0))]) ?_ ?_
 . intro j4 hj5
   refine z [2,41,31,1] ?_;refine c ?_ ?_
   . refine z [9,4] ?_;exact sj (hj5 _) (eR [(100,100)])
   refine z [2,41,31,1] ?_;refine c ?_ ?_
   . refine z [9,4] ?_;exact sj (hj5 _) (eR [(100,100)])
   refine z [2,41,31,1] ?_;refine c ?_ ?_
   . refine z [9,4] ?_;exact sj (hj5 _) (eR [(100,100)])
   refine z [6,41,31,1] ?_;exact sj (hj5 _) (eR [(100,100)])
 intro s6
 refine c ?_ ?_
 . refine z [2,33,36,33,36] ?_
   refine so (bsl (y:=101) (ls:=List.map i64 ([x0.A,x0.B]:List Int)) Tryz.underlying23 ti_3.h rfl rfl rfl rfl rfl ⟨rfl,rfl,(by exact rfl),(by exact rfl),rfl,rfl,(by exact rfl),(by exact rfl),trivial⟩ rfl rfl) ?_
   refine z [31,1,8,12,10] ?_;refine fz 101 [2,20] [] ?_;exact rt []
 refine z [9,11,4,2] ?_;refine s1 (asg rfl (kLm (k:=1) i64)) ?_;refine z [1,8] ?_;exact rt []
theorem Q2p{n:Nat}{x0}{x1}:∀ r,Qga n x0 x1=some r->FnOk Tryz.prog 231 [Kj x0,i64 x1] [] (bl r) []:=by
 unfold Qga
 refine fs Tryz.func231 λw S0 γ hγ=>?_;refine z [2] ?_;refine o (bx' 100) ?_;refine z [31,1,2,33,36,30] ?_;refine b λy1 h2=>?_;refine z [43,42] ?_;refine o (al' 101) ?_;refine z [34,1,5,2,33,36,41,1] ?_;refine c ?_ ?_
 . refine sjq (λs9=>[(1,i64 x1),(2,.own 100),(4,bl s9),(5,.own 101)]) (λs9=>[(100,.bx 43 (Kj x0)),(101,.bx 164 (Kx y1))]) ?_ ?_
   . intro j7 hj8
     refine z [6,32] ?_;refine cb (ca Qxa) λr10=>?_;refine s1 (bld (l:=[i64 (1:Int),i64 0,i64 0]) Qzc.h Qq5.h Qfa ⟨_,_,_,(kI (x:=1) rfl),rfl,rfl,rfl,(szk (k:=1) rfl rfl),rfl⟩ rfl) ?_;refine s1 (eqA (p:=(r10:J6)) (q:=((⟨(1:Int),0,0⟩:J6):J6)) Qzd rfl Q3s rfl rfl rfl) ?_;refine z [30] ?_;refine sifd 20 rfl ?_ ?_
     . refine z [22,22] ?_;refine b λr12 h13=>?_;refine og' (c0 (Ql7 _ h13)) ?_;refine z [38,31,1] ?_;exact sj (hj8 _) (eR [(100,100),(101,101)])
     refine z [23,23,23,37,31,1] ?_;exact sj (hj8 _) (eR [(100,100),(101,101)])
   intro s9
   refine z [8,10] ?_;exact rt []
 refine z [9,4,5,2,33,36] ?_;refine cb (ca Qzr) λr14=>?_;refine z [44,1] ?_;refine c ?_ ?_
 . refine z [2,31,1,8,10] ?_;exact rt []
 refine z [9,4,5,2,32] ?_;refine cb (ca Qrb) λr16=>?_;refine z [39,30,1,7] ?_;refine srN (λs25=>[(1,i64 x1),(2,.own 100),(4,bl false),(5,.own 101),(30,sli 1 (List.map i64 r16))]) (λs25=>[(100,.bx 43 (Kj x0)),(101,.bx 164 (Kx y1))]) (rE (eR [(100,100),(101,101)])) ?_ ?_
 . intro i26 x27 s25 hx28
   refine z [7,2,43,42,31,1,2,30,30] ?_;refine cb (ca Qdw) λr29=>?_;refine z [44,1] ?_;refine c ?_ ?_
   . refine z [2,31,1,8,12] ?_;refine sU ?_;refine z [12,10] ?_;exact rt []
   refine z [9,11] ?_;exact sgo (eR [(100,100),(101,101)])
 intro s31
 refine z [13,4,5,2,33,36,1,7,2,41,31,1] ?_;refine c ?_ ?_
 . refine z [2,32] ?_;refine cb (ca Qxa) λr32=>?_;refine s1 (bld (l:=[i64 (2:Int),i64 0,i64 0]) Qzc.h Qq5.h Qfa ⟨_,_,_,(kI (x:=2) rfl),rfl,rfl,rfl,(szk (k:=1) rfl rfl),rfl⟩ rfl) ?_;refine s1 (eqA (p:=(r32:J6)) (q:=((⟨(2:Int),0,0⟩:J6):J6)) Qzd rfl Q3s rfl rfl rfl) ?_;refine z [31,1,8,12,10] ?_;exact rt []
 refine z [2,41,31,1] ?_;refine c ?_ ?_
 . refine sjq (λs38=>[(4,bl s38),(5,.own 101)]) (λs38=>[(101,.bx 164 (Kx y1))]) ?_ ?_
   . intro j36 hj37
     refine z [6,33,36,33,36] ?_;refine cb (ca Qdw) λr39=>?_;refine z [30] ?_;refine sifd 56 rfl ?_ ?_
     . refine z [22,22,22,38,31,1] ?_;exact sj (hj37 _) (eR [(101,101)])
     refine z [23,23,23,37,31,1] ?_;exact sj (hj37 _) (eR [(101,101)])
   intro s38
   refine z [8,12,10] ?_;exact rt []
 refine z [2,41,31,1] ?_;refine c ?_ ?_
 . refine sjq (λs45=>[(4,bl s45),(5,.own 101)]) (λs45=>[(101,.bx 164 (Kx y1))]) ?_ ?_
   . intro j43 hj44
     refine z [6,33,36,33,36] ?_;refine cb (ca Qdw) λr46=>?_;refine z [30] ?_;refine sifd 68 rfl ?_ ?_
     . refine z [22,22,22,38,31,1] ?_;exact sj (hj44 _) (eR [(101,101)])
     refine z [23,23,23,37,31,1] ?_;exact sj (hj44 _) (eR [(101,101)])
   intro s45
   refine z [8,12,10] ?_;exact rt []
 refine z [2,41,31,1] ?_;refine c ?_ ?_
 . refine z [2,33,36,41,31,1,8,12,10] ?_;exact rt []
 refine z [2,41,31,1] ?_;refine c ?_ ?_
 . refine sjq (λs50=>[(4,bl s50),(5,.own 101)]) (λs50=>[(101,.bx 164 (Kx y1))]) ?_ ?_
   . intro j48 hj49
     refine z [6,33,36,57,30] ?_;refine sifd 83 rfl ?_ ?_
     . refine z [22,22,22,38,31,1] ?_;exact sj (hj49 _) (eR [(101,101)])
     refine z [23,23,23,37,31,1] ?_;exact sj (hj49 _) (eR [(101,101)])
   intro s50
   refine z [8,12,10] ?_;exact rt []
 refine z [9,11,4,2,32] ?_;refine cb (ca Qrb) λr51=>?_;refine z [39,41,31,1,8] ?_;exact rt []
theorem Qzs{n:Nat}{x0}:∀ r,Qic n x0=some r->FnOk Tryz.prog 189 [Kj x0] [] (i64 r) []:=by
 unfold Qic
 refine fs Tryz.func189 λw S0 γ hγ=>?_;refine z [2] ?_;refine o (bx' 100) ?_;refine z [31,1,5,2,32] ?_;refine cb (ca Qzq) λr1=>?_;refine z [44,1] ?_;refine c ?_ ?_
 . refine z [2,31,1,8,10] ?_;exact rt []
 refine z [9,4,5,2,33,36,39,30,1,7] ?_;refine srN (λs10=>[(1,.own 100),(2,i64 (0:Int))]) (λs10=>[(100,.bx 43 (Kj x0))]) (rE (eR [(100,100)])) ?_ ?_
 . intro i11 x12 s10 hx13
   refine z [7,2,30,31,1,2,32,30] ?_;refine cb (ca Q2p) λr14=>?_;refine z [44,1] ?_;refine c ?_ ?_
   . refine z [2,30,31,1,8,12] ?_;refine sU ?_;refine z [12,10] ?_;exact rt []
   refine z [9,11] ?_;exact sgo (eR [(100,100)])
 intro s16
 refine z [13,4,5,2,33,36,39,30,1,7] ?_;refine srN (λs24=>[(1,.own 100),(2,i64 (0:Int)),(22,sli 1 (List.map i64 x0.Outs))]) (λs24=>[(100,.bx 43 (Kj x0))]) (rE (eR [(100,100)])) ?_ ?_
 . intro i25 x26 s24 hx27
   refine z [7,2,43,42,31,1,2,30,33,36,39] ?_;refine cb (ca Qdw) λr28=>?_;refine z [44,1] ?_;refine c ?_ ?_
   . refine z [2,33,36,39,31,1,8,12] ?_;refine sU ?_;refine z [12,10] ?_;exact rt []
   refine z [9,11] ?_;exact sgo (eR [(100,100)])
 intro s30
 refine z [13,4,2,31,1,8] ?_;exact rt []
theorem Qma{n:Nat}{x0}:∀ r,Z6 n x0=some r->FnOk Tryz.prog 121 [Kj x0] [] (bl r) []:=by
 unfold Z6
 refine fs Tryz.func121 λw S0 γ hγ=>?_;refine z [2] ?_;refine o (bx' 100) ?_;refine z [31,1,2,32] ?_;refine cb (ca Qzs) λr1=>?_;refine z [41,31,1,8] ?_;exact rt []
theorem Qok{n:Nat}{x0}:∀ r,Qby n x0=some r->FnOk Tryz.prog 122 [Jj x0] [] (bl r) []:=by
 unfold Qby
 refine fs Tryz.func122 λw S0 γ hγ=>?_;refine z [2] ?_;refine o (bx' 100) ?_;refine z [31,1,2,32] ?_;refine cb (ca Qoj) λr1=>?_;refine z [41,31,1,8] ?_;exact rt []
theorem Qrc{n:Nat}{x0}:∀ r,Qb6 n x0=some r->FnOk Tryz.prog 65 [Q7 x0] [] (bl r) []:=by
 unfold Qb6
 refine fs Tryz.func65 λw S0 γ hγ=>?_;refine z [2] ?_;refine o (bx' 100) ?_;refine z [31,1] ?_;refine sjq (λs7=>[(2,bl s7)]) (λs7=>[]) ?_ ?_
 . intro j5 hj6
   refine z [6,33,36] ?_;refine cb (ca Qma) λr8=>?_;refine z [30] ?_;refine sifd 6 rfl ?_ ?_
   . refine z [22,22] ?_;refine b λr10 h11=>?_;refine og' (c0 (Qok _ h11)) ?_;refine z [38,30] ?_;refine sifd 11 rfl ?_ ?_
     . refine z [22,22,22,22,22,22,22,38,31,1] ?_;exact sj (hj6 _) (eR [])
     refine z [23,23,23,23,23,23,23,37,31,1] ?_;exact sj (hj6 _) (eR [])
   refine z [23,23,23,37,30,23,23,23,23,23,23,23,37,31,1] ?_;exact sj (hj6 _) (eR [])
 intro s7
 refine z [8] ?_;exact rt []
theorem Qe5{n:Nat}{x0}:∀ r,Xc n x0=some r->FnOk Tryz.prog 68 [Qd x0] [] (i64 r) []:=by
 unfold Xc
 refine fs Tryz.func68 λw S0 γ hγ=>?_;refine z [2] ?_;refine o (bx' 100) ?_;refine z [31,1,2,32] ?_;refine cb (ca Xp) λr1=>?_;refine z [30,35,35] ?_;refine o (al' 101) ?_;refine z [34,31,1,2,32] ?_;refine cb (ca Qiw) λr3=>?_;refine z [31,1,8] ?_;exact rt []
theorem Q09{n:Nat}{x0}:∀ r,Qgx n x0=some r->FnOk Tryz.prog 159 [sli 3 (List.map Qd x0)] [] (bl r) []:=by
 unfold Qgx
 refine fs Tryz.func159 λw S0 γ hγ=>?_;refine z [2,31,1,5,2,30,39,30,1,7] ?_;refine srN (λs8=>[(0,sli 3 (List.map Qd x0)),(2,bl false),(5,sli 3 (List.map Qd x0))]) (λs8=>[]) (rE eI) ?_ ?_
 . intro i9 x10 s8 hx11
   refine z [7,2,43,42] ?_;refine o (al' 100) ?_;refine z [34,1,2,32] ?_;refine cb (ca Qe5) λr12=>?_;refine z [58,1] ?_;refine c ?_ ?_
   . refine z [2,31,1,8,12] ?_;refine sU ?_;refine z [12,10] ?_;exact rt []
   refine z [9,11] ?_;exact sgo (eR [])
 intro s14
 refine z [13,4,2,30,39,58,31,1,8] ?_;exact rt []
theorem Qlg{n:Nat}{x0}{x1}:∀ r,Qbo n x0 x1=some r->FnOk Tryz.prog 102 [Qd x0,Qd x1] [] (Qd r) []:=by
 unfold Qbo
 refine fs Tryz.func102 λw S0 γ hγ=>?_;refine z [2] ?_;refine o (bx' 100) ?_;refine o (bx' 101) ?_;refine o (al' 102) ?_;refine z [1,2,32] ?_;refine cb (ca Xp) λr1=>?_;refine z [30,35,35] ?_;refine o (al' 103) ?_;refine z [34,31,1,2,32] ?_;refine cb (ca Xp) λr3=>?_;refine z [30,35,35] ?_;refine o (al' 104) ?_;refine z [34,31,1,2,32,32] ?_;refine cb (ca Qsp) λr5=>?_;refine z [30,30] ?_;refine cb (ca Qcv) λr7=>?_;refine cb (ca Qck) λr9=>?_;refine z [34,1,8] ?_;exact rt []
theorem Qj8{n:Nat}{x0}{x1}:∀ r,Qbv n x0 x1=some r->FnOk Tryz.prog 52 [Qd x0,sli 3 (List.map Qd x1)] [] (.own 50) [(50,.sl 53 3 (List.map Qd r))]:=by
 unfold Qbv
 refine fs Tryz.func52 λw S0 γ hγ=>?_;refine z [2] ?_;refine o (bx' 100) ?_;refine s1 (asg rfl (kLm (k:=3) Qd)) ?_;refine z [1,2] ?_;refine so (asgN (y:=101) (E:=53) (k:=3) rfl rfl) ?_;refine z [1,5,2,30,39,30,1,7] ?_;refine srN (λs18=>[(2,.own 100),(4,sli 3 (List.map Qd ([]:List Qb))),(5,.own 101),(8,sli 3 (List.map Qd x1))]) (λs18=>[(100,.bx 53 (Qd x0)),(101,.sl 53 3 (List.map Qd s18))]) (rE (eR [(100,100),(101,101)])) ?_ ?_
 . intro i19 x20 s18 hx21
   refine z [7,2,43,42] ?_;refine o (al' 102) ?_;refine z [34,1,6,30,32,32] ?_;refine cb (ca Qlg) λr22=>?_
   refine so (bsl (y:=103) (ls:=List.map Qd ([r22]:List Qb)) Tryz.underlying44 ti_53.h rfl rfl rfl rfl rfl ⟨rfl,rfl,(by exact rfl),(by exact rfl),trivial⟩ rfl rfl) ?_
   refine b λy24 h25=>?_;refine o (app' 104) ?_;refine z [31,3,11] ?_;exact sgo (eR [(100,100),(101,104)])
 intro s26
 refine z [13,4,2,30,31,1,8] ?_;exact rt [(50,101)]
theorem Qst{x0}:∀ r,Qe1 x0=some r->FnOk Tryz.prog 170 [i64 x0] [] (.own 50) [(50,.bx 298 (Qp r))]:=by
 unfold Qe1
 refine fs Tryz.func170 λw S0 γ hγ=>?_;refine z [2,31,1,2,30,88,89] ?_;refine s1 (bld (l:=[Qkt (⟨0,0⟩:Zh),i64 (min (max x0 (0:Int)) (4096:Int))]) Q8l.h Q8k.h Qvm ⟨_,_,_,rfl,rfl,rfl,rfl,(szk (k:=1) rfl rfl),rfl⟩ rfl) ?_;refine o (bx' 100) ?_;refine z [31,1,8] ?_;exact rt [(50,100)]
theorem Q2q{n:Nat}{x0}:∀ r,Qf9 n x0=some r->FnOk Tryz.prog 302 [i64 x0] [] (.own 50) [(50,.sl 53 3 (List.map Qd r))]:=by
 unfold Qf9
 refine fs Tryz.func302 λw S0 γ hγ=>?_;refine z [2] ?_;refine s1 (asg rfl (kLm (k:=3) Qd)) ?_;refine z [1,2,30,88,89,31,1,2,30] ?_;refine b λy1 h2=>?_;refine so (mks (y:=100) (f:=Qd) h2 Tryz.underlying44 ti_53.h K0 rfl rfl rfl rfl rfl rfl) ?_;refine z [31,1,5,2,30,30,1,7] ?_;refine sloopE 0 (λt=>t) (λs15=>[(2,sli 3 (List.map Qd ([]:List Qb))),(3,.own 100),(10,i64 (min (max x0 (0:Int)) (300:Int))),(11,i64 s15.2)]) (λs15=>[(100,.sl 53 3 (List.map Qd s15.1))]) (λt13=>[(2,sli 3 (List.map Qd ([]:List Qb))),(3,.own 100)]) (λt13=>[(100,.sl 53 3 (List.map Qd t13))]) (eR [(100,100)]) ?_ ?_
 . intro hj14 s15
   refine z [2,46,1,5] ?_;refine c ?_ ?_
   . refine z [9,4,5,7,2,30,31,1,6,30,30] ?_;refine cb (ca Wc) λr16=>?_;refine b λy18 h19=>?_;refine z [50,53,3,11,4,6,40,30,3] ?_;exact sgo (eR [(100,100)])
   refine z [14,15] ?_;exact su (sj (hj14 _) (eR [(100,100)]))
 intro t13
 refine z [13,4,2,30,31,1,8] ?_;exact rt [(50,100)]
theorem Qzt{n:Nat}{x0}{x1}{x2}:∀ r,Qia n x0 x1 x2=some r->FnOk Tryz.prog 266 [sli 3 (List.map Qd x0),.own 0,i64 x2] [(0,.sl 44 1 (List.map Qj x1))] (.tup [sli 3 (List.map Qd r.1),bl r.2]) [(0,.sl 44 1 (List.map Qj x1))]:=by
 unfold Qia
 refine fs Tryz.func266 λw S0 γ hγ=>?_;refine z [2] ?_;refine s1 (asg rfl (kLm (k:=3) Qd)) ?_;refine z [31,1,5] ?_;refine sjq (λs3=>[(0,sli 3 (List.map Qd x0)),(1,.own 0),(2,i64 x2),(6,sli 3 (List.map Qd ([]:List Qb))),(7,bl false),(27,bl s3)]) (λs3=>[(0,.sl 44 1 (List.map Qj x1))]) ?_ ?_
 . intro j1 hj2
   refine z [6,30,39,30,55,56,30] ?_;refine sifd 20 rfl ?_ ?_
   . refine z [23,23,38,30,23,23,38,1] ?_;exact sj (hj2 _) (eR [(0,0)])
   refine z [22,22,37,30] ?_;refine sifd 24 rfl ?_ ?_
   . refine z [23,23,38,1] ?_;exact sj (hj2 _) (eR [(0,0)])
   refine z [22,22,37,1] ?_;exact sj (hj2 _) (eR [(0,0)])
 intro s3
 refine c ?_ ?_
 . refine z [2] ?_;refine s1 (asg rfl (kLm (k:=3) Qd)) ?_;refine z [31,1,8,10] ?_;exact rt [(0,0)]
 refine z [9,4,5,2,30,55,30,1,7] ?_;refine srN (λs9=>[(0,sli 3 (List.map Qd x0)),(1,.own 0),(2,i64 x2),(6,sli 3 (List.map Qd ([]:List Qb))),(7,bl false),(28,.own 0)]) (λs9=>[(0,.sl 44 1 (List.map Qj x1))]) (rE (eR [(0,0)])) ?_ ?_
 . intro i10 x11 s9 hx12
   refine z [7,2,50,51,31,1,2,30,39,30,56,1] ?_;refine c ?_ ?_
   . refine z [2] ?_;refine s1 (asg rfl (kLm (k:=3) Qd)) ?_;refine z [31,1,8,12] ?_;refine sU ?_;refine z [12,10] ?_;exact rt [(0,0)]
   refine z [9,11] ?_;exact sgo (eR [(0,0)])
 intro s13
 refine z [13,4,2,30] ?_;refine b λr14 h15=>?_;refine o (cG (Q2q _ h15) [] [(100,50)] []) ?_;refine z [31,1,5,2,30,55,30,1,7] ?_;refine srN (λs107=>[(0,sli 3 (List.map Qd x0)),(6,sli 3 (List.map Qd ([]:List Qb))),(7,bl false),(10,.own 100),(41,.own 0)]) (λs107=>[(0,.sl 44 1 (List.map Qj x1)),(100,.sl 53 3 (List.map Qd s107))]) (rE (eR [(0,0),(100,100)])) ?_ ?_
 . intro i108 x109 s107 hx110
   refine z [7,2,30,50,51,31,31,1,5,2,30,30] ?_;refine b λy111 h112=>?_;refine z [43,42] ?_;refine cb (ca Qe5) λr113=>?_;refine z [41,1] ?_;refine c ?_ ?_
   . refine z [14,15,13] ?_;exact sgo (eR [(0,0),(100,100)])
   refine z [9,4,2,30,39,30,1,7] ?_;refine srN (λs130=>[(0,sli 3 (List.map Qd x0)),(6,sli 3 (List.map Qd ([]:List Qb))),(7,bl false),(10,.own 100),(11,i64 (i108:Int)),(41,.own 0),(42,i64 (x1.length:Int)),(43,i64 (i108:Int)),(54,sli 3 (List.map Qd x109))]) (λs130=>[(0,.sl 44 1 (List.map Qj x1)),(100,.sl 53 3 (List.map Qd s130))]) (rE (eR [(0,0),(100,100)])) ?_ ?_
   . intro i131 x132 s130 hx133
     refine z [7,2,30,43,42] ?_;refine o (al' 101) ?_;refine z [31,34,1] ?_;refine b λy134 h135=>?_;refine b λy136 h137=>?_;refine b λr138 h139=>?_;refine b λr140 h141=>?_;refine b λy142 h143=>?_;refine sd ?_;refine zd [[],[],[],[]] ?_;refine dx [63,64] [100] (λst mm ⟨a63,a64,_⟩ ⟨g100,_⟩=>og (ixO (f:=Qd) (g100.trans rfl) Tryz.underlying44 ti_53.h h135 rfl (a63.trans rfl) (a64.trans rfl))) ?_
     refine dx [65] [100] (λst mm ⟨a65,_⟩ ⟨g100,_⟩=>og (ldO (f:=Qd) [] (g100.trans rfl) (Qah h135) (by exact rfl) off0 sh_53.h (by exact rfl) (by exact rfl) rfl (a65.trans rfl))) ?_
     refine zd [[],[],[],[],[101]] ?_;refine dd [] (λ_ _ _ _=>c0 (Qlg _ h139)) ?_;refine dd [] (λ_ _ _ _=>c0 (Qei _ h141)) ?_;refine dx [61,62] [100] (λst mm ⟨a61,a62,_⟩ ⟨g100,_⟩=>og (ixO (f:=Qd) (g100.trans rfl) Tryz.underlying44 ti_53.h h143 rfl (a61.trans rfl) (a62.trans rfl))) ?_
     refine dx [74,73] [100] (λst mm ⟨a74,a73,_⟩ ⟨g100,_⟩=>og (stO (f:=Qd) r140 [] (g100.trans rfl) (Qah h143) (by exact rfl) off0 (by exact rfl) (by exact rfl) sh_53.h (by exact rfl) (by exact rfl) (by exact rfl) (a74.trans rfl) (a73.trans rfl))) ?_
     refine de fol ?_;refine z [11] ?_;exact sgo (eR [(0,0),(100,100)])
   intro s144
   refine z [13,11] ?_;exact sgo (eR [(0,0),(100,100)])
 intro s145
 refine z [13,4,2,30,31,31,1,8] ?_;refine fz 100 [6,10,77] [] ?_;exact rt [(0,0)]
theorem Qgz{n:Nat}{x0_p}{x0_t}{x0_h}{x0_y}{x0_g}{x0_out_Ys}{x0_out_Ks}{x0_out_Next}{x0_out_Err}{x1}:∀ r,Va n x0_p x0_t x0_h x0_y x0_g x0_out_Ys x0_out_Ks x0_out_Next x0_out_Err x1=some r->FnOk Tryz.prog 222 [.own 0,sli 3 (List.map Qd x1)] [(0,.bx 247 (.agg [Q7 x0_p,Qd x0_t,Qd x0_h,sli 3 (List.map Qd x0_y),.own 1,.agg [.own 2,.own 3,sli 3 (List.map Qd x0_out_Next),sli 3 (List.map Qd x0_out_Err)]])),(1,.bx 298 (Qp x0_g)),(2,.sl 44 1 (List.map Qj x0_out_Ys)),(3,.sl 44 1 (List.map Qj x0_out_Ks))] (sli 3 (List.map Qd r)) [(0,.bx 247 (.agg [Q7 x0_p,Qd x0_t,Qd x0_h,sli 3 (List.map Qd x0_y),.own 1,.agg [.own 2,.own 3,sli 3 (List.map Qd x0_out_Next),sli 3 (List.map Qd x0_out_Err)]])),(1,.bx 298 (Qp x0_g)),(2,.sl 44 1 (List.map Qj x0_out_Ys)),(3,.sl 44 1 (List.map Qj x0_out_Ks))]:=by
 unfold Va
 refine fs Tryz.func222 λw S0 γ hγ=>?_;refine z [2] ?_;refine s1 (asg rfl (kLm (k:=3) Qd)) ?_;refine z [1,5] ?_;refine b λr1 h2=>?_;refine sd ?_;refine zd [[],[],[0],[0],[],[0],[],[0],[0],[0],[]] ?_;refine dd [3] (λ_ _ _ _=>cG (Qzt _ h2) [3] [] [3]) ?_;refine zd [[],[],[],[],[]] ?_;refine de fol ?_;refine z [4,2,30,48,33,36,30] ?_;refine b λr3 h4=>?_;refine o (cG (Qj8 _ h4) [] [(100,50)] []) ?_;refine z [31,1,8] ?_;refine fz 100 [4,27] [] ?_;exact rt [(0,0),(1,1),(2,2),(3,3)]
theorem Q2r{n:Nat}{x0}:∀ r,Qib n x0=some r->FnOk Tryz.prog 300 [sli 3 (List.map Qd x0)] [] (.own 50) [(50,.sl 53 3 (List.map Qd r))]:=by
 unfold Qib
 refine fs Tryz.func300 λw S0 γ hγ=>?_;refine z [2] ?_;refine s1 (asg rfl (kLm (k:=3) Qd)) ?_;refine z [1,2] ?_;refine so (asgN (y:=100) (E:=53) (k:=3) rfl rfl) ?_;refine z [1,5,2,30,39,30,1,7] ?_;refine srN (λs18=>[(2,sli 3 (List.map Qd ([]:List Qb))),(3,.own 100),(6,sli 3 (List.map Qd x0))]) (λs18=>[(100,.sl 53 3 (List.map Qd s18))]) (rE (eR [(100,100)])) ?_ ?_
 . intro i19 x20 s18 hx21
   refine z [7,2,43,42] ?_;refine o (al' 101) ?_;refine z [34,1,6,30,32] ?_;refine cb (ca Wu) λr22=>?_
   refine so (bsl (y:=102) (ls:=List.map Qd ([r22]:List Qb)) Tryz.underlying44 ti_53.h rfl rfl rfl rfl rfl ⟨rfl,rfl,(by exact rfl),(by exact rfl),trivial⟩ rfl rfl) ?_
   refine b λy24 h25=>?_;refine o (app' 103) ?_;refine z [31,3,11] ?_;exact sgo (eR [(100,103)])
 intro s26
 refine z [13,4,2,30,31,1,8] ?_;exact rt [(50,100)]
theorem Qxb{n:Nat}{x0}:∀ r,Qho n x0=some r->FnOk Tryz.prog 263 [sli 1 (List.map Qj x0)] [] (.tup [sli 3 (List.map Qd r.1),bl r.2]) []:=by
 unfold Qho
 refine fs Tryz.func263 λw S0 γ hγ=>?_;refine z [2] ?_;refine s1 (asg rfl (kLm (k:=3) Qd)) ?_;refine z [31,1,5,2,30,39,41,1] ?_;refine c ?_ ?_
 . refine z [2] ?_;refine s1 (asg rfl (kLm (k:=3) Qd)) ?_;refine z [31,1,8,10] ?_;exact rt []
 refine z [9,4,2,30] ?_;refine b λy1 h2=>?_;refine z [43,42] ?_;refine b λr3 h4=>?_;refine o (cG (Q2r _ h4) [] [(100,50)] []) ?_;refine z [31,1,5,2,30] ?_;refine b λy5 h6=>?_;refine s1 (slR (f:=Qj) h6 Tryz.underlying45 ti_44.h rfl rfl (bnd (kI (x:=1) rfl)) bnd0) ?_;refine z [39,30,1,7] ?_;refine srN (λs70=>[(2,sli 3 (List.map Qd ([]:List Qb))),(3,bl false),(4,.own 100),(17,sli 1 (List.map Qj y5))]) (λs70=>[(100,.sl 53 3 (List.map Qd s70))]) (rE (eR [(100,100)])) ?_ ?_
 . intro i71 x72 s70 hx73
   refine z [7,2,43,42,31,1,5,2,30,39,30,55,56,1] ?_;refine c ?_ ?_
   . refine z [2] ?_;refine s1 (asg rfl (kLm (k:=3) Qd)) ?_;refine z [31,1,8,10,12] ?_;refine sU ?_;refine z [12,10] ?_;exact rt []
   refine z [9,4,2,30,39,30,1,7] ?_;refine srN (λs85=>[(2,sli 3 (List.map Qd ([]:List Qb))),(3,bl false),(4,.own 100),(17,sli 1 (List.map Qj y5)),(18,i64 (y5.length:Int)),(19,i64 (i71:Int)),(28,sli 3 (List.map Qd x72))]) (λs85=>[(100,.sl 53 3 (List.map Qd s85))]) (rE (eR [(100,100)])) ?_ ?_
   . intro i86 x87 s85 hx88
     refine z [7,2,30,43,42] ?_;refine o (al' 101) ?_;refine z [31,34,1] ?_;refine b λy89 h90=>?_;refine b λr91 h92=>?_;refine b λy93 h94=>?_;refine sd ?_;refine zd [[],[],[],[]] ?_;refine dx [37,38] [100] (λst mm ⟨a37,a38,_⟩ ⟨g100,_⟩=>og (ixO (f:=Qd) (g100.trans rfl) Tryz.underlying44 ti_53.h h90 rfl (a37.trans rfl) (a38.trans rfl))) ?_
     refine dx [39] [100] (λst mm ⟨a39,_⟩ ⟨g100,_⟩=>og (ldO (f:=Qd) [] (g100.trans rfl) (Qah h90) (by exact rfl) off0 sh_53.h (by exact rfl) (by exact rfl) rfl (a39.trans rfl))) ?_
     refine zd [[101]] ?_;refine dd [] (λ_ _ _ _=>c0 (Qei _ h92)) ?_;refine dx [35,36] [100] (λst mm ⟨a35,a36,_⟩ ⟨g100,_⟩=>og (ixO (f:=Qd) (g100.trans rfl) Tryz.underlying44 ti_53.h h94 rfl (a35.trans rfl) (a36.trans rfl))) ?_
     refine dx [43,42] [100] (λst mm ⟨a43,a42,_⟩ ⟨g100,_⟩=>og (stO (f:=Qd) r91 [] (g100.trans rfl) (Qah h94) (by exact rfl) off0 (by exact rfl) (by exact rfl) sh_53.h (by exact rfl) (by exact rfl) (by exact rfl) (a43.trans rfl) (a42.trans rfl))) ?_
     refine de fol ?_;refine z [11] ?_;exact sgo (eR [(100,100)])
   intro s95
   refine z [13,11] ?_;exact sgo (eR [(100,100)])
 intro s96
 refine z [13,4,2,30,31,31,1,8] ?_;refine fz 100 [2,4,46] [] ?_;exact rt []
theorem Qix{n:Nat}{x0_p}{x0_t}{x0_h}{x0_y}{x0_g}{x0_out_Ys}{x0_out_Ks}{x0_out_Next}{x0_out_Err}{x1}:∀ r,Xj n x0_p x0_t x0_h x0_y x0_g x0_out_Ys x0_out_Ks x0_out_Next x0_out_Err x1=some r->FnOk Tryz.prog 219 [.own 0,sli 3 (List.map Qd x1)] [(0,.bx 247 (.agg [Q7 x0_p,Qd x0_t,Qd x0_h,sli 3 (List.map Qd x0_y),.own 1,.agg [.own 2,.own 3,sli 3 (List.map Qd x0_out_Next),sli 3 (List.map Qd x0_out_Err)]])),(1,.bx 298 (Qp x0_g)),(2,.sl 44 1 (List.map Qj x0_out_Ys)),(3,.sl 44 1 (List.map Qj x0_out_Ks))] (sli 3 (List.map Qd r)) [(0,.bx 247 (.agg [Q7 x0_p,Qd x0_t,Qd x0_h,sli 3 (List.map Qd x0_y),.own 1,.agg [.own 2,.own 3,sli 3 (List.map Qd x0_out_Next),sli 3 (List.map Qd x0_out_Err)]])),(1,.bx 298 (Qp x0_g)),(2,.sl 44 1 (List.map Qj x0_out_Ys)),(3,.sl 44 1 (List.map Qj x0_out_Ks))]:=by
 unfold Xj
 refine fs Tryz.func219 λw S0 γ hγ=>?_;refine z [2] ?_;refine s1 (asg rfl (kLm (k:=3) Qd)) ?_;refine z [1,5] ?_;refine b λr3 h4=>?_;refine b λr5 h6=>?_;refine sd ?_;refine zd [[],[0],[0],[0],[],[]] ?_;refine dd [0,1,2,3] (λ_ _ _ _=>cG (Qgz _ h4) [0,1,2,3] [] [0,1,2,3]) ?_
 refine dx [11,14] [100] (λst mm ⟨a11,a14,_⟩ ⟨g100,_⟩=>og (toV (bsl (y:=100) (ls:=List.map Qj ([x0_y,r3]:List (List Qb))) Tryz.underlying45 ti_44.h rfl rfl rfl rfl rfl ⟨rfl,(a11.trans rfl),(by exact rfl),(by exact rfl),rfl,(a14.trans rfl),(by exact rfl),(by exact rfl),trivial⟩ (g100.trans rfl) rfl) (Jn (f:=Qj) (λ_=>Qgm) ([x0_y,r3]:List (List Qb))))) ?_
 refine dd [] (λ_ _ _ _=>c0 (Qxb _ h6)) ?_;refine zd [[],[],[],[],[]] ?_;refine de fol ?_;refine z [4,2,30,31,1,8] ?_;exact rt [(0,0),(1,1),(2,2),(3,3)]
theorem Qol{x0}{x1}:∀ r,Qa7 x0 x1=some r->FnOk Tryz.prog 323 [.ptr 0 0,i64 x1] [(0,.bx 298 (Qp x0))] (.tup []) [(0,.bx 298 (Qp r))]:=by
 unfold Qa7
 refine fs Tryz.func323 λw S0 γ hγ=>?_;refine z [2,30,48,45,36,40,48,45] ?_;refine o (stP (Qp (⟨(⟨wrap64 (x0.Count.Seen+(1:Int)),x0.Count.Peak⟩:Zh),x0.limit⟩:Qo)) [0,0]) ?_;refine z [1,6,30,30,48,45,36,30,88,48,45] ?_;refine o (stP (Qp (⟨(⟨wrap64 (x0.Count.Seen+(1:Int)),max x0.Count.Peak x1⟩:Zh),x0.limit⟩:Qo)) [0,1]) ?_;refine z [3] ?_;exact rt [(0,0)]
theorem Qhu{n:Nat}{x0}{x1}:∀ r,W1 n x0 x1=some r->FnOk Tryz.prog 301 [.own 0,Qd x1] [(0,.bx 298 (Qp x0))] (bl r.1) [(0,.bx 298 (Qp r.2))]:=by
 unfold W1
 refine fs Tryz.func301 λw S0 γ hγ=>?_;refine z [2] ?_;refine o (bx' 100) ?_;refine z [31,1,2,32] ?_;refine cb (ca Qso) λr1=>?_;refine z [31,1,2,30,48,33,30] ?_;refine b λr3 h4=>?_;refine o (cG (Qol _ h4) [0] [] []) ?_;refine z [1,2,30,30,48,33,36,58,31,1,8] ?_;exact rt [(0,0)]
theorem Qps{n:Nat}{x0}{x1}:∀ r,Z4 n x0 x1=some r->FnOk Tryz.prog 264 [.own 0,sli 3 (List.map Qd x1)] [(0,.bx 298 (Qp x0))] (.tup [i64 r.1,bl r.2.1]) [(0,.bx 298 (Qp r.2.2))]:=by
 unfold Z4
 refine fs Tryz.func264 λw S0 γ hγ=>?_;refine z [2,31,31,1,5,2,30,39,30,1,7] ?_;refine srN (λs14=>[(0,.own 0),(1,sli 3 (List.map Qd x1)),(4,i64 (0:Int)),(5,bl false),(8,sli 3 (List.map Qd x1))]) (λs14=>[(0,.bx 298 (Qp s14))]) (rE (eR [(0,0)])) ?_ ?_
 . intro i15 x16 s14 hx17
   refine z [7,2,30,43,42] ?_;refine o (al' 100) ?_;refine z [31,34,1,2,30,32] ?_;refine b λr18 h19=>?_;refine o (cG (Qhu _ h19) [0] [] []) ?_;refine z [44,1] ?_;refine c ?_ ?_
   . refine z [2,30,31,31,1,8,12] ?_;refine sU ?_;refine z [12,10] ?_;exact rt [(0,0)]
   refine z [9,11] ?_;exact sgo (eR [(0,0)])
 intro s20
 refine z [13,4,2,30,39,31,31,1,8] ?_;exact rt [(0,0)]
theorem Qej{n:Nat}{x0_p}{x0_t}{x0_h}{x0_y}{x0_g}{x0_out_Ys}{x0_out_Ks}{x0_out_Next}{x0_out_Err}{x1}{x2}:∀ r,Vp n x0_p x0_t x0_h x0_y x0_g x0_out_Ys x0_out_Ks x0_out_Next x0_out_Err x1 x2=some r->FnOk Tryz.prog 220 [.own 0,sli 3 (List.map Qd x1),i64 x2] [(0,.bx 247 (.agg [Q7 x0_p,Qd x0_t,Qd x0_h,sli 3 (List.map Qd x0_y),.own 1,.agg [.own 2,.own 3,sli 3 (List.map Qd x0_out_Next),sli 3 (List.map Qd x0_out_Err)]])),(1,.bx 298 (Qp x0_g)),(2,.sl 44 1 (List.map Qj x0_out_Ys)),(3,.sl 44 1 (List.map Qj x0_out_Ks))] (Qv r.1) [(0,.bx 247 (.agg [Q7 x0_p,Qd x0_t,Qd x0_h,sli 3 (List.map Qd x0_y),.own 1,.agg [.own 2,.own 3,sli 3 (List.map Qd x0_out_Next),sli 3 (List.map Qd x0_out_Err)]])),(1,.bx 298 (Qp r.2)),(2,.sl 44 1 (List.map Qj x0_out_Ys)),(3,.sl 44 1 (List.map Qj x0_out_Ks))]:=by
 unfold Vp
 refine fs Tryz.func220 λw S0 γ hγ=>?_;refine z [2] ?_;refine o (al' 100) ?_;refine z [1,5,2,30,48,33,36,30] ?_;refine b λr1 h2=>?_;refine o (cG (Qps _ h2) [1] [] []) ?_;refine z [30,35,35,31,31,1,2,30,44,1] ?_;refine c ?_ ?_
 . refine z [2,30,30,40] ?_;refine s1 (bld (l:=[i64 (6:Int),i64 0,i64 x2,i64 (wrap64 ((300:Int)+r1.1))]) pl_63.h ti_63.h Qu ⟨_,_,_,(kI (x:=6) rfl),rfl,rfl,rfl,(szk (k:=1) rfl rfl),⟨_,_,_,rfl,rfl,rfl,rfl,(szk (k:=1) rfl rfl),⟨_,_,_,rfl,rfl,rfl,rfl,(szk (k:=1) rfl rfl),rfl⟩⟩⟩ rfl) ?_;refine z [34,1,8,10] ?_;exact rt [(0,0),(1,1),(2,2),(3,3)]
 refine z [9,4,2] ?_;refine s1 (bld (l:=[i64 0,i64 0,i64 0,i64 0]) pl_63.h ti_63.h Qu rfl rfl) ?_;refine z [34,1,8] ?_;exact rt [(0,0),(1,1),(2,2),(3,3)]
theorem Qx4{n:Nat}{x0}{x1}{x2}{x3}:∀ r,Qeq n x0 x1 x2 x3=some r->FnOk Tryz.prog 262 [Q7 x0,Qd x1,Qd x2,i64 x3] [] (Qd r) []:=by
 unfold Qeq
 refine fs Tryz.func262 λw S0 γ hγ=>?_;refine z [2] ?_;refine o (bx' 100) ?_;refine o (bx' 101) ?_;refine o (bx' 102) ?_;refine o (al' 103) ?_;refine z [1,5] ?_;refine sjq (λs3=>[(3,i64 x3),(4,.own 100),(5,.own 101),(6,.own 102),(8,.own 103),(18,bl s3)]) (λs3=>[(100,.bx 49 (Q7 x0)),(101,.bx 53 (Qd x1)),(102,.bx 53 (Qd x2)),(103,.bx 53 (Qd (⟨(⟨false,[]⟩:Qf),[]⟩:Qb)))]) ?_ ?_
 . intro j1 hj2
   refine z [6,30,46,30] ?_;refine sifd 11 rfl ?_ ?_
   . refine z [23,23,23,23,23,23,38,1] ?_;exact sj (hj2 _) (eR [(100,100),(101,101),(102,102),(103,103)])
   refine z [22,22,22,22,22,22,37,1] ?_;exact sj (hj2 _) (eR [(100,100),(101,101),(102,102),(103,103)])
 intro s3
 refine c ?_ ?_
 . refine z [2,32] ?_;refine cb (ca Wu) λr4=>?_;refine z [34,1,8,10] ?_;exact rt []
 refine z [9,4,5] ?_;refine b λy6 h7=>?_;refine b λr8 h9=>?_;refine b λr10 h11=>?_;refine sd ?_;refine zd [[101],[102],[100],[],[100],[],[],[]] ?_;refine dd [] (λ_ _ _ _=>c0 (Qlg _ h9)) ?_;refine dd [] (λ_ _ _ _=>c0 (Qei _ h11)) ?_;refine zd [[103]] ?_;refine de fol ?_;refine z [4,8] ?_;exact rt []
theorem Q30{x0}{x1}{x2}:∀ r,Qm4 x0 x1 x2=some r->FnOk Tryz.prog 261 [Q7 x0,Qd x1,sli 3 (List.map Qd x2)] [] (Qb7 r) []:=by
 unfold Qm4
 refine fs Tryz.func261 λw S0 γ hγ=>?_;refine z [2] ?_;refine o (bx' 100) ?_;refine o (bx' 101) ?_;refine o (al' 102) ?_;refine z [1,2,32,30,33,36] ?_;refine s1 (bld (l:=[Qd x1,sli 3 (List.map Qd x2),sli 3 (List.map Qd x0.P)]) Q3u.h Qt4.h Qku ⟨_,_,_,rfl,rfl,rfl,rfl,(szk (k:=3) rfl rfl),⟨_,_,_,rfl,rfl,rfl,rfl,(szk (k:=1) rfl rfl),⟨_,_,_,rfl,rfl,rfl,rfl,(szk (k:=1) rfl rfl),rfl⟩⟩⟩ rfl) ?_;refine z [34,1,8] ?_;exact rt []
theorem Qrd{n:Nat}{x0}:∀ r,Qfs n x0=some r->FnOk Tryz.prog 335 [sli 3 (List.map Qd x0)] [] (sli 3 (List.map Qd r)) []:=by
 unfold Qfs
 refine fs Tryz.func335 λw S0 γ hγ=>?_;refine z [2] ?_;refine s1 (asg rfl (kLm (k:=3) Qd)) ?_;refine z [1,2] ?_;refine so (asgN (y:=100) (E:=53) (k:=3) rfl rfl) ?_;refine z [1,5,2,30,39,30,1,7] ?_;refine srN (λs18=>[(2,sli 3 (List.map Qd ([]:List Qb))),(3,.own 100),(6,sli 3 (List.map Qd x0))]) (λs18=>[(100,.sl 53 3 (List.map Qd s18))]) (rE (eR [(100,100)])) ?_ ?_
 . intro i19 x20 s18 hx21
   refine z [7,2,43,42] ?_;refine o (al' 101) ?_;refine z [34,1,6,30,32] ?_;refine cb (ca Wu) λr22=>?_
   refine so (bsl (y:=102) (ls:=List.map Qd ([r22]:List Qb)) Tryz.underlying44 ti_53.h rfl rfl rfl rfl rfl ⟨rfl,rfl,(by exact rfl),(by exact rfl),trivial⟩ rfl rfl) ?_
   refine b λy24 h25=>?_;refine o (app' 103) ?_;refine z [31,3,11] ?_;exact sgo (eR [(100,103)])
 intro s26
 refine z [13,4,2,30,31,1,8] ?_;refine fz 100 [2,3,18] [] ?_;exact rt []
theorem Q1a{n:Nat}{x0}:∀ r,Qj2 n x0=some r->FnOk Tryz.prog 321 [Qb7 x0] [] (Qb7 r) []:=by
 unfold Qj2
 refine fs Tryz.func321 λw S0 γ hγ=>?_;refine z [2] ?_;refine o (bx' 100) ?_;refine o (al' 101) ?_;refine z [1,5] ?_;refine b λr1 h2=>?_;refine b λr3 h4=>?_;refine b λr5 h6=>?_;refine sd ?_;refine zd [[100],[100]] ?_;refine dd [] (λ_ _ _ _=>c0 (Wu _ h2)) ?_;refine zd [[100],[100]] ?_;refine dd [] (λ_ _ _ _=>c0 (Qrd _ h4)) ?_;refine zd [[100],[100]] ?_;refine dd [] (λ_ _ _ _=>c0 (Qrd _ h6)) ?_;refine dx [5,8,11] [] (λst mm ⟨a5,a8,a11,_⟩ _=>og (bld (l:=[Qd r1,sli 3 (List.map Qd r3),sli 3 (List.map Qd r5)]) Q3u.h Qt4.h Qku ⟨_,_,_,(a5.trans rfl),rfl,rfl,rfl,(szk (k:=3) rfl rfl),⟨_,_,_,(a8.trans rfl),rfl,rfl,rfl,(szk (k:=1) rfl rfl),⟨_,_,_,(a11.trans rfl),rfl,rfl,rfl,(szk (k:=1) rfl rfl),rfl⟩⟩⟩ rfl)) ?_;refine zd [[101]] ?_;refine de fol ?_;refine z [4,8] ?_;exact rt []
theorem Q2s{n:Nat}{x0}:∀ r,Qid n x0=some r->FnOk Tryz.prog 377 [Qd x0] [] (Qd r) []:=by
 unfold Qid
 refine fs Tryz.func377 λw S0 γ hγ=>?_;refine z [2] ?_;refine o (bx' 100) ?_;refine o (al' 101) ?_;refine z [1,2,32] ?_;refine cb (ca Wu) λr1=>?_;refine o (al' 102) ?_;refine z [34,1,2,33,36] ?_;refine cb (ca Qsr) λr3=>?_;refine z [33] ?_;refine o (stP (Qd (⟨r3,r1.Den⟩:Qb)) [0]) ?_;refine z [1,2,32,34,1,8] ?_;exact rt []
theorem Qr7{n:Nat}{x0_g}{x1}:∀ r,Qdd n x0_g x1=some r->FnOk Tryz.prog 372 [.agg [.own 0],Qd x1] [(0,.bx 298 (Qp x0_g))] (Qd r) [(0,.bx 298 (Qp x0_g))]:=by
 unfold Qdd
 refine fs Tryz.func372 λw S0 γ hγ=>?_;refine z [2] ?_;refine o (bx' 100) ?_;refine o (bx' 101) ?_;refine o (al' 102) ?_;refine z [1,2,32] ?_;refine cb (ca Q2s) λr1=>?_;refine z [34,1,8] ?_;exact rt [(0,0)]
theorem Qre{n:Nat}{x0}{x1}:∀ r,Qds n x0 x1=some r->FnOk Tryz.prog 379 [sli 1 (List.map u32 x0),i64 x1] [] (sli 1 (List.map u32 r)) []:=by
 unfold Qds
 refine fs Tryz.func379 λw S0 γ hγ=>?_;refine z [2] ?_;refine s1 (asg rfl (kLm (k:=1) u32)) ?_;refine z [1,2] ?_;refine cb (ca Qbg) λr1=>?_;refine z [31,1,5,2,30,30,1,7] ?_;refine sloopE 0 (λt=>t) (λs11=>[(0,sli 1 (List.map u32 x0)),(4,sli 1 (List.map u32 ([]:List Nat))),(5,sli 1 (List.map u32 s11.1)),(7,i64 x1),(8,i64 s11.2)]) (λs11=>[]) (λt9=>[(4,sli 1 (List.map u32 ([]:List Nat))),(5,sli 1 (List.map u32 t9))]) (λt9=>[]) eI ?_ ?_
 . intro hj10 s11
   refine z [2,46,1,5] ?_;refine c ?_ ?_
   . refine z [9,4,5,7,6,30,30] ?_;refine cb (ca Qcv) λr12=>?_;refine z [31,3,11,4,6,40,30,3] ?_;exact sgo eI
   refine z [14,15] ?_;exact su (sj (hj10 _) eI)
 intro t9
 refine z [13,4,2,30,31,1,8] ?_;exact rt []
theorem Q2t{n:Nat}{x0}{x1}:∀ r,Qie n x0 x1=some r->FnOk Tryz.prog 378 [Qd x0,i64 x1] [] (.tup [Qd r.1,bl r.2]) []:=by
 unfold Qie
 refine fs Tryz.func378 λw S0 γ hγ=>?_;refine z [2] ?_;refine o (bx' 100) ?_;refine o (al' 101) ?_;refine z [31,1,5] ?_;refine sjq (λs5=>[(1,i64 x1),(2,.own 100),(4,.own 101),(5,bl false),(24,bl s5)]) (λs5=>[(100,.bx 53 (Qd x0)),(101,.bx 53 (Qd (⟨(⟨false,[]⟩:Qf),[]⟩:Qb)))]) ?_ ?_
 . intro j3 hj4
   refine z [6,30,46,30] ?_;refine sifd 12 rfl ?_ ?_
   . refine z [23,23,38,30,23,23,23,24,24,24,23,38,1] ?_;exact sj (hj4 _) (eR [(100,100),(101,101)])
   refine z [22,22,37,30] ?_;refine sifd 16 rfl ?_ ?_
   . refine z [23,23,23,24,24,24,23,38,1] ?_;exact sj (hj4 _) (eR [(100,100),(101,101)])
   refine z [22,22,22] ?_;refine sifd 19 rfl ?_ ?_
   . refine z [22] ?_;refine b λr6 h7=>?_;refine og' (c0 (Qe5 _ h7)) ?_;refine z [22,22,37,1] ?_;exact sj (hj4 _) (eR [(100,100),(101,101)])
   refine z [23,23,23,22,37,1] ?_;exact sj (hj4 _) (eR [(100,100),(101,101)])
 intro s5
 refine c ?_ ?_
 . refine z [2] ?_;refine cb (ca Wc) λr8=>?_;refine z [34,31,1,8,10] ?_;exact rt []
 refine z [9,4,2,32] ?_;refine cb (ca Wu) λr10=>?_;refine o (al' 102) ?_;refine z [34,1,2,30,30,82,88,31,1,5] ?_;refine b λr12 h13=>?_;refine b λr14 h15=>?_;refine sd ?_;refine zd [[102],[],[102],[]] ?_;refine dd [] (λ_ _ _ _=>c0 (Qre _ h13)) ?_;refine zd [[102],[102],[]] ?_;refine dd [] (λ_ _ _ _=>c0 (Qre _ h15)) ?_;refine zd [[],[]] ?_;refine de fol ?_;refine z [4] ?_;refine sjq (λs18=>[(4,.own 101),(5,bl false),(6,.own 102),(7,i64 (max x1 (wrap64 (-x1)))),(8,sli 1 (List.map u32 s18.1)),(9,sli 1 (List.map u32 s18.2))]) (λs18=>[(101,.bx 53 (Qd (⟨(⟨false,[]⟩:Qf),[]⟩:Qb))),(102,.bx 53 (Qd r10))]) ?_ ?_
 . intro j16 hj17
   refine z [2,30,46,1] ?_;refine c ?_ ?_
   . refine z [6,30,30,31,31,1] ?_;exact sj (hj17 _) (eR [(101,101),(102,102)])
   refine z [9,4] ?_;exact sj (hj17 _) (eR [(101,101),(102,102)])
 intro s18
 refine sjq (λs25=>[(4,.own 101),(5,bl true)]) (λs25=>[(101,.bx 53 (Qd s25))]) ?_ ?_
 . intro j23 hj24
   refine z [6,33,45,36,30] ?_;refine sifd 48 rfl ?_ ?_
   . refine z [22,22,22,38,30] ?_;refine s1 (bld (l:=[bl (decide ((Int.tmod (max x1 (wrap64 (-x1))) (2:Int))=(1:Int))),sli 1 (List.map u32 s18.1)]) pl_51.h ti_51.h Wk ⟨_,_,_,rfl,rfl,rfl,rfl,(szk (k:=1) rfl rfl),⟨_,_,_,rfl,rfl,rfl,rfl,(szk (k:=1) rfl rfl),rfl⟩⟩ rfl) ?_;refine cb (ca Ql6) λr26=>?_;refine z [30] ?_;refine s1 (bld (l:=[Q4 r26,sli 1 (List.map u32 s18.2)]) pl_53.h ti_53.h K0 ⟨_,_,_,rfl,rfl,rfl,rfl,(szk (k:=2) rfl rfl),⟨_,_,_,rfl,rfl,rfl,rfl,(szk (k:=1) rfl rfl),rfl⟩⟩ rfl) ?_;refine z [34,31,1] ?_;exact sj (hj24 _) (eR [(101,101)])
   refine z [23,23,23,37,30] ?_;refine s1 (bld (l:=[bl false,sli 1 (List.map u32 s18.1)]) pl_51.h ti_51.h Wk ⟨_,_,_,rfl,rfl,rfl,rfl,(szk (k:=1) rfl rfl),⟨_,_,_,rfl,rfl,rfl,rfl,(szk (k:=1) rfl rfl),rfl⟩⟩ rfl) ?_;refine cb (ca Ql6) λr28=>?_;refine z [30] ?_;refine s1 (bld (l:=[Q4 r28,sli 1 (List.map u32 s18.2)]) pl_53.h ti_53.h K0 ⟨_,_,_,rfl,rfl,rfl,rfl,(szk (k:=2) rfl rfl),⟨_,_,_,rfl,rfl,rfl,rfl,(szk (k:=1) rfl rfl),rfl⟩⟩ rfl) ?_;refine z [34,31,1] ?_;exact sj (hj24 _) (eR [(101,101)])
 intro s25
 refine z [8] ?_;exact rt []
theorem Qr8{n:Nat}{x0_g}{x1}{x2}:∀ r,Qde n x0_g x1 x2=some r->FnOk Tryz.prog 374 [.agg [.own 0],Qd x1,i64 x2] [(0,.bx 298 (Qp x0_g))] (.tup [Qd r.1,bl r.2]) [(0,.bx 298 (Qp x0_g))]:=by
 unfold Qde
 refine fs Tryz.func374 λw S0 γ hγ=>?_;refine z [2] ?_;refine o (bx' 100) ?_;refine o (bx' 101) ?_;refine o (al' 102) ?_;refine z [31,1,2,32,30] ?_;refine cb (ca Q2t) λr1=>?_;refine z [35,35,34,31,1,8] ?_;exact rt [(0,0)]
theorem Qr9{n:Nat}{x0_g}{x1}{x2}:∀ r,Qdf n x0_g x1 x2=some r->FnOk Tryz.prog 369 [.agg [.own 0],Qd x1,Qd x2] [(0,.bx 298 (Qp x0_g))] (Qd r) [(0,.bx 298 (Qp x0_g))]:=by
 unfold Qdf
 refine fs Tryz.func369 λw S0 γ hγ=>?_;refine z [2] ?_;refine o (bx' 100) ?_;refine o (bx' 101) ?_;refine o (bx' 102) ?_;refine o (al' 103) ?_;refine z [1,2,32,32] ?_;refine cb (ca Qei) λr1=>?_;refine z [34,1,8] ?_;exact rt [(0,0)]
theorem Q2u{n:Nat}{x0}{x1}:∀ r,Qif n x0 x1=some r->FnOk Tryz.prog 29 [Qd x0,Qd x1] [] (Qd r) []:=by
 unfold Qif
 refine fs Tryz.func29 λw S0 γ hγ=>?_;refine z [2] ?_;refine o (bx' 100) ?_;refine o (bx' 101) ?_;refine o (al' 102) ?_;refine z [1,2,32] ?_;refine cb (ca Xp) λr1=>?_;refine z [30,35,35] ?_;refine o (al' 103) ?_;refine z [34,31,1,2,32] ?_;refine cb (ca Xp) λr3=>?_;refine z [30,35,35] ?_;refine o (al' 104) ?_;refine z [34,31,1,5] ?_;refine b λr5 h6=>?_;refine b λr7 h8=>?_;refine b λr9 h10=>?_;refine b λr11 h12=>?_;refine b λr13 h14=>?_;refine sd ?_;refine zd [[103],[]] ?_;refine dd [] (λ_ _ _ _=>c0 (Qb9 _ h6)) ?_;refine zd [[104],[]] ?_;refine dd [] (λ_ _ _ _=>c0 (Qb9 _ h8)) ?_;refine dd [] (λ_ _ _ _=>c0 (Qss _ h10)) ?_;refine zd [[],[]] ?_;refine dd [] (λ_ _ _ _=>c0 (Qcv _ h12)) ?_;refine dd [] (λ_ _ _ _=>c0 (Qck _ h14)) ?_;refine zd [[102]] ?_;refine de fol ?_;refine z [4,8] ?_;exact rt []
theorem Qsa{n:Nat}{x0_g}{x1}{x2}:∀ r,Qdg n x0_g x1 x2=some r->FnOk Tryz.prog 376 [.agg [.own 0],Qd x1,Qd x2] [(0,.bx 298 (Qp x0_g))] (Qd r) [(0,.bx 298 (Qp x0_g))]:=by
 unfold Qdg
 refine fs Tryz.func376 λw S0 γ hγ=>?_;refine z [2] ?_;refine o (bx' 100) ?_;refine o (bx' 101) ?_;refine o (bx' 102) ?_;refine o (al' 103) ?_;refine z [1,2,32,32] ?_;refine cb (ca Q2u) λr1=>?_;refine z [34,1,8] ?_;exact rt [(0,0)]
theorem Qsb{n:Nat}{x0_g}{x1}{x2}:∀ r,Qdh n x0_g x1 x2=some r->FnOk Tryz.prog 371 [.agg [.own 0],Qd x1,Qd x2] [(0,.bx 298 (Qp x0_g))] (Qd r) [(0,.bx 298 (Qp x0_g))]:=by
 unfold Qdh
 refine fs Tryz.func371 λw S0 γ hγ=>?_;refine z [2] ?_;refine o (bx' 100) ?_;refine o (bx' 101) ?_;refine o (bx' 102) ?_;refine o (al' 103) ?_;refine z [1,2,32,32] ?_;refine cb (ca Qlg) λr1=>?_;refine z [34,1,8] ?_;exact rt [(0,0)]
theorem Qsc{n:Nat}{x0_g}{x1}{x2}:∀ r,Qdi n x0_g x1 x2=some r->FnOk Tryz.prog 375 [.agg [.own 0],Qd x1,Qd x2] [(0,.bx 298 (Qp x0_g))] (.tup [Qd r.1,bl r.2]) [(0,.bx 298 (Qp x0_g))]:=by
 unfold Qdi
 refine fs Tryz.func375 λw S0 γ hγ=>?_;refine z [2] ?_;refine o (bx' 100) ?_;refine o (bx' 101) ?_;refine o (bx' 102) ?_;refine o (al' 103) ?_;refine z [31,1,2,32,32] ?_;refine cb (ca Qua) λr1=>?_;refine z [35,35,34,31,1,8] ?_;exact rt [(0,0)]
theorem Qs3{n:Nat}{x0_g}{x1}:∀ r,Qeg n x0_g x1=some r->FnOk Tryz.prog 373 [.agg [.own 0],Qd x1] [(0,.bx 298 (Qp x0_g))] (Qd r) [(0,.bx 298 (Qp x0_g))]:=by
 unfold Qeg
 refine fs Tryz.func373 λw S0 γ hγ=>?_;refine z [2] ?_;refine o (bx' 100) ?_;refine o (bx' 101) ?_;refine o (al' 102) ?_;refine z [1,2,32] ?_;refine cb (ca Wu) λr1=>?_;refine z [34,1,8] ?_;exact rt [(0,0)]
theorem Qdx{n:Nat}{x0_Arith_g}{x1}{x2}:∀ r,Vh n x0_Arith_g x1 x2=some r->FnOk Tryz.prog 345 [.agg [.agg [.own 0]],Kx x1,Xh x2] [(0,.bx 298 (Qp x0_Arith_g))] (Qd r) [(0,.bx 298 (Qp x0_Arith_g))]:=by
 unfold Vh
 refine fs Tryz.func345 λw S0 γ hγ=>?_;refine z [2] ?_;refine o (bx' 100) ?_;refine o (bx' 101) ?_;refine o (bx' 102) ?_;refine o (al' 103) ?_;refine z [1,5,2,33,36,1,7,2,41,31,1] ?_;refine c ?_ ?_
 . refine z [2,33] ?_
   refine s1 (ldB [0] rfl (by exact rfl) Qkf.h (by exact rfl) (by exact rfl) rfl rfl (.inl rfl)) ?_
   refine s1 (mkIf Tryz.underlying393 rfl rfl) ?_;refine z [33,36] ?_;refine b λr1 h2=>?_;refine s1 (okm rfl rfl (callI (em:=[(0,.bx 298 (Qp x0_Arith_g))]) (res':=Qd r1) [(0,0)] [] [(0,0)] rfl Q3w (Qs3 _ h2) (Zn (Kh (Vd rfl) (Wj))) ⟨⟨_,rfl,rn_id Jx⟩,trivial⟩ (MiF.get (mi:=[(0,_)]) ⟨⟨_,_,rfl,rfl,rc_bx (rn_id Kd)⟩,trivial⟩) ⟨⟨_,rfl⟩,trivial⟩ rfl trivial ⟨.inr rfl,trivial⟩ rfl ⟨.inl ⟨_,_,rfl,rfl,rc_bx (rn_id Kd)⟩,trivial⟩ ⟨⟨_,rfl⟩,trivial⟩ trivial (rn_id Jx) rfl)) ?_;refine z [34,1,8,12,10] ?_;exact rt [(0,0)]
 refine z [2,41,31,1] ?_;refine c ?_ ?_
 . refine z [2,33,36,33,36] ?_;refine b λy3 h4=>?_;refine z [43,42,34,1,8,12,10] ?_;exact rt [(0,0)]
 refine z [2,41,31,1] ?_;refine c ?_ ?_
 . refine z [2,33,36,33,36] ?_;refine b λy5 h6=>?_;refine z [43,42,34,1,8,12,10] ?_;exact rt [(0,0)]
 refine z [9,11,4,2,33,36,34,1,8] ?_;exact rt [(0,0)]
theorem Qdy{n:Nat}{x0_Arith_g}{x1}{x2}{x3}:∀ r,J0 n x0_Arith_g x1 x2 x3=some r->FnOk Tryz.prog 336 [.agg [.agg [.own 0]],Kx x1,Xh x2,.own 1] [(0,.bx 298 (Qp x0_Arith_g)),(1,.sl 53 3 (List.map Qd x3))] (.tup [Qd r.1,bl r.2]) [(0,.bx 298 (Qp x0_Arith_g)),(1,.sl 53 3 (List.map Qd x3))]:=by
 unfold J0
 refine fs Tryz.func336 λw S0 γ hγ=>?_;refine z [2] ?_;refine o (bx' 100) ?_;refine o (bx' 101) ?_;refine o (bx' 102) ?_;refine o (al' 103) ?_;refine z [31,1,5,2,33,36,1,7,2,41,31,1] ?_;refine c ?_ ?_
 . refine z [5] ?_;refine b λy1 h2=>?_;refine b λr3 h4=>?_;refine sd ?_;refine zd [[100]] ?_
   refine dx [14] [100] (λst mm ⟨a14,_⟩ ⟨g100,_⟩=>og (ldB [0] (g100.trans rfl) (by exact rfl) Qkf.h (by exact rfl) (by exact rfl) rfl (a14.trans rfl) (.inl rfl))) ?_
   refine dx [15] [] (λst mm ⟨a15,_⟩ _=>og (mkIf Tryz.underlying393 rfl (a15.trans rfl))) ?_;refine zd [[],[101],[101],[1],[1]] ?_;refine dx [16,21] [0] (λst mm ⟨a16,a21,_⟩ ⟨g0,_⟩=>og (okm (g0.trans rfl) rfl (callI (em:=[(0,.bx 298 (Qp x0_Arith_g))]) (res':=Qd r3) [(0,0)] [] [(0,0)] (a16.trans rfl) Q2c (Qr7 _ h4) (Zn (Kh (Vd rfl) (Wj))) ⟨⟨_,(a21.trans rfl),rn_id Jx⟩,trivial⟩ (MiF.get (mi:=[(0,_)]) ⟨⟨_,_,rfl,(g0.trans rfl),rc_bx (rn_id Kd)⟩,trivial⟩) ⟨⟨_,rfl⟩,trivial⟩ rfl trivial ⟨.inr rfl,trivial⟩ rfl ⟨.inl ⟨_,_,rfl,rfl,rc_bx (rn_id Kd)⟩,trivial⟩ ⟨⟨_,rfl⟩,trivial⟩ trivial (rn_id Jx) rfl))) ?_;refine zd [[103],[]] ?_;refine de fol ?_;refine z [4,8,12,10] ?_;exact rt [(0,0),(1,1)]
 refine z [2,41,31,1] ?_;refine c ?_ ?_
 . refine z [5] ?_;refine b λy5 h6=>?_;refine b λr7 h8=>?_;refine sd ?_;refine zd [[100]] ?_
   refine dx [25] [100] (λst mm ⟨a25,_⟩ ⟨g100,_⟩=>og (ldB [0] (g100.trans rfl) (by exact rfl) Qkf.h (by exact rfl) (by exact rfl) rfl (a25.trans rfl) (.inl rfl))) ?_
   refine dx [26] [] (λst mm ⟨a26,_⟩ _=>og (mkIf Tryz.underlying393 rfl (a26.trans rfl))) ?_;refine zd [[],[101],[101],[1],[1],[101],[101]] ?_;refine dx [27,32,34] [0] (λst mm ⟨a27,a32,a34,_⟩ ⟨g0,_⟩=>og (okm (g0.trans rfl) rfl (callI (em:=[(0,.bx 298 (Qp x0_Arith_g))]) (res':=.tup [Qd r7.1,bl r7.2]) [(0,0)] [] [(0,0)] (a27.trans rfl) Q2d (Qr8 _ h8) (Zn (Kh (Vd rfl) (Wj))) ⟨⟨_,(a32.trans rfl),rn_id Jx⟩,⟨_,(a34.trans rfl),rn_id Qen⟩,trivial⟩ (MiF.get (mi:=[(0,_)]) ⟨⟨_,_,rfl,(g0.trans rfl),rc_bx (rn_id Kd)⟩,trivial⟩) ⟨⟨_,rfl⟩,trivial⟩ rfl trivial ⟨.inr rfl,trivial⟩ rfl ⟨.inl ⟨_,_,rfl,rfl,rc_bx (rn_id Kd)⟩,trivial⟩ ⟨⟨_,rfl⟩,trivial⟩ trivial (Qdk (Kh (rn_id Jx) (Kh (rn_id if_bl) (Wj)))) rfl))) ?_;refine zd [[],[],[103],[]] ?_;refine de fol ?_;refine z [4,8,12,10] ?_;exact rt [(0,0),(1,1)]
 refine z [2,41,31,1] ?_;refine c ?_ ?_
 . refine z [5] ?_;refine b λy9 h10=>?_;refine b λy11 h12=>?_;refine b λr13 h14=>?_;refine sd ?_;refine zd [[100]] ?_
   refine dx [40] [100] (λst mm ⟨a40,_⟩ ⟨g100,_⟩=>og (ldB [0] (g100.trans rfl) (by exact rfl) Qkf.h (by exact rfl) (by exact rfl) rfl (a40.trans rfl) (.inl rfl))) ?_
   refine dx [41] [] (λst mm ⟨a41,_⟩ _=>og (mkIf Tryz.underlying393 rfl (a41.trans rfl))) ?_;refine zd [[],[101],[101],[1],[1],[],[101],[101],[1],[1]] ?_;refine dx [42,47,52] [0] (λst mm ⟨a42,a47,a52,_⟩ ⟨g0,_⟩=>og (okm (g0.trans rfl) rfl (callI (em:=[(0,.bx 298 (Qp x0_Arith_g))]) (res':=Qd r13) [(0,0)] [] [(0,0)] (a42.trans rfl) Q2e (Qr9 _ h14) (Zn (Kh (Vd rfl) (Wj))) ⟨⟨_,(a47.trans rfl),rn_id Jx⟩,⟨_,(a52.trans rfl),rn_id Jx⟩,trivial⟩ (MiF.get (mi:=[(0,_)]) ⟨⟨_,_,rfl,(g0.trans rfl),rc_bx (rn_id Kd)⟩,trivial⟩) ⟨⟨_,rfl⟩,trivial⟩ rfl trivial ⟨.inr rfl,trivial⟩ rfl ⟨.inl ⟨_,_,rfl,rfl,rc_bx (rn_id Kd)⟩,trivial⟩ ⟨⟨_,rfl⟩,trivial⟩ trivial (rn_id Jx) rfl))) ?_;refine zd [[103],[]] ?_;refine de fol ?_;refine z [4,8,12,10] ?_;exact rt [(0,0),(1,1)]
 refine z [2,41,31,1] ?_;refine c ?_ ?_
 . refine z [5] ?_;refine b λy15 h16=>?_;refine b λy17 h18=>?_;refine b λr19 h20=>?_;refine sd ?_;refine zd [[100]] ?_
   refine dx [56] [100] (λst mm ⟨a56,_⟩ ⟨g100,_⟩=>og (ldB [0] (g100.trans rfl) (by exact rfl) Qkf.h (by exact rfl) (by exact rfl) rfl (a56.trans rfl) (.inl rfl))) ?_
   refine dx [57] [] (λst mm ⟨a57,_⟩ _=>og (mkIf Tryz.underlying393 rfl (a57.trans rfl))) ?_;refine zd [[],[101],[101],[1],[1],[],[101],[101],[1],[1]] ?_;refine dx [58,63,68] [0] (λst mm ⟨a58,a63,a68,_⟩ ⟨g0,_⟩=>og (okm (g0.trans rfl) rfl (callI (em:=[(0,.bx 298 (Qp x0_Arith_g))]) (res':=Qd r19) [(0,0)] [] [(0,0)] (a58.trans rfl) Q2f (Qsa _ h20) (Zn (Kh (Vd rfl) (Wj))) ⟨⟨_,(a63.trans rfl),rn_id Jx⟩,⟨_,(a68.trans rfl),rn_id Jx⟩,trivial⟩ (MiF.get (mi:=[(0,_)]) ⟨⟨_,_,rfl,(g0.trans rfl),rc_bx (rn_id Kd)⟩,trivial⟩) ⟨⟨_,rfl⟩,trivial⟩ rfl trivial ⟨.inr rfl,trivial⟩ rfl ⟨.inl ⟨_,_,rfl,rfl,rc_bx (rn_id Kd)⟩,trivial⟩ ⟨⟨_,rfl⟩,trivial⟩ trivial (rn_id Jx) rfl))) ?_;refine zd [[103],[]] ?_;refine de fol ?_;refine z [4,8,12,10] ?_;exact rt [(0,0),(1,1)]
 refine z [2,41,31,1] ?_;refine c ?_ ?_
 . refine z [5] ?_;refine b λy21 h22=>?_;refine b λy23 h24=>?_;refine b λr25 h26=>?_;refine sd ?_;refine zd [[100]] ?_
   refine dx [72] [100] (λst mm ⟨a72,_⟩ ⟨g100,_⟩=>og (ldB [0] (g100.trans rfl) (by exact rfl) Qkf.h (by exact rfl) (by exact rfl) rfl (a72.trans rfl) (.inl rfl))) ?_
   refine dx [73] [] (λst mm ⟨a73,_⟩ _=>og (mkIf Tryz.underlying393 rfl (a73.trans rfl))) ?_;refine zd [[],[101],[101],[1],[1],[],[101],[101],[1],[1]] ?_;refine dx [74,79,84] [0] (λst mm ⟨a74,a79,a84,_⟩ ⟨g0,_⟩=>og (okm (g0.trans rfl) rfl (callI (em:=[(0,.bx 298 (Qp x0_Arith_g))]) (res':=Qd r25) [(0,0)] [] [(0,0)] (a74.trans rfl) Q2g (Qsb _ h26) (Zn (Kh (Vd rfl) (Wj))) ⟨⟨_,(a79.trans rfl),rn_id Jx⟩,⟨_,(a84.trans rfl),rn_id Jx⟩,trivial⟩ (MiF.get (mi:=[(0,_)]) ⟨⟨_,_,rfl,(g0.trans rfl),rc_bx (rn_id Kd)⟩,trivial⟩) ⟨⟨_,rfl⟩,trivial⟩ rfl trivial ⟨.inr rfl,trivial⟩ rfl ⟨.inl ⟨_,_,rfl,rfl,rc_bx (rn_id Kd)⟩,trivial⟩ ⟨⟨_,rfl⟩,trivial⟩ trivial (rn_id Jx) rfl))) ?_;refine zd [[103],[]] ?_;refine de fol ?_;refine z [4,8,12,10] ?_;exact rt [(0,0),(1,1)]
 refine z [2,41,31,1] ?_;refine c ?_ ?_
 . refine z [5] ?_;refine b λy27 h28=>?_;refine b λy29 h30=>?_;refine b λr31 h32=>?_;refine sd ?_;refine zd [[100]] ?_
   refine dx [88] [100] (λst mm ⟨a88,_⟩ ⟨g100,_⟩=>og (ldB [0] (g100.trans rfl) (by exact rfl) Qkf.h (by exact rfl) (by exact rfl) rfl (a88.trans rfl) (.inl rfl))) ?_
   refine dx [89] [] (λst mm ⟨a89,_⟩ _=>og (mkIf Tryz.underlying393 rfl (a89.trans rfl))) ?_;refine zd [[],[101],[101],[1],[1],[],[101],[101],[1],[1]] ?_;refine dx [90,95,100] [0] (λst mm ⟨a90,a95,a100,_⟩ ⟨g0,_⟩=>og (okm (g0.trans rfl) rfl (callI (em:=[(0,.bx 298 (Qp x0_Arith_g))]) (res':=.tup [Qd r31.1,bl r31.2]) [(0,0)] [] [(0,0)] (a90.trans rfl) Q2h (Qsc _ h32) (Zn (Kh (Vd rfl) (Wj))) ⟨⟨_,(a95.trans rfl),rn_id Jx⟩,⟨_,(a100.trans rfl),rn_id Jx⟩,trivial⟩ (MiF.get (mi:=[(0,_)]) ⟨⟨_,_,rfl,(g0.trans rfl),rc_bx (rn_id Kd)⟩,trivial⟩) ⟨⟨_,rfl⟩,trivial⟩ rfl trivial ⟨.inr rfl,trivial⟩ rfl ⟨.inl ⟨_,_,rfl,rfl,rc_bx (rn_id Kd)⟩,trivial⟩ ⟨⟨_,rfl⟩,trivial⟩ trivial (Qdk (Kh (rn_id Jx) (Kh (rn_id if_bl) (Wj)))) rfl))) ?_;refine zd [[],[],[103],[]] ?_;refine de fol ?_;refine z [4,8,12,10] ?_;exact rt [(0,0),(1,1)]
 refine z [9,11,4,2,32,32,32] ?_;refine b λr33 h34=>?_;refine o (cG (Qdx _ h34) [0] [] [0]) ?_;refine z [34,31,1,8] ?_;exact rt [(0,0),(1,1)]
theorem Qrf{n:Nat}{x0_g}{x1}:∀ r,Qa2 n x0_g x1=some r->FnOk Tryz.prog 370 [.agg [.own 0],Qd x1] [(0,.bx 298 (Qp x0_g))] (bl r.1) [(0,.bx 298 (Qp r.2))]:=by
 unfold Qa2
 refine fs Tryz.func370 λw S0 γ hγ=>?_;refine z [2] ?_;refine o (bx' 100) ?_;refine o (bx' 101) ?_;refine z [31,1,2,33,36,32] ?_;refine b λr1 h2=>?_;refine o (cG (Qhu _ h2) [0] [] []) ?_;refine z [31,1,8] ?_;exact rt [(0,0)]
theorem Qea{n:Nat}{x0_Arith_g}{x1}{x2}:∀ r,Kq n x0_Arith_g x1 x2=some r->FnOk Tryz.prog 322 [.agg [.agg [.own 0]],Kj x1,Xh x2] [(0,.bx 298 (Qp x0_Arith_g))] (.tup [sli 3 (List.map Qd r.1),Qv r.2.1]) [(0,.bx 298 (Qp r.2.2))]:=by
 unfold Kq
 refine fs Tryz.func322 λw S0 γ hγ=>?_;refine z [2] ?_;refine o (bx' 100) ?_;refine o (bx' 101) ?_;refine o (bx' 102) ?_;refine s1 (asg rfl (kLm (k:=3) Qd)) ?_;refine o (al' 103) ?_;refine z [1,5] ?_;refine sjq (λs5=>[(3,.own 100),(4,.own 101),(5,.own 102),(6,sli 3 (List.map Qd ([]:List Qb))),(7,.own 103),(31,bl s5)]) (λs5=>[(0,.bx 298 (Qp x0_Arith_g)),(100,.bx 395 (.agg [.agg [.own 0]])),(101,.bx 43 (Kj x1)),(102,.bx 397 (Xh x2)),(103,.bx 63 (Qv (⟨0,0,0,0⟩:Qe)))]) ?_ ?_
 . intro j3 hj4
   refine z [6,32] ?_;refine cb (ca Qma) λr6=>?_;refine z [44,30] ?_;refine sifd 16 rfl ?_ ?_
   . refine z [23,23,23,23,23,23,38,30,23,23,23,23,23,23,38,1] ?_;exact sj (hj4 _) (eR [(0,0),(100,100),(101,101),(102,102),(103,103)])
   refine z [22,22,22,22,22,22,37,30] ?_;refine sifd 24 rfl ?_ ?_
   . refine z [23,23,23,23,23,23,38,1] ?_;exact sj (hj4 _) (eR [(0,0),(100,100),(101,101),(102,102),(103,103)])
   refine z [22,22,22,22,22,22,37,1] ?_;exact sj (hj4 _) (eR [(0,0),(100,100),(101,101),(102,102),(103,103)])
 intro s5
 refine c ?_ ?_
 . refine z [2] ?_;refine s1 (bld (l:=[i64 (2:Int),i64 0,i64 0,i64 0]) pl_63.h ti_63.h Qu ⟨_,_,_,(kI (x:=2) rfl),rfl,rfl,rfl,(szk (k:=1) rfl rfl),rfl⟩ rfl) ?_;refine s1 (asg rfl (kLm (k:=3) Qd)) ?_;refine z [34,1,8,10] ?_;exact rt [(0,0)]
 refine z [9,4,2] ?_;refine so (asgN (y:=104) (E:=53) (k:=3) rfl rfl) ?_;refine z [1,5,2,33,36,39,30,1,7] ?_;refine srN (λs29=>[(3,.own 100),(5,.own 102),(6,sli 3 (List.map Qd ([]:List Qb))),(7,.own 103),(8,.own 104),(34,sli 6 (List.map Kx x1.Code))]) (λs29=>[(0,.bx 298 (Qp s29.1)),(100,.bx 395 (.agg [.agg [.own 0]])),(102,.bx 397 (Xh x2)),(103,.bx 63 (Qv (⟨0,0,0,0⟩:Qe))),(104,.sl 53 3 (List.map Qd s29.2))]) (rE (eR [(0,0),(100,100),(102,102),(103,103),(104,104)])) ?_ ?_
 . intro i30 x31 s29 hx32
   refine z [7,2,30,43,42] ?_;refine o (al' 105) ?_;refine z [31,34,1,2,32,32,32,30] ?_;refine b λr33 h34=>?_;refine o (cG (Qdy _ h34) [0,104] [] [0,104]) ?_;refine z [30,35,35] ?_;refine o (al' 106) ?_;refine z [34,31,1,5,7,2,30,44,31,1] ?_;refine c ?_ ?_
   . refine z [2,30] ?_;refine s1 (bld (l:=[i64 (3:Int),i64 0,i64 0,i64 (i30:Int)]) pl_63.h ti_63.h Qu ⟨_,_,_,(kI (x:=3) rfl),rfl,rfl,rfl,(szk (k:=1) rfl rfl),⟨_,_,_,rfl,rfl,rfl,rfl,(szk (k:=1) rfl rfl),rfl⟩⟩ rfl) ?_;refine s1 (asg rfl (kLm (k:=3) Qd)) ?_;refine z [34,1,8,12,10,12] ?_;refine sU ?_;refine z [12,10] ?_;exact rt [(0,0)]
   refine z [2,33] ?_
   refine s1 (ldB [0] rfl (by exact rfl) Qkf.h (by exact rfl) (by exact rfl) rfl rfl (.inl rfl)) ?_
   refine s1 (mkIf Tryz.underlying393 rfl rfl) ?_;refine z [32] ?_;refine b λr35 h36=>?_;refine so (callI (em:=[(0,.bx 298 (Qp r35.2))]) (res':=bl r35.1) [(0,0)] [] [(0,0)] rfl Q01 (Qrf _ h36) (Zn (Kh (Vd rfl) (Wj))) ⟨⟨_,rfl,rn_id Jx⟩,trivial⟩ (MiF.get (mi:=[(0,_)]) ⟨⟨_,_,rfl,rfl,rc_bx (rn_id Kd)⟩,trivial⟩) ⟨⟨_,rfl⟩,trivial⟩ rfl trivial ⟨.inr rfl,trivial⟩ rfl ⟨.inl ⟨_,_,rfl,rfl,rc_bx (rn_id Kd)⟩,trivial⟩ ⟨⟨_,rfl⟩,trivial⟩ trivial (rn_id if_bl) rfl) ?_;refine z [44,31,1] ?_;refine c ?_ ?_
   . refine z [2,30] ?_;refine s1 (bld (l:=[i64 (6:Int),i64 0,i64 0,i64 (i30:Int)]) pl_63.h ti_63.h Qu ⟨_,_,_,(kI (x:=6) rfl),rfl,rfl,rfl,(szk (k:=1) rfl rfl),⟨_,_,_,rfl,rfl,rfl,rfl,(szk (k:=1) rfl rfl),rfl⟩⟩ rfl) ?_;refine s1 (asg rfl (kLm (k:=3) Qd)) ?_;refine z [34,1,8,12,10,12] ?_;refine sU ?_;refine z [12,10] ?_;exact rt [(0,0)]
   refine z [9,11,4,6,30,32] ?_
   refine so (bsl (y:=107) (ls:=List.map Qd ([r33.1]:List Qb)) Tryz.underlying44 ti_53.h rfl rfl rfl rfl rfl ⟨rfl,rfl,(by exact rfl),(by exact rfl),trivial⟩ rfl rfl) ?_
   refine b λy37 h38=>?_;refine o (app' 108) ?_;refine z [31,3,11] ?_;exact sgo (eR [(0,0),(100,100),(102,102),(103,103),(104,108)])
 intro s39
 refine z [13,4,2,30] ?_;refine s1 (bld (l:=[i64 0,i64 0,i64 0,i64 0]) pl_63.h ti_63.h Qu rfl rfl) ?_;refine z [31,34,1,8] ?_;refine fz 104 [6,8,68] [] ?_;exact rt [(0,0)]
end Go.Proofs.YtlihkcaoachkdaaGreatDoor
