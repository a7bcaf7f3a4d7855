import Derived.Test.YtlihkcaoachkdaaGreatDoorGen0
import Derived.Test.YtlihkcaoachkdaaGreatDoorGenA1
import Derived.Test.YtlihkcaoachkdaaGreatDoorGenA2
set_option maxRecDepth 100000
set_option maxHeartbeats 4000000
namespace Go.Proofs.YtlihkcaoachkdaaGreatDoor
open Go Go.RowKit
theorem Qt8{n:Nat}{x0}{x1}:∀ r,Qck n x0 x1=some r->FnOk Tryz.prog 231 [Ju x0,i64 x1] [] (bl r) []:=by
 unfold Qck
 refine fs Tryz.func231 λw S0 γ hγ=>?_;refine z [2] ?_;refine o (bx' 100) ?_;refine z [31,1,2,33,36,30] ?_;refine b λy1 h2=>?_;refine z [43,42] ?_;refine o (al' 101) ?_;refine z [34,1,5,2,33,36,41,1] ?_;refine c ?_ ?_
 . refine sjq (λs9=>[(1,i64 x1),(2,.own 100),(4,bl s9),(5,.own 101)]) (λs9=>[(100,.bx 43 (Ju x0)),(101,.bx 164 (Jy y1))]) ?_ ?_
   . intro j7 hj8
     refine z [6,32] ?_;refine cb (ca Qpm) λr10=>?_;refine s1 (bld (l:=[i64 (1:Int),i64 0,i64 0]) Qre.h Qki.h Qbo ⟨_,_,_,(kI (x:=1) rfl),rfl,rfl,rfl,(szk (k:=1) rfl rfl),rfl⟩ rfl) ?_;refine s1 (eqA (p:=(r10:Jo)) (q:=((⟨(1:Int),0,0⟩:Jo):Jo)) Qrf rfl Qu9 rfl rfl rfl) ?_;refine z [30] ?_;refine sifd 20 rfl ?_ ?_
     . refine z [22,22] ?_;refine b λr12 h13=>?_;refine og' (c0 (Qel _ h13)) ?_;refine z [38,31,1] ?_;exact sj (hj8 _) (eR [(100,100),(101,101)])
     refine z [23,23,23,37,31,1] ?_;exact sj (hj8 _) (eR [(100,100),(101,101)])
   intro s9
   refine z [8,10] ?_;exact rt []
 refine z [9,4,5,2,33,36] ?_;refine cb (ca Qrq) λr14=>?_;refine z [44,1] ?_;refine c ?_ ?_
 . refine z [2,31,1,8,10] ?_;exact rt []
 refine z [9,4,5,2,32] ?_;refine cb (ca Qkm) λr16=>?_;refine z [39,30,1,7] ?_;refine srN (λs25=>[(1,i64 x1),(2,.own 100),(4,bl false),(5,.own 101),(30,sli 1 (List.map i64 r16))]) (λs25=>[(100,.bx 43 (Ju x0)),(101,.bx 164 (Jy y1))]) (rE (eR [(100,100),(101,101)])) ?_ ?_
 . intro i26 x27 s25 hx28
   refine z [7,2,43,42,31,1,2,30,30] ?_;refine cb (ca Qak) λr29=>?_;refine z [44,1] ?_;refine c ?_ ?_
   . refine z [2,31,1,8,12] ?_;refine sU ?_;refine z [12,10] ?_;exact rt []
   refine z [9,11] ?_;exact sgo (eR [(100,100),(101,101)])
 intro s31
 refine z [13,4,5,2,33,36,1,7,2,41,31,1] ?_;refine c ?_ ?_
 . refine z [2,32] ?_;refine cb (ca Qpm) λr32=>?_;refine s1 (bld (l:=[i64 (2:Int),i64 0,i64 0]) Qre.h Qki.h Qbo ⟨_,_,_,(kI (x:=2) rfl),rfl,rfl,rfl,(szk (k:=1) rfl rfl),rfl⟩ rfl) ?_;refine s1 (eqA (p:=(r32:Jo)) (q:=((⟨(2:Int),0,0⟩:Jo):Jo)) Qrf rfl Qu9 rfl rfl rfl) ?_;refine z [31,1,8,12,10] ?_;exact rt []
 refine z [2,41,31,1] ?_;refine c ?_ ?_
 . refine sjq (λs38=>[(4,bl s38),(5,.own 101)]) (λs38=>[(101,.bx 164 (Jy y1))]) ?_ ?_
   . intro j36 hj37
     refine z [6,33,36,33,36] ?_;refine cb (ca Qak) λr39=>?_;refine z [30] ?_;refine sifd 56 rfl ?_ ?_
     . refine z [22,22,22,38,31,1] ?_;exact sj (hj37 _) (eR [(101,101)])
     refine z [23,23,23,37,31,1] ?_;exact sj (hj37 _) (eR [(101,101)])
   intro s38
   refine z [8,12,10] ?_;exact rt []
 refine z [2,41,31,1] ?_;refine c ?_ ?_
 . refine sjq (λs45=>[(4,bl s45),(5,.own 101)]) (λs45=>[(101,.bx 164 (Jy y1))]) ?_ ?_
   . intro j43 hj44
     refine z [6,33,36,33,36] ?_;refine cb (ca Qak) λr46=>?_;refine z [30] ?_;refine sifd 68 rfl ?_ ?_
     . refine z [22,22,22,38,31,1] ?_;exact sj (hj44 _) (eR [(101,101)])
     refine z [23,23,23,37,31,1] ?_;exact sj (hj44 _) (eR [(101,101)])
   intro s45
   refine z [8,12,10] ?_;exact rt []
 refine z [2,41,31,1] ?_;refine c ?_ ?_
 . refine z [2,33,36,41,31,1,8,12,10] ?_;exact rt []
 refine z [2,41,31,1] ?_;refine c ?_ ?_
 . refine sjq (λs50=>[(4,bl s50),(5,.own 101)]) (λs50=>[(101,.bx 164 (Jy y1))]) ?_ ?_
   . intro j48 hj49
     refine z [6,33,36,57,30] ?_;refine sifd 83 rfl ?_ ?_
     . refine z [22,22,22,38,31,1] ?_;exact sj (hj49 _) (eR [(101,101)])
     refine z [23,23,23,37,31,1] ?_;exact sj (hj49 _) (eR [(101,101)])
   intro s50
   refine z [8,12,10] ?_;exact rt []
 refine z [9,11,4,2,32] ?_;refine cb (ca Qkm) λr51=>?_;refine z [39,41,31,1,8] ?_;exact rt []
theorem Qrr{n:Nat}{x0}:∀ r,Qd2 n x0=some r->FnOk Tryz.prog 189 [Ju x0] [] (i64 r) []:=by
 unfold Qd2
 refine fs Tryz.func189 λw S0 γ hγ=>?_;refine z [2] ?_;refine o (bx' 100) ?_;refine z [31,1,5,2,32] ?_;refine cb (ca Qrp) λr1=>?_;refine z [44,1] ?_;refine c ?_ ?_
 . refine z [2,31,1,8,10] ?_;exact rt []
 refine z [9,4,5,2,33,36,39,30,1,7] ?_;refine srN (λs10=>[(1,.own 100),(2,i64 (0:Int))]) (λs10=>[(100,.bx 43 (Ju x0))]) (rE (eR [(100,100)])) ?_ ?_
 . intro i11 x12 s10 hx13
   refine z [7,2,30,31,1,2,32,30] ?_;refine cb (ca Qt8) λr14=>?_;refine z [44,1] ?_;refine c ?_ ?_
   . refine z [2,30,31,1,8,12] ?_;refine sU ?_;refine z [12,10] ?_;exact rt []
   refine z [9,11] ?_;exact sgo (eR [(100,100)])
 intro s16
 refine z [13,4,5,2,33,36,39,30,1,7] ?_;refine srN (λs24=>[(1,.own 100),(2,i64 (0:Int)),(22,sli 1 (List.map i64 x0.Outs))]) (λs24=>[(100,.bx 43 (Ju x0))]) (rE (eR [(100,100)])) ?_ ?_
 . intro i25 x26 s24 hx27
   refine z [7,2,43,42,31,1,2,30,33,36,39] ?_;refine cb (ca Qak) λr28=>?_;refine z [44,1] ?_;refine c ?_ ?_
   . refine z [2,33,36,39,31,1,8,12] ?_;refine sU ?_;refine z [12,10] ?_;exact rt []
   refine z [9,11] ?_;exact sgo (eR [(100,100)])
 intro s30
 refine z [13,4,2,31,1,8] ?_;exact rt []
theorem Qg7{n:Nat}{x0}:∀ r,Xd n x0=some r->FnOk Tryz.prog 121 [Ju x0] [] (bl r) []:=by
 unfold Xd
 refine fs Tryz.func121 λw S0 γ hγ=>?_;refine z [2] ?_;refine o (bx' 100) ?_;refine z [31,1,2,32] ?_;refine cb (ca Qrr) λr1=>?_;refine z [41,31,1,8] ?_;exact rt []
theorem Qil{n:Nat}{x0}:∀ r,Yu n x0=some r->FnOk Tryz.prog 122 [Q3 x0] [] (bl r) []:=by
 unfold Yu
 refine fs Tryz.func122 λw S0 γ hγ=>?_;refine z [2] ?_;refine o (bx' 100) ?_;refine z [31,1,2,32] ?_;refine cb (ca Qik) λr1=>?_;refine z [41,31,1,8] ?_;exact rt []
theorem Qg8{n:Nat}{x0}:∀ r,X1 n x0=some r->FnOk Tryz.prog 65 [Qv x0] [] (bl r) []:=by
 unfold X1
 refine fs Tryz.func65 λw S0 γ hγ=>?_;refine z [2] ?_;refine o (bx' 100) ?_;refine z [31,1] ?_;refine sjq (λs7=>[(2,bl s7)]) (λs7=>[]) ?_ ?_
 . intro j5 hj6
   refine z [6,33,36] ?_;refine cb (ca Qg7) λr8=>?_;refine z [30] ?_;refine sifd 6 rfl ?_ ?_
   . refine z [22,22] ?_;refine b λr10 h11=>?_;refine og' (c0 (Qil _ h11)) ?_;refine z [38,30] ?_;refine sifd 11 rfl ?_ ?_
     . refine z [22,22,22,22,22,22,22,38,31,1] ?_;exact sj (hj6 _) (eR [])
     refine z [23,23,23,23,23,23,23,37,31,1] ?_;exact sj (hj6 _) (eR [])
   refine z [23,23,23,37,30,23,23,23,23,23,23,23,37,31,1] ?_;exact sj (hj6 _) (eR [])
 intro s7
 refine z [8] ?_;exact rt []
theorem Qof{n:Nat}{x0}:∀ r,Qai n x0=some r->FnOk Tryz.prog 191 [sli 3 (List.map Qb x0)] [] (bl r) []:=by
 unfold Qai
 refine fs Tryz.func191 λw S0 γ hγ=>?_;refine z [2,31,1,5,2,30,39,30,1,7] ?_;refine srN (λs17=>[(2,bl false),(5,sli 3 (List.map Qb x0))]) (λs17=>[]) (rE eI) ?_ ?_
 . intro i18 x19 s17 hx20
   refine z [7,2,43,42] ?_;refine o (al' 100) ?_;refine z [34,1] ?_;refine sjq (λs27=>[(2,bl false),(5,sli 3 (List.map Qb x0)),(6,i64 (x0.length:Int)),(7,i64 (i18:Int)),(18,bl s27)]) (λs27=>[]) ?_ ?_
   . intro j25 hj26
     refine z [6,32] ?_;refine cb (ca Qel) λr28=>?_;refine z [44,30] ?_;refine sifd 14 rfl ?_ ?_
     . refine z [23,23,23,38,1] ?_;exact sj (hj26 _) (eR [])
     refine z [22] ?_;refine b λr30 h31=>?_;refine og' (c0 (Qia _ h31)) ?_;refine z [22,37,1] ?_;exact sj (hj26 _) (eR [])
   intro s27
   refine c ?_ ?_
   . refine z [2,31,1,8,12] ?_;refine sU ?_;refine z [12,10] ?_;exact rt []
   refine z [9,11] ?_;exact sgo eI
 intro s32
 refine z [13,4,2,31,1,8] ?_;exact rt []
theorem Xy{n:Nat}{x0}:∀ r,Kq n x0=some r->FnOk Tryz.prog 68 [Qb x0] [] (i64 r) []:=by
 unfold Kq
 refine fs Tryz.func68 λw S0 γ hγ=>?_;refine z [2] ?_;refine o (bx' 100) ?_;refine z [31,1,2,32] ?_;refine cb (ca Vi) λr1=>?_;refine z [30,35,35] ?_;refine o (al' 101) ?_;refine z [34,31,1,2,32] ?_;refine cb (ca Qce) λr3=>?_;refine z [31,1,8] ?_;exact rt []
theorem Qg9{n:Nat}{x0}:∀ r,Y1 n x0=some r->FnOk Tryz.prog 192 [Qb x0] [] (bl r) []:=by
 unfold Y1
 refine fs Tryz.func192 λw S0 γ hγ=>?_;refine z [2] ?_;refine o (bx' 100) ?_;refine z [31,1,2,32] ?_;refine cb (ca Xy) λr1=>?_;refine z [47,31,1,8] ?_;exact rt []
theorem Qrs{n:Nat}{x0}:∀ r,Qed n x0=some r->FnOk Tryz.prog 123 [Kb x0] [] (i64 r) []:=by
 unfold Qed
 refine fs Tryz.func123 λw S0 γ hγ=>?_;refine z [2] ?_;refine o (bx' 100) ?_;refine z [31,1,2] ?_;refine cb (ca J3) λr1=>?_;refine o (al' 101) ?_;refine z [34,1,5,7,2,33,36,33,36,33,36,33,36,33,36] ?_
 refine so (bsl (y:=102) (ls:=List.map Qb ([x0.Tol,x0.Safe,x0.Low,x0.High,x0.Least]:List Qa)) Tryz.underlying44 ti_53.h rfl rfl rfl rfl rfl ⟨rfl,rfl,(by exact rfl),(by exact rfl),rfl,rfl,(by exact rfl),(by exact rfl),rfl,rfl,(by exact rfl),(by exact rfl),rfl,rfl,(by exact rfl),(by exact rfl),rfl,rfl,(by exact rfl),(by exact rfl),trivial⟩ rfl rfl) ?_
 refine b λr3 h4=>?_
 refine s1 (callL (em:=[]) [102] [] [] [] rfl (Qof _ h4) trivial (pl_bl) ⟨.inr ⟨102,rfl,.inl ⟨rfl,.inl ⟨_,_,_,rfl,K1 (f:=Qb) (λ_=>Jd) ([x0.Tol,x0.Safe,x0.Low,x0.High,x0.Least]:List Qa),rfl⟩⟩⟩,trivial⟩ (λ_ _ h=>by cases h) trivial rfl trivial trivial rfl trivial trivial trivial (rn_id (if_bl)) rfl) ?_
 refine z [44,31,1] ?_;refine c ?_ ?_
 . refine z [2,31,1,8,12,10] ?_;exact rt []
 refine z [2,33,36] ?_;refine cb (ca Xy) λr5=>?_;refine z [46,31,1] ?_;refine c ?_ ?_
 . refine z [2,31,1,8,12,10] ?_;exact rt []
 refine sjq (λs13=>[(1,.own 100),(2,i64 (0:Int)),(3,.own 101),(24,bl s13)]) (λs13=>[(100,.bx 55 (Kb x0)),(101,.bx 53 (Qb r1))]) ?_ ?_
 . intro j11 hj12
   refine z [6,33,36] ?_;refine cb (ca Qg9) λr14=>?_;refine z [44,30] ?_;refine sifd 29 rfl ?_ ?_
   . refine z [23,23,23,23,23,38,31,1] ?_;exact sj (hj12 _) (eR [(100,100),(101,101)])
   refine z [22,22,22] ?_;refine b λr16 h17=>?_;refine og' (c0 (Wy _ h17)) ?_;refine z [22,37,31,1] ?_;exact sj (hj12 _) (eR [(100,100),(101,101)])
 intro s13
 refine c ?_ ?_
 . refine z [2,31,1,8,12,10] ?_;exact rt []
 refine sjq (λs24=>[(1,.own 100),(2,i64 (0:Int)),(3,.own 101),(36,bl s24)]) (λs24=>[(100,.bx 55 (Kb x0)),(101,.bx 53 (Qb r1))]) ?_ ?_
 . intro j22 hj23
   refine z [6,33,36] ?_;refine cb (ca Qg9) λr25=>?_;refine z [44,30] ?_;refine sifd 41 rfl ?_ ?_
   . refine z [23,23,23,23,23,38,31,1] ?_;exact sj (hj23 _) (eR [(100,100),(101,101)])
   refine z [22,22,22] ?_;refine b λr27 h28=>?_;refine og' (c0 (Wy _ h28)) ?_;refine z [22,37,31,1] ?_;exact sj (hj23 _) (eR [(100,100),(101,101)])
 intro s24
 refine c ?_ ?_
 . refine z [2,31,1,8,12,10] ?_;exact rt []
 refine z [2,33,36,32] ?_;refine cb (ca Wy) λr29=>?_;refine z [46,31,1] ?_;refine c ?_ ?_
 . refine z [2,31,1,8,12,10] ?_;exact rt []
 refine z [2,33,36] ?_;refine cb (ca Qg9) λr31=>?_;refine z [44,31,1] ?_;refine c ?_ ?_
 . refine z [2,31,1,8,12,10] ?_;exact rt []
 refine sjq (λs35=>[(1,.own 100),(2,i64 (0:Int)),(59,bl s35)]) (λs35=>[(100,.bx 55 (Kb x0))]) ?_ ?_
 . intro j33 hj34
   refine z [6,33,36,46,30] ?_;refine sifd 63 rfl ?_ ?_
   . refine z [23,23,23,38,31,1] ?_;exact sj (hj34 _) (eR [(100,100)])
   refine z [22,22,22,37,31,1] ?_;exact sj (hj34 _) (eR [(100,100)])
 intro s35
 refine c ?_ ?_
 . refine z [2,31,1,8,12,10] ?_;exact rt []
 refine sjq (λs38=>[(2,i64 (0:Int)),(68,bl s38)]) (λs38=>[]) ?_ ?_
 . intro j36 hj37
   refine z [6,33,36,46,30] ?_;refine sifd 72 rfl ?_ ?_
   . refine z [23,23,23,38,31,1] ?_;exact sj (hj37 _) (eR [])
   refine z [22,22,22,37,31,1] ?_;exact sj (hj37 _) (eR [])
 intro s38
 refine c ?_ ?_
 . refine z [2,31,1,8,12,10] ?_;exact rt []
 refine z [9,11,4,2,31,1,8] ?_;exact rt []
theorem Qrt{n:Nat}{x0}:∀ r,Qb9 n x0=some r->FnOk Tryz.prog 66 [Kb x0] [] (bl r) []:=by
 unfold Qb9
 refine fs Tryz.func66 λw S0 γ hγ=>?_;refine z [2] ?_;refine o (bx' 100) ?_;refine z [31,1,2,32] ?_;refine cb (ca Qrs) λr1=>?_;refine z [41,31,1,8] ?_;exact rt []
theorem Qqd{n:Nat}{x0}:∀ r,Zd n x0=some r->FnOk Tryz.prog 16 [Ja x0] [] (bl r) []:=by
 unfold Zd
 refine fs Tryz.func16 λw S0 γ hγ=>?_;refine z [2] ?_;refine o (bx' 100) ?_;refine z [31,1] ?_;refine sjq (λs11=>[(2,bl s11)]) (λs11=>[]) ?_ ?_
 . intro j9 hj10
   refine z [6,33,36] ?_;refine cb (ca Qg8) λr12=>?_;refine z [30] ?_;refine sifd 6 rfl ?_ ?_
   . refine z [22,22] ?_;refine b λr14 h15=>?_;refine og' (c0 (Qrt _ h15)) ?_;refine z [38,30] ?_;refine sifd 11 rfl ?_ ?_
     . refine z [22,22,22,22,22,22,22,22,38,30] ?_;refine sifd 21 rfl ?_ ?_
       . refine z [22,22,22,22] ?_;refine b λr16 h17=>?_;refine og' (c0 (Wy _ h17)) ?_;refine z [22,38,30] ?_;refine sifd 29 rfl ?_ ?_
         . refine z [22,22] ?_;refine b λr18 h19=>?_;refine og' (c0 (Xy _ h19)) ?_;refine z [22,38,31,1] ?_;exact sj (hj10 _) (eR [])
         refine z [23,23,23,23,37,31,1] ?_;exact sj (hj10 _) (eR [])
       refine z [23,23,23,23,23,23,37,30,23,23,23,23,37,31,1] ?_;exact sj (hj10 _) (eR [])
     refine z [23,23,23,23,23,23,23,23,37,30,23,23,23,23,23,23,37,30,23,23,23,23,37,31,1] ?_;exact sj (hj10 _) (eR [])
   refine z [23,23,23,37,30,23,23,23,23,23,23,23,23,37,30,23,23,23,23,23,23,37,30,23,23,23,23,37,31,1] ?_;exact sj (hj10 _) (eR [])
 intro s11
 refine z [8] ?_;exact rt []
theorem Qaz{n:Nat}{x0}{x1}:∀ r,Wv n x0 x1=some r->FnOk Tryz.prog 102 [Qb x0,Qb x1] [] (Qb r) []:=by
 unfold Wv
 refine fs Tryz.func102 λw S0 γ hγ=>?_;refine z [2] ?_;refine o (bx' 100) ?_;refine o (bx' 101) ?_;refine o (al' 102) ?_;refine z [1,2,32] ?_;refine cb (ca Vi) λr1=>?_;refine z [30,35,35] ?_;refine o (al' 103) ?_;refine z [34,31,1,2,32] ?_;refine cb (ca Vi) λr3=>?_;refine z [30,35,35] ?_;refine o (al' 104) ?_;refine z [34,31,1,2,32,32] ?_;refine cb (ca Qib) λr5=>?_;refine z [30,30] ?_;refine cb (ca Zu) λr7=>?_;refine cb (ca Zg) λr9=>?_;refine z [34,1,8] ?_;exact rt []
theorem Qc5{n:Nat}{x0}{x1}:∀ r,W9 n x0 x1=some r->FnOk Tryz.prog 52 [Qb x0,sli 3 (List.map Qb x1)] [] (.own 50) [(50,.sl 53 3 (List.map Qb r))]:=by
 unfold W9
 refine fs Tryz.func52 λw S0 γ hγ=>?_;refine z [2] ?_;refine o (bx' 100) ?_;refine s1 (asg rfl (kLm (k:=3) Qb)) ?_;refine z [1,2] ?_;refine so (asgN (y:=101) (E:=53) (k:=3) rfl rfl) ?_;refine z [1,5,2,30,39,30,1,7] ?_;refine srN (λs18=>[(2,.own 100),(4,sli 3 (List.map Qb ([]:List Qa))),(5,.own 101),(8,sli 3 (List.map Qb x1))]) (λs18=>[(100,.bx 53 (Qb x0)),(101,.sl 53 3 (List.map Qb s18))]) (rE (eR [(100,100),(101,101)])) ?_ ?_
 . intro i19 x20 s18 hx21
   refine z [7,2,43,42] ?_;refine o (al' 102) ?_;refine z [34,1,6,30,32,32] ?_;refine cb (ca Qaz) λr22=>?_
   refine so (bsl (y:=103) (ls:=List.map Qb ([r22]:List Qa)) Tryz.underlying44 ti_53.h rfl rfl rfl rfl rfl ⟨rfl,rfl,(by exact rfl),(by exact rfl),trivial⟩ rfl rfl) ?_
   refine b λy24 h25=>?_;refine o (app' 104) ?_;refine z [31,3,11] ?_;exact sgo (eR [(100,100),(101,104)])
 intro s26
 refine z [13,4,2,30,31,1,8] ?_;exact rt [(50,101)]
theorem Qid{n:Nat}{x0_k}{x0_h_Tries}{x0_h_T}{x0_h_Y}{x0_want}:∀ r,Vv n x0_k x0_h_Tries x0_h_T x0_h_Y x0_want=some r->FnOk Tryz.prog 54 [.own 0] [(0,.bx 119 (.agg [Ja x0_k,.agg [.own 1,Qb x0_h_T,sli 3 (List.map Qb x0_h_Y)],Qb x0_want])),(1,.sl 82 14 (List.map Qz x0_h_Tries))] (bl r) [(0,.bx 119 (.agg [Ja x0_k,.agg [.own 1,Qb x0_h_T,sli 3 (List.map Qb x0_h_Y)],Qb x0_want])),(1,.sl 82 14 (List.map Qz x0_h_Tries))]:=by
 unfold Vv
 refine fs Tryz.func54 λw S0 γ hγ=>?_;refine z [2,31,1,5] ?_;refine b λr1 h2=>?_;refine sd ?_;refine zd [[],[0],[0],[],[0],[],[0],[0],[],[0]] ?_;refine dd [] (λ_ _ _ _=>c0 (J7 _ h2)) ?_;refine zd [[]] ?_;refine de fol ?_;refine z [4,8] ?_;exact rt [(0,0),(1,1)]
theorem Qru{n:Nat}{x0}{x1}:∀ r,Qb8 n x0 x1=some r->FnOk Tryz.prog 103 [Kb x0,Qb x1] [] (bl r) []:=by
 unfold Qb8
 refine fs Tryz.func103 λw S0 γ hγ=>?_;refine z [2] ?_;refine o (bx' 100) ?_;refine o (bx' 101) ?_;refine z [31,1,2,32,33,36] ?_;refine cb (ca Wy) λr1=>?_;refine z [46,31,1,8] ?_;exact rt []
theorem Qim{n:Nat}{x0_k}{x0_h_Tries}{x0_h_T}{x0_h_Y}{x0_want}:∀ r,Kz n x0_k x0_h_Tries x0_h_T x0_h_Y x0_want=some r->FnOk Tryz.prog 55 [.own 0] [(0,.bx 119 (.agg [Ja x0_k,.agg [.own 1,Qb x0_h_T,sli 3 (List.map Qb x0_h_Y)],Qb x0_want])),(1,.sl 82 14 (List.map Qz x0_h_Tries))] (Qi r) [(0,.bx 119 (.agg [Ja x0_k,.agg [.own 1,Qb x0_h_T,sli 3 (List.map Qb x0_h_Y)],Qb x0_want])),(1,.sl 82 14 (List.map Qz x0_h_Tries))]:=by
 unfold Kz
 refine fs Tryz.func55 λw S0 γ hγ=>?_;refine z [2] ?_;refine o (al' 100) ?_;refine z [1,2,30,48,33,45,36,55,31,1,5,7,2,30,30,48,33,45,45,36,41,31,1] ?_;refine c ?_ ?_
 . refine z [2,30,40] ?_;refine s1 (bld (l:=[i64 (5:Int),i64 (wrap64 ((x0_h_Tries.length:Int)+(1:Int))),i64 0,i64 0]) pl_63.h ti_63.h Ql ⟨_,_,_,(kI (x:=5) rfl),rfl,rfl,rfl,(szk (k:=1) rfl rfl),⟨_,_,_,rfl,rfl,rfl,rfl,(szk (k:=1) rfl rfl),rfl⟩⟩ rfl) ?_;refine z [34,1,8,12,10] ?_;exact rt [(0,0),(1,1)]
 refine z [5] ?_;refine b λr1 h2=>?_;refine sd ?_;refine zd [[],[0],[0],[],[0],[],[0],[0],[0]] ?_;refine dd [] (λ_ _ _ _=>c0 (Qru _ h2)) ?_;refine zd [[]] ?_;refine de fol ?_;refine z [4] ?_;refine c ?_ ?_
 . refine z [2,30,40] ?_;refine s1 (bld (l:=[i64 (4:Int),i64 (wrap64 ((x0_h_Tries.length:Int)+(1:Int))),i64 0,i64 0]) pl_63.h ti_63.h Ql ⟨_,_,_,(kI (x:=4) rfl),rfl,rfl,rfl,(szk (k:=1) rfl rfl),⟨_,_,_,rfl,rfl,rfl,rfl,(szk (k:=1) rfl rfl),rfl⟩⟩ rfl) ?_;refine z [34,1,8,12,10] ?_;exact rt [(0,0),(1,1)]
 refine z [9,11,4,2] ?_;refine s1 (bld (l:=[i64 0,i64 0,i64 0,i64 0]) pl_63.h ti_63.h Ql rfl rfl) ?_;refine z [34,1,8] ?_;exact rt [(0,0),(1,1)]
theorem Qin{x0}{x1}:∀ r,Vw x0 x1=some r->FnOk Tryz.prog 53 [Qi x0,.own 0] [(0,.bx 63 (Qi x1))] (bl r.1) [(0,.bx 63 (Qi r.2))]:=by
 unfold Vw
 refine fs Tryz.func53 λw S0 γ hγ=>?_;refine z [2] ?_;refine o (bx' 100) ?_;refine z [31,1,2,32,34,1,2,32] ?_;refine s1 (bld (l:=[i64 0,i64 0,i64 0,i64 0]) pl_63.h ti_63.h Ql rfl rfl) ?_;refine s1 (neA (p:=(x0:Qc)) (q:=((⟨0,0,0,0⟩:Qc):Qc)) J9 rfl eg_63 rfl rfl rfl) ?_;refine z [31,1,8] ?_;exact rt [(0,0)]
theorem Qi8{n:Nat}{x0}{x1}:∀ r,Qav n x0 x1=some r->FnOk Tryz.prog 29 [Qb x0,Qb x1] [] (Qb r) []:=by
 unfold Qav
 refine fs Tryz.func29 λw S0 γ hγ=>?_;refine z [2] ?_;refine o (bx' 100) ?_;refine o (bx' 101) ?_;refine o (al' 102) ?_;refine z [1,2,32] ?_;refine cb (ca Vi) λr1=>?_;refine z [30,35,35] ?_;refine o (al' 103) ?_;refine z [34,31,1,2,32] ?_;refine cb (ca Vi) λr3=>?_;refine z [30,35,35] ?_;refine o (al' 104) ?_;refine z [34,31,1,5] ?_;refine b λr5 h6=>?_;refine b λr7 h8=>?_;refine b λr9 h10=>?_;refine b λr11 h12=>?_;refine b λr13 h14=>?_;refine sd ?_;refine zd [[103],[]] ?_;refine dd [] (λ_ _ _ _=>c0 (Y6 _ h6)) ?_;refine zd [[104],[]] ?_;refine dd [] (λ_ _ _ _=>c0 (Y6 _ h8)) ?_;refine dd [] (λ_ _ _ _=>c0 (Qfk _ h10)) ?_;refine zd [[],[]] ?_;refine dd [] (λ_ _ _ _=>c0 (Zu _ h12)) ?_;refine dd [] (λ_ _ _ _=>c0 (Zg _ h14)) ?_;refine zd [[102]] ?_;refine de fol ?_;refine z [4,8] ?_;exact rt []
theorem Qt9{n:Nat}{x0}{x1}{x2}:∀ r,Qd1 n x0 x1 x2=some r->FnOk Tryz.prog 104 [Qb x0,Qb x1,Qb x2] [] (Qb r) []:=by
 unfold Qd1
 refine fs Tryz.func104 λw S0 γ hγ=>?_;refine z [2] ?_;refine o (bx' 100) ?_;refine o (bx' 101) ?_;refine o (bx' 102) ?_;refine o (al' 103) ?_;refine z [1,2,32,32] ?_;refine cb (ca Qi8) λr1=>?_;refine o (al' 104) ?_;refine z [34,1,5,2,32,32] ?_;refine cb (ca Wy) λr3=>?_;refine z [47,1] ?_;refine c ?_ ?_
 . refine z [2,32,34,1,8,10] ?_;exact rt []
 refine z [9,4,2,32] ?_;refine cb (ca J0) λr5=>?_;refine z [34,1,8] ?_;exact rt []
theorem Qlv{x0}:∀ r,Qbj x0=some r->FnOk Tryz.prog 170 [i64 x0] [] (.own 50) [(50,.bx 298 (Qm r))]:=by
 unfold Qbj
 refine fs Tryz.func170 λw S0 γ hγ=>?_;refine z [2,31,1,2,30,88,89] ?_;refine s1 (bld (l:=[Qf5 (⟨0,0⟩:Wt),i64 (min (max x0 (0:Int)) (4096:Int))]) Qy4.h Qy3.h Qn9 ⟨_,_,_,rfl,rfl,rfl,rfl,(szk (k:=1) rfl rfl),rfl⟩ rfl) ?_;refine o (bx' 100) ?_;refine z [31,1,8] ?_;exact rt [(50,100)]
theorem Qua{n:Nat}{x0}:∀ r,Qcl n x0=some r->FnOk Tryz.prog 302 [i64 x0] [] (.own 50) [(50,.sl 53 3 (List.map Qb r))]:=by
 unfold Qcl
 refine fs Tryz.func302 λw S0 γ hγ=>?_;refine z [2] ?_;refine s1 (asg rfl (kLm (k:=3) Qb)) ?_;refine z [1,2,30,88,89,31,1,2,30] ?_;refine b λy1 h2=>?_;refine so (mks (y:=100) (f:=Qb) h2 Tryz.underlying44 ti_53.h Jb rfl rfl rfl rfl rfl rfl) ?_;refine z [31,1,5,2,30,30,1,7] ?_;refine sloopE 0 (λt=>t) (λs15=>[(2,sli 3 (List.map Qb ([]:List Qa))),(3,.own 100),(10,i64 (min (max x0 (0:Int)) (300:Int))),(11,i64 s15.2)]) (λs15=>[(100,.sl 53 3 (List.map Qb s15.1))]) (λt13=>[(2,sli 3 (List.map Qb ([]:List Qa))),(3,.own 100)]) (λt13=>[(100,.sl 53 3 (List.map Qb t13))]) (eR [(100,100)]) ?_ ?_
 . intro hj14 s15
   refine z [2,46,1,5] ?_;refine c ?_ ?_
   . refine z [9,4,5,7,2,30,31,1,6,30,30] ?_;refine cb (ca J3) λr16=>?_;refine b λy18 h19=>?_;refine z [50,53,3,11,4,6,40,30,3] ?_;exact sgo (eR [(100,100)])
   refine z [14,15] ?_;exact su (sj (hj14 _) (eR [(100,100)]))
 intro t13
 refine z [13,4,2,30,31,1,8] ?_;exact rt [(50,100)]
theorem Qrv{n:Nat}{x0}{x1}{x2}:∀ r,Qd7 n x0 x1 x2=some r->FnOk Tryz.prog 266 [sli 3 (List.map Qb x0),.own 0,i64 x2] [(0,.sl 44 1 (List.map Qe x1))] (.tup [sli 3 (List.map Qb r.1),bl r.2]) [(0,.sl 44 1 (List.map Qe x1))]:=by
 unfold Qd7
 refine fs Tryz.func266 λw S0 γ hγ=>?_;refine z [2] ?_;refine s1 (asg rfl (kLm (k:=3) Qb)) ?_;refine z [31,1,5] ?_;refine sjq (λs3=>[(0,sli 3 (List.map Qb x0)),(1,.own 0),(2,i64 x2),(6,sli 3 (List.map Qb ([]:List Qa))),(7,bl false),(27,bl s3)]) (λs3=>[(0,.sl 44 1 (List.map Qe x1))]) ?_ ?_
 . intro j1 hj2
   refine z [6,30,39,30,55,56,30] ?_;refine sifd 20 rfl ?_ ?_
   . refine z [23,23,38,30,23,23,38,1] ?_;exact sj (hj2 _) (eR [(0,0)])
   refine z [22,22,37,30] ?_;refine sifd 24 rfl ?_ ?_
   . refine z [23,23,38,1] ?_;exact sj (hj2 _) (eR [(0,0)])
   refine z [22,22,37,1] ?_;exact sj (hj2 _) (eR [(0,0)])
 intro s3
 refine c ?_ ?_
 . refine z [2] ?_;refine s1 (asg rfl (kLm (k:=3) Qb)) ?_;refine z [31,1,8,10] ?_;exact rt [(0,0)]
 refine z [9,4,5,2,30,55,30,1,7] ?_;refine srN (λs9=>[(0,sli 3 (List.map Qb x0)),(1,.own 0),(2,i64 x2),(6,sli 3 (List.map Qb ([]:List Qa))),(7,bl false),(28,.own 0)]) (λs9=>[(0,.sl 44 1 (List.map Qe x1))]) (rE (eR [(0,0)])) ?_ ?_
 . intro i10 x11 s9 hx12
   refine z [7,2,50,51,31,1,2,30,39,30,56,1] ?_;refine c ?_ ?_
   . refine z [2] ?_;refine s1 (asg rfl (kLm (k:=3) Qb)) ?_;refine z [31,1,8,12] ?_;refine sU ?_;refine z [12,10] ?_;exact rt [(0,0)]
   refine z [9,11] ?_;exact sgo (eR [(0,0)])
 intro s13
 refine z [13,4,2,30] ?_;refine b λr14 h15=>?_;refine o (cG (Qua _ h15) [] [(100,50)] []) ?_;refine z [31,1,5,2,30,55,30,1,7] ?_;refine srN (λs107=>[(0,sli 3 (List.map Qb x0)),(6,sli 3 (List.map Qb ([]:List Qa))),(7,bl false),(10,.own 100),(41,.own 0)]) (λs107=>[(0,.sl 44 1 (List.map Qe x1)),(100,.sl 53 3 (List.map Qb s107))]) (rE (eR [(0,0),(100,100)])) ?_ ?_
 . intro i108 x109 s107 hx110
   refine z [7,2,30,50,51,31,31,1,5,2,30,30] ?_;refine b λy111 h112=>?_;refine z [43,42] ?_;refine cb (ca Xy) λr113=>?_;refine z [41,1] ?_;refine c ?_ ?_
   . refine z [14,15,13] ?_;exact sgo (eR [(0,0),(100,100)])
   refine z [9,4,2,30,39,30,1,7] ?_;refine srN (λs130=>[(0,sli 3 (List.map Qb x0)),(6,sli 3 (List.map Qb ([]:List Qa))),(7,bl false),(10,.own 100),(11,i64 (i108:Int)),(41,.own 0),(42,i64 (x1.length:Int)),(43,i64 (i108:Int)),(54,sli 3 (List.map Qb x109))]) (λs130=>[(0,.sl 44 1 (List.map Qe x1)),(100,.sl 53 3 (List.map Qb s130))]) (rE (eR [(0,0),(100,100)])) ?_ ?_
   . intro i131 x132 s130 hx133
     refine z [7,2,30,43,42] ?_;refine o (al' 101) ?_;refine z [31,34,1] ?_;refine b λy134 h135=>?_;refine b λy136 h137=>?_;refine b λr138 h139=>?_;refine b λr140 h141=>?_;refine b λy142 h143=>?_;refine sd ?_;refine zd [[],[],[],[]] ?_;refine dx [63,64] [100] (λst mm ⟨a63,a64,_⟩ ⟨g100,_⟩=>og (ixO (f:=Qb) (g100.trans rfl) Tryz.underlying44 ti_53.h h135 rfl (a63.trans rfl) (a64.trans rfl))) ?_
     refine dx [65] [100] (λst mm ⟨a65,_⟩ ⟨g100,_⟩=>og (ldO (f:=Qb) [] (g100.trans rfl) (Qez h135) (by exact rfl) off0 sh_53.h (by exact rfl) (by exact rfl) rfl (a65.trans rfl))) ?_
     refine zd [[],[],[],[],[101]] ?_;refine dd [] (λ_ _ _ _=>c0 (Qaz _ h139)) ?_;refine dd [] (λ_ _ _ _=>c0 (Yn _ h141)) ?_;refine dx [61,62] [100] (λst mm ⟨a61,a62,_⟩ ⟨g100,_⟩=>og (ixO (f:=Qb) (g100.trans rfl) Tryz.underlying44 ti_53.h h143 rfl (a61.trans rfl) (a62.trans rfl))) ?_
     refine dx [74,73] [100] (λst mm ⟨a74,a73,_⟩ ⟨g100,_⟩=>og (stO (f:=Qb) r140 [] (g100.trans rfl) (Qez h143) (by exact rfl) off0 (by exact rfl) (by exact rfl) sh_53.h (by exact rfl) (by exact rfl) (by exact rfl) (a74.trans rfl) (a73.trans rfl))) ?_
     refine de fol ?_;refine z [11] ?_;exact sgo (eR [(0,0),(100,100)])
   intro s144
   refine z [13,11] ?_;exact sgo (eR [(0,0),(100,100)])
 intro s145
 refine z [13,4,2,30,31,31,1,8] ?_;refine fz 100 [6,10,77] [] ?_;exact rt [(0,0)]
theorem Qc6{n:Nat}{x0_p}{x0_t}{x0_h}{x0_y}{x0_g}{x0_out_Ys}{x0_out_Ks}{x0_out_Next}{x0_out_Err}{x1}:∀ r,J5 n x0_p x0_t x0_h x0_y x0_g x0_out_Ys x0_out_Ks x0_out_Next x0_out_Err x1=some r->FnOk Tryz.prog 222 [.own 0,sli 3 (List.map Qb x1)] [(0,.bx 247 (.agg [Qv x0_p,Qb x0_t,Qb x0_h,sli 3 (List.map Qb x0_y),.own 1,.agg [.own 2,.own 3,sli 3 (List.map Qb x0_out_Next),sli 3 (List.map Qb x0_out_Err)]])),(1,.bx 298 (Qm x0_g)),(2,.sl 44 1 (List.map Qe x0_out_Ys)),(3,.sl 44 1 (List.map Qe x0_out_Ks))] (sli 3 (List.map Qb r)) [(0,.bx 247 (.agg [Qv x0_p,Qb x0_t,Qb x0_h,sli 3 (List.map Qb x0_y),.own 1,.agg [.own 2,.own 3,sli 3 (List.map Qb x0_out_Next),sli 3 (List.map Qb x0_out_Err)]])),(1,.bx 298 (Qm x0_g)),(2,.sl 44 1 (List.map Qe x0_out_Ys)),(3,.sl 44 1 (List.map Qe x0_out_Ks))]:=by
 unfold J5
 refine fs Tryz.func222 λw S0 γ hγ=>?_;refine z [2] ?_;refine s1 (asg rfl (kLm (k:=3) Qb)) ?_;refine z [1,5] ?_;refine b λr1 h2=>?_;refine sd ?_;refine zd [[],[],[0],[0],[],[0],[],[0],[0],[0],[]] ?_;refine dd [3] (λ_ _ _ _=>cG (Qrv _ h2) [3] [] [3]) ?_;refine zd [[],[],[],[],[]] ?_;refine de fol ?_;refine z [4,2,30,48,33,36,30] ?_;refine b λr3 h4=>?_;refine o (cG (Qc5 _ h4) [] [(100,50)] []) ?_;refine z [31,1,8] ?_;refine fz 100 [4,27] [] ?_;exact rt [(0,0),(1,1),(2,2),(3,3)]
theorem Qub{n:Nat}{x0}:∀ r,Qd8 n x0=some r->FnOk Tryz.prog 300 [sli 3 (List.map Qb x0)] [] (.own 50) [(50,.sl 53 3 (List.map Qb r))]:=by
 unfold Qd8
 refine fs Tryz.func300 λw S0 γ hγ=>?_;refine z [2] ?_;refine s1 (asg rfl (kLm (k:=3) Qb)) ?_;refine z [1,2] ?_;refine so (asgN (y:=100) (E:=53) (k:=3) rfl rfl) ?_;refine z [1,5,2,30,39,30,1,7] ?_;refine srN (λs18=>[(2,sli 3 (List.map Qb ([]:List Qa))),(3,.own 100),(6,sli 3 (List.map Qb x0))]) (λs18=>[(100,.sl 53 3 (List.map Qb s18))]) (rE (eR [(100,100)])) ?_ ?_
 . intro i19 x20 s18 hx21
   refine z [7,2,43,42] ?_;refine o (al' 101) ?_;refine z [34,1,6,30,32] ?_;refine cb (ca J0) λr22=>?_
   refine so (bsl (y:=102) (ls:=List.map Qb ([r22]:List Qa)) Tryz.underlying44 ti_53.h rfl rfl rfl rfl rfl ⟨rfl,rfl,(by exact rfl),(by exact rfl),trivial⟩ rfl rfl) ?_
   refine b λy24 h25=>?_;refine o (app' 103) ?_;refine z [31,3,11] ?_;exact sgo (eR [(100,103)])
 intro s26
 refine z [13,4,2,30,31,1,8] ?_;exact rt [(50,100)]
theorem Qpn{n:Nat}{x0}:∀ r,Qdl n x0=some r->FnOk Tryz.prog 263 [sli 1 (List.map Qe x0)] [] (.tup [sli 3 (List.map Qb r.1),bl r.2]) []:=by
 unfold Qdl
 refine fs Tryz.func263 λw S0 γ hγ=>?_;refine z [2] ?_;refine s1 (asg rfl (kLm (k:=3) Qb)) ?_;refine z [31,1,5,2,30,39,41,1] ?_;refine c ?_ ?_
 . refine z [2] ?_;refine s1 (asg rfl (kLm (k:=3) Qb)) ?_;refine z [31,1,8,10] ?_;exact rt []
 refine z [9,4,2,30] ?_;refine b λy1 h2=>?_;refine z [43,42] ?_;refine b λr3 h4=>?_;refine o (cG (Qub _ h4) [] [(100,50)] []) ?_;refine z [31,1,5,2,30] ?_;refine b λy5 h6=>?_;refine s1 (slR (f:=Qe) h6 Tryz.underlying45 ti_44.h rfl rfl (bnd (kI (x:=1) rfl)) bnd0) ?_;refine z [39,30,1,7] ?_;refine srN (λs70=>[(2,sli 3 (List.map Qb ([]:List Qa))),(3,bl false),(4,.own 100),(17,sli 1 (List.map Qe y5))]) (λs70=>[(100,.sl 53 3 (List.map Qb s70))]) (rE (eR [(100,100)])) ?_ ?_
 . intro i71 x72 s70 hx73
   refine z [7,2,43,42,31,1,5,2,30,39,30,55,56,1] ?_;refine c ?_ ?_
   . refine z [2] ?_;refine s1 (asg rfl (kLm (k:=3) Qb)) ?_;refine z [31,1,8,10,12] ?_;refine sU ?_;refine z [12,10] ?_;exact rt []
   refine z [9,4,2,30,39,30,1,7] ?_;refine srN (λs85=>[(2,sli 3 (List.map Qb ([]:List Qa))),(3,bl false),(4,.own 100),(17,sli 1 (List.map Qe y5)),(18,i64 (y5.length:Int)),(19,i64 (i71:Int)),(28,sli 3 (List.map Qb x72))]) (λs85=>[(100,.sl 53 3 (List.map Qb s85))]) (rE (eR [(100,100)])) ?_ ?_
   . intro i86 x87 s85 hx88
     refine z [7,2,30,43,42] ?_;refine o (al' 101) ?_;refine z [31,34,1] ?_;refine b λy89 h90=>?_;refine b λr91 h92=>?_;refine b λy93 h94=>?_;refine sd ?_;refine zd [[],[],[],[]] ?_;refine dx [37,38] [100] (λst mm ⟨a37,a38,_⟩ ⟨g100,_⟩=>og (ixO (f:=Qb) (g100.trans rfl) Tryz.underlying44 ti_53.h h90 rfl (a37.trans rfl) (a38.trans rfl))) ?_
     refine dx [39] [100] (λst mm ⟨a39,_⟩ ⟨g100,_⟩=>og (ldO (f:=Qb) [] (g100.trans rfl) (Qez h90) (by exact rfl) off0 sh_53.h (by exact rfl) (by exact rfl) rfl (a39.trans rfl))) ?_
     refine zd [[101]] ?_;refine dd [] (λ_ _ _ _=>c0 (Yn _ h92)) ?_;refine dx [35,36] [100] (λst mm ⟨a35,a36,_⟩ ⟨g100,_⟩=>og (ixO (f:=Qb) (g100.trans rfl) Tryz.underlying44 ti_53.h h94 rfl (a35.trans rfl) (a36.trans rfl))) ?_
     refine dx [43,42] [100] (λst mm ⟨a43,a42,_⟩ ⟨g100,_⟩=>og (stO (f:=Qb) r91 [] (g100.trans rfl) (Qez h94) (by exact rfl) off0 (by exact rfl) (by exact rfl) sh_53.h (by exact rfl) (by exact rfl) (by exact rfl) (a43.trans rfl) (a42.trans rfl))) ?_
     refine de fol ?_;refine z [11] ?_;exact sgo (eR [(100,100)])
   intro s95
   refine z [13,11] ?_;exact sgo (eR [(100,100)])
 intro s96
 refine z [13,4,2,30,31,31,1,8] ?_;refine fz 100 [2,4,46] [] ?_;exact rt []
theorem Qem{n:Nat}{x0_p}{x0_t}{x0_h}{x0_y}{x0_g}{x0_out_Ys}{x0_out_Ks}{x0_out_Next}{x0_out_Err}{x1}:∀ r,Vs n x0_p x0_t x0_h x0_y x0_g x0_out_Ys x0_out_Ks x0_out_Next x0_out_Err x1=some r->FnOk Tryz.prog 219 [.own 0,sli 3 (List.map Qb x1)] [(0,.bx 247 (.agg [Qv x0_p,Qb x0_t,Qb x0_h,sli 3 (List.map Qb x0_y),.own 1,.agg [.own 2,.own 3,sli 3 (List.map Qb x0_out_Next),sli 3 (List.map Qb x0_out_Err)]])),(1,.bx 298 (Qm x0_g)),(2,.sl 44 1 (List.map Qe x0_out_Ys)),(3,.sl 44 1 (List.map Qe x0_out_Ks))] (sli 3 (List.map Qb r)) [(0,.bx 247 (.agg [Qv x0_p,Qb x0_t,Qb x0_h,sli 3 (List.map Qb x0_y),.own 1,.agg [.own 2,.own 3,sli 3 (List.map Qb x0_out_Next),sli 3 (List.map Qb x0_out_Err)]])),(1,.bx 298 (Qm x0_g)),(2,.sl 44 1 (List.map Qe x0_out_Ys)),(3,.sl 44 1 (List.map Qe x0_out_Ks))]:=by
 unfold Vs
 refine fs Tryz.func219 λw S0 γ hγ=>?_;refine z [2] ?_;refine s1 (asg rfl (kLm (k:=3) Qb)) ?_;refine z [1,5] ?_;refine b λr3 h4=>?_;refine b λr5 h6=>?_;refine sd ?_;refine zd [[],[0],[0],[0],[],[]] ?_;refine dd [0,1,2,3] (λ_ _ _ _=>cG (Qc6 _ h4) [0,1,2,3] [] [0,1,2,3]) ?_
 refine dx [11,14] [100] (λst mm ⟨a11,a14,_⟩ ⟨g100,_⟩=>og (toV (bsl (y:=100) (ls:=List.map Qe ([x0_y,r3]:List (List Qa))) Tryz.underlying45 ti_44.h rfl rfl rfl rfl rfl ⟨rfl,(a11.trans rfl),(by exact rfl),(by exact rfl),rfl,(a14.trans rfl),(by exact rfl),(by exact rfl),trivial⟩ (g100.trans rfl) rfl) (K1 (f:=Qe) (λ_=>Qdt) ([x0_y,r3]:List (List Qa))))) ?_
 refine dd [] (λ_ _ _ _=>c0 (Qpn _ h6)) ?_;refine zd [[],[],[],[],[]] ?_;refine de fol ?_;refine z [4,2,30,31,1,8] ?_;exact rt [(0,0),(1,1),(2,2),(3,3)]
theorem Qio{x0}{x1}:∀ r,X5 x0 x1=some r->FnOk Tryz.prog 323 [.ptr 0 0,i64 x1] [(0,.bx 298 (Qm x0))] (.tup []) [(0,.bx 298 (Qm r))]:=by
 unfold X5
 refine fs Tryz.func323 λw S0 γ hγ=>?_;refine z [2,30,48,45,36,40,48,45] ?_;refine o (stP (Qm (⟨(⟨wrap64 (x0.Count.Seen+(1:Int)),x0.Count.Peak⟩:Wt),x0.limit⟩:Qh)) [0,0]) ?_;refine z [1,6,30,30,48,45,36,30,88,48,45] ?_;refine o (stP (Qm (⟨(⟨wrap64 (x0.Count.Seen+(1:Int)),max x0.Count.Peak x1⟩:Wt),x0.limit⟩:Qh)) [0,1]) ?_;refine z [3] ?_;exact rt [(0,0)]
theorem Qdn{n:Nat}{x0}{x1}:∀ r,Vf n x0 x1=some r->FnOk Tryz.prog 301 [.own 0,Qb x1] [(0,.bx 298 (Qm x0))] (bl r.1) [(0,.bx 298 (Qm r.2))]:=by
 unfold Vf
 refine fs Tryz.func301 λw S0 γ hγ=>?_;refine z [2] ?_;refine o (bx' 100) ?_;refine z [31,1,2,32] ?_;refine cb (ca Qia) λr1=>?_;refine z [31,1,2,30,48,33,30] ?_;refine b λr3 h4=>?_;refine o (cG (Qio _ h4) [0] [] []) ?_;refine z [1,2,30,30,48,33,36,58,31,1,8] ?_;exact rt [(0,0)]
theorem Qi9{n:Nat}{x0}{x1}:∀ r,Xe n x0 x1=some r->FnOk Tryz.prog 264 [.own 0,sli 3 (List.map Qb x1)] [(0,.bx 298 (Qm x0))] (.tup [i64 r.1,bl r.2.1]) [(0,.bx 298 (Qm r.2.2))]:=by
 unfold Xe
 refine fs Tryz.func264 λw S0 γ hγ=>?_;refine z [2,31,31,1,5,2,30,39,30,1,7] ?_;refine srN (λs14=>[(0,.own 0),(1,sli 3 (List.map Qb x1)),(4,i64 (0:Int)),(5,bl false),(8,sli 3 (List.map Qb x1))]) (λs14=>[(0,.bx 298 (Qm s14))]) (rE (eR [(0,0)])) ?_ ?_
 . intro i15 x16 s14 hx17
   refine z [7,2,30,43,42] ?_;refine o (al' 100) ?_;refine z [31,34,1,2,30,32] ?_;refine b λr18 h19=>?_;refine o (cG (Qdn _ h19) [0] [] []) ?_;refine z [44,1] ?_;refine c ?_ ?_
   . refine z [2,30,31,31,1,8,12] ?_;refine sU ?_;refine z [12,10] ?_;exact rt [(0,0)]
   refine z [9,11] ?_;exact sgo (eR [(0,0)])
 intro s20
 refine z [13,4,2,30,39,31,31,1,8] ?_;exact rt [(0,0)]
theorem Qa0{n:Nat}{x0_p}{x0_t}{x0_h}{x0_y}{x0_g}{x0_out_Ys}{x0_out_Ks}{x0_out_Next}{x0_out_Err}{x1}{x2}:∀ r,Kl n x0_p x0_t x0_h x0_y x0_g x0_out_Ys x0_out_Ks x0_out_Next x0_out_Err x1 x2=some r->FnOk Tryz.prog 220 [.own 0,sli 3 (List.map Qb x1),i64 x2] [(0,.bx 247 (.agg [Qv x0_p,Qb x0_t,Qb x0_h,sli 3 (List.map Qb x0_y),.own 1,.agg [.own 2,.own 3,sli 3 (List.map Qb x0_out_Next),sli 3 (List.map Qb x0_out_Err)]])),(1,.bx 298 (Qm x0_g)),(2,.sl 44 1 (List.map Qe x0_out_Ys)),(3,.sl 44 1 (List.map Qe x0_out_Ks))] (Qi r.1) [(0,.bx 247 (.agg [Qv x0_p,Qb x0_t,Qb x0_h,sli 3 (List.map Qb x0_y),.own 1,.agg [.own 2,.own 3,sli 3 (List.map Qb x0_out_Next),sli 3 (List.map Qb x0_out_Err)]])),(1,.bx 298 (Qm r.2)),(2,.sl 44 1 (List.map Qe x0_out_Ys)),(3,.sl 44 1 (List.map Qe x0_out_Ks))]:=by
 unfold Kl
 refine fs Tryz.func220 λw S0 γ hγ=>?_;refine z [2] ?_;refine o (al' 100) ?_;refine z [1,5,2,30,48,33,36,30] ?_;refine b λr1 h2=>?_;refine o (cG (Qi9 _ h2) [1] [] []) ?_;refine z [30,35,35,31,31,1,2,30,44,1] ?_;refine c ?_ ?_
 . refine z [2,30,30,40] ?_;refine s1 (bld (l:=[i64 (6:Int),i64 0,i64 x2,i64 (wrap64 ((300:Int)+r1.1))]) pl_63.h ti_63.h Ql ⟨_,_,_,(kI (x:=6) rfl),rfl,rfl,rfl,(szk (k:=1) rfl rfl),⟨_,_,_,rfl,rfl,rfl,rfl,(szk (k:=1) rfl rfl),⟨_,_,_,rfl,rfl,rfl,rfl,(szk (k:=1) rfl rfl),rfl⟩⟩⟩ rfl) ?_;refine z [34,1,8,10] ?_;exact rt [(0,0),(1,1),(2,2),(3,3)]
 refine z [9,4,2] ?_;refine s1 (bld (l:=[i64 0,i64 0,i64 0,i64 0]) pl_63.h ti_63.h Ql rfl rfl) ?_;refine z [34,1,8] ?_;exact rt [(0,0),(1,1),(2,2),(3,3)]
theorem Qqe{n:Nat}{x0}{x1}{x2}{x3}:∀ r,Qa7 n x0 x1 x2 x3=some r->FnOk Tryz.prog 262 [Qv x0,Qb x1,Qb x2,i64 x3] [] (Qb r) []:=by
 unfold Qa7
 refine fs Tryz.func262 λw S0 γ hγ=>?_;refine z [2] ?_;refine o (bx' 100) ?_;refine o (bx' 101) ?_;refine o (bx' 102) ?_;refine o (al' 103) ?_;refine z [1,5] ?_;refine sjq (λs3=>[(3,i64 x3),(4,.own 100),(5,.own 101),(6,.own 102),(8,.own 103),(18,bl s3)]) (λs3=>[(100,.bx 49 (Qv x0)),(101,.bx 53 (Qb x1)),(102,.bx 53 (Qb x2)),(103,.bx 53 (Qb (⟨(⟨false,[]⟩:Qd),[]⟩:Qa)))]) ?_ ?_
 . intro j1 hj2
   refine z [6,30,46,30] ?_;refine sifd 11 rfl ?_ ?_
   . refine z [23,23,23,23,23,23,38,1] ?_;exact sj (hj2 _) (eR [(100,100),(101,101),(102,102),(103,103)])
   refine z [22,22,22,22,22,22,37,1] ?_;exact sj (hj2 _) (eR [(100,100),(101,101),(102,102),(103,103)])
 intro s3
 refine c ?_ ?_
 . refine z [2,32] ?_;refine cb (ca J0) λr4=>?_;refine z [34,1,8,10] ?_;exact rt []
 refine z [9,4,5] ?_;refine b λy6 h7=>?_;refine b λr8 h9=>?_;refine b λr10 h11=>?_;refine sd ?_;refine zd [[101],[102],[100],[],[100],[],[],[]] ?_;refine dd [] (λ_ _ _ _=>c0 (Qaz _ h9)) ?_;refine dd [] (λ_ _ _ _=>c0 (Yn _ h11)) ?_;refine zd [[103]] ?_;refine de fol ?_;refine z [4,8] ?_;exact rt []
theorem Qvg{x0}{x1}{x2}:∀ r,Qhk x0 x1 x2=some r->FnOk Tryz.prog 261 [Qv x0,Qb x1,sli 3 (List.map Qb x2)] [] (Y2 r) []:=by
 unfold Qhk
 refine fs Tryz.func261 λw S0 γ hγ=>?_;refine z [2] ?_;refine o (bx' 100) ?_;refine o (bx' 101) ?_;refine o (al' 102) ?_;refine z [1,2,32,30,33,36] ?_;refine s1 (bld (l:=[Qb x1,sli 3 (List.map Qb x2),sli 3 (List.map Qb x0.P)]) Qvb.h Qmx.h Qf6 ⟨_,_,_,rfl,rfl,rfl,rfl,(szk (k:=3) rfl rfl),⟨_,_,_,rfl,rfl,rfl,rfl,(szk (k:=1) rfl rfl),⟨_,_,_,rfl,rfl,rfl,rfl,(szk (k:=1) rfl rfl),rfl⟩⟩⟩ rfl) ?_;refine z [34,1,8] ?_;exact rt []
theorem Qkn{n:Nat}{x0}:∀ r,Qb5 n x0=some r->FnOk Tryz.prog 335 [sli 3 (List.map Qb x0)] [] (sli 3 (List.map Qb r)) []:=by
 unfold Qb5
 refine fs Tryz.func335 λw S0 γ hγ=>?_;refine z [2] ?_;refine s1 (asg rfl (kLm (k:=3) Qb)) ?_;refine z [1,2] ?_;refine so (asgN (y:=100) (E:=53) (k:=3) rfl rfl) ?_;refine z [1,5,2,30,39,30,1,7] ?_;refine srN (λs18=>[(2,sli 3 (List.map Qb ([]:List Qa))),(3,.own 100),(6,sli 3 (List.map Qb x0))]) (λs18=>[(100,.sl 53 3 (List.map Qb s18))]) (rE (eR [(100,100)])) ?_ ?_
 . intro i19 x20 s18 hx21
   refine z [7,2,43,42] ?_;refine o (al' 101) ?_;refine z [34,1,6,30,32] ?_;refine cb (ca J0) λr22=>?_
   refine so (bsl (y:=102) (ls:=List.map Qb ([r22]:List Qa)) Tryz.underlying44 ti_53.h rfl rfl rfl rfl rfl ⟨rfl,rfl,(by exact rfl),(by exact rfl),trivial⟩ rfl rfl) ?_
   refine b λy24 h25=>?_;refine o (app' 103) ?_;refine z [31,3,11] ?_;exact sgo (eR [(100,103)])
 intro s26
 refine z [13,4,2,30,31,1,8] ?_;refine fz 100 [2,3,18] [] ?_;exact rt []
theorem Qsy{n:Nat}{x0}:∀ r,Qfe n x0=some r->FnOk Tryz.prog 321 [Y2 x0] [] (Y2 r) []:=by
 unfold Qfe
 refine fs Tryz.func321 λw S0 γ hγ=>?_;refine z [2] ?_;refine o (bx' 100) ?_;refine o (al' 101) ?_;refine z [1,5] ?_;refine b λr1 h2=>?_;refine b λr3 h4=>?_;refine b λr5 h6=>?_;refine sd ?_;refine zd [[100],[100]] ?_;refine dd [] (λ_ _ _ _=>c0 (J0 _ h2)) ?_;refine zd [[100],[100]] ?_;refine dd [] (λ_ _ _ _=>c0 (Qkn _ h4)) ?_;refine zd [[100],[100]] ?_;refine dd [] (λ_ _ _ _=>c0 (Qkn _ h6)) ?_;refine dx [5,8,11] [] (λst mm ⟨a5,a8,a11,_⟩ _=>og (bld (l:=[Qb r1,sli 3 (List.map Qb r3),sli 3 (List.map Qb r5)]) Qvb.h Qmx.h Qf6 ⟨_,_,_,(a5.trans rfl),rfl,rfl,rfl,(szk (k:=3) rfl rfl),⟨_,_,_,(a8.trans rfl),rfl,rfl,rfl,(szk (k:=1) rfl rfl),⟨_,_,_,(a11.trans rfl),rfl,rfl,rfl,(szk (k:=1) rfl rfl),rfl⟩⟩⟩ rfl)) ?_;refine zd [[101]] ?_;refine de fol ?_;refine z [4,8] ?_;exact rt []
theorem Quc{n:Nat}{x0}:∀ r,Qd9 n x0=some r->FnOk Tryz.prog 377 [Qb x0] [] (Qb r) []:=by
 unfold Qd9
 refine fs Tryz.func377 λw S0 γ hγ=>?_;refine z [2] ?_;refine o (bx' 100) ?_;refine o (al' 101) ?_;refine z [1,2,32] ?_;refine cb (ca J0) λr1=>?_;refine o (al' 102) ?_;refine z [34,1,2,33,36] ?_;refine cb (ca Qlu) λr3=>?_;refine z [33] ?_;refine o (stP (Qb (⟨r3,r1.Den⟩:Qa)) [0]) ?_;refine z [1,2,32,34,1,8] ?_;exact rt []
theorem Qle{n:Nat}{x0_g}{x1}:∀ r,Z4 n x0_g x1=some r->FnOk Tryz.prog 372 [.agg [.own 0],Qb x1] [(0,.bx 298 (Qm x0_g))] (Qb r) [(0,.bx 298 (Qm x0_g))]:=by
 unfold Z4
 refine fs Tryz.func372 λw S0 γ hγ=>?_;refine z [2] ?_;refine o (bx' 100) ?_;refine o (bx' 101) ?_;refine o (al' 102) ?_;refine z [1,2,32] ?_;refine cb (ca Quc) λr1=>?_;refine z [34,1,8] ?_;exact rt [(0,0)]
theorem Qko{n:Nat}{x0}{x1}:∀ r,Qaf n x0 x1=some r->FnOk Tryz.prog 379 [sli 1 (List.map u32 x0),i64 x1] [] (sli 1 (List.map u32 r)) []:=by
 unfold Qaf
 refine fs Tryz.func379 λw S0 γ hγ=>?_;refine z [2] ?_;refine s1 (asg rfl (kLm (k:=1) u32)) ?_;refine z [1,2] ?_;refine cb (ca Y5) λr1=>?_;refine z [31,1,5,2,30,30,1,7] ?_;refine sloopE 0 (λt=>t) (λs11=>[(0,sli 1 (List.map u32 x0)),(4,sli 1 (List.map u32 ([]:List Nat))),(5,sli 1 (List.map u32 s11.1)),(7,i64 x1),(8,i64 s11.2)]) (λs11=>[]) (λt9=>[(4,sli 1 (List.map u32 ([]:List Nat))),(5,sli 1 (List.map u32 t9))]) (λt9=>[]) eI ?_ ?_
 . intro hj10 s11
   refine z [2,46,1,5] ?_;refine c ?_ ?_
   . refine z [9,4,5,7,6,30,30] ?_;refine cb (ca Zu) λr12=>?_;refine z [31,3,11,4,6,40,30,3] ?_;exact sgo eI
   refine z [14,15] ?_;exact su (sj (hj10 _) eI)
 intro t9
 refine z [13,4,2,30,31,1,8] ?_;exact rt []
theorem Qud{n:Nat}{x0}{x1}:∀ r,Qea n x0 x1=some r->FnOk Tryz.prog 378 [Qb x0,i64 x1] [] (.tup [Qb r.1,bl r.2]) []:=by
 unfold Qea
 refine fs Tryz.func378 λw S0 γ hγ=>?_;refine z [2] ?_;refine o (bx' 100) ?_;refine o (al' 101) ?_;refine z [31,1,5] ?_;refine sjq (λs5=>[(1,i64 x1),(2,.own 100),(4,.own 101),(5,bl false),(24,bl s5)]) (λs5=>[(100,.bx 53 (Qb x0)),(101,.bx 53 (Qb (⟨(⟨false,[]⟩:Qd),[]⟩:Qa)))]) ?_ ?_
 . intro j3 hj4
   refine z [6,30,46,30] ?_;refine sifd 12 rfl ?_ ?_
   . refine z [23,23,38,30,23,23,23,24,24,24,23,38,1] ?_;exact sj (hj4 _) (eR [(100,100),(101,101)])
   refine z [22,22,37,30] ?_;refine sifd 16 rfl ?_ ?_
   . refine z [23,23,23,24,24,24,23,38,1] ?_;exact sj (hj4 _) (eR [(100,100),(101,101)])
   refine z [22,22,22] ?_;refine sifd 19 rfl ?_ ?_
   . refine z [22] ?_;refine b λr6 h7=>?_;refine og' (c0 (Xy _ h7)) ?_;refine z [22,22,37,1] ?_;exact sj (hj4 _) (eR [(100,100),(101,101)])
   refine z [23,23,23,22,37,1] ?_;exact sj (hj4 _) (eR [(100,100),(101,101)])
 intro s5
 refine c ?_ ?_
 . refine z [2] ?_;refine cb (ca J3) λr8=>?_;refine z [34,31,1,8,10] ?_;exact rt []
 refine z [9,4,2,32] ?_;refine cb (ca J0) λr10=>?_;refine o (al' 102) ?_;refine z [34,1,2,30,30,82,88,31,1,5] ?_;refine b λr12 h13=>?_;refine b λr14 h15=>?_;refine sd ?_;refine zd [[102],[],[102],[]] ?_;refine dd [] (λ_ _ _ _=>c0 (Qko _ h13)) ?_;refine zd [[102],[102],[]] ?_;refine dd [] (λ_ _ _ _=>c0 (Qko _ h15)) ?_;refine zd [[],[]] ?_;refine de fol ?_;refine z [4] ?_;refine sjq (λs18=>[(4,.own 101),(5,bl false),(6,.own 102),(7,i64 (max x1 (wrap64 (-x1)))),(8,sli 1 (List.map u32 s18.1)),(9,sli 1 (List.map u32 s18.2))]) (λs18=>[(101,.bx 53 (Qb (⟨(⟨false,[]⟩:Qd),[]⟩:Qa))),(102,.bx 53 (Qb r10))]) ?_ ?_
 . intro j16 hj17
   refine z [2,30,46,1] ?_;refine c ?_ ?_
   . refine z [6,30,30,31,31,1] ?_;exact sj (hj17 _) (eR [(101,101),(102,102)])
   refine z [9,4] ?_;exact sj (hj17 _) (eR [(101,101),(102,102)])
 intro s18
 refine sjq (λs25=>[(4,.own 101),(5,bl true)]) (λs25=>[(101,.bx 53 (Qb s25))]) ?_ ?_
 . intro j23 hj24
   refine z [6,33,45,36,30] ?_;refine sifd 48 rfl ?_ ?_
   . refine z [22,22,22,38,30] ?_;refine s1 (bld (l:=[bl (decide ((Int.tmod (max x1 (wrap64 (-x1))) (2:Int))=(1:Int))),sli 1 (List.map u32 s18.1)]) pl_51.h ti_51.h J4 ⟨_,_,_,rfl,rfl,rfl,rfl,(szk (k:=1) rfl rfl),⟨_,_,_,rfl,rfl,rfl,rfl,(szk (k:=1) rfl rfl),rfl⟩⟩ rfl) ?_;refine cb (ca Qg3) λr26=>?_;refine z [30] ?_;refine s1 (bld (l:=[Qq r26,sli 1 (List.map u32 s18.2)]) pl_53.h ti_53.h Jb ⟨_,_,_,rfl,rfl,rfl,rfl,(szk (k:=2) rfl rfl),⟨_,_,_,rfl,rfl,rfl,rfl,(szk (k:=1) rfl rfl),rfl⟩⟩ rfl) ?_;refine z [34,31,1] ?_;exact sj (hj24 _) (eR [(101,101)])
   refine z [23,23,23,37,30] ?_;refine s1 (bld (l:=[bl false,sli 1 (List.map u32 s18.1)]) pl_51.h ti_51.h J4 ⟨_,_,_,rfl,rfl,rfl,rfl,(szk (k:=1) rfl rfl),⟨_,_,_,rfl,rfl,rfl,rfl,(szk (k:=1) rfl rfl),rfl⟩⟩ rfl) ?_;refine cb (ca Qg3) λr28=>?_;refine z [30] ?_;refine s1 (bld (l:=[Qq r28,sli 1 (List.map u32 s18.2)]) pl_53.h ti_53.h Jb ⟨_,_,_,rfl,rfl,rfl,rfl,(szk (k:=2) rfl rfl),⟨_,_,_,rfl,rfl,rfl,rfl,(szk (k:=1) rfl rfl),rfl⟩⟩ rfl) ?_;refine z [34,31,1] ?_;exact sj (hj24 _) (eR [(101,101)])
 intro s25
 refine z [8] ?_;exact rt []
theorem Qlf{n:Nat}{x0_g}{x1}{x2}:∀ r,Z5 n x0_g x1 x2=some r->FnOk Tryz.prog 374 [.agg [.own 0],Qb x1,i64 x2] [(0,.bx 298 (Qm x0_g))] (.tup [Qb r.1,bl r.2]) [(0,.bx 298 (Qm x0_g))]:=by
 unfold Z5
 refine fs Tryz.func374 λw S0 γ hγ=>?_;refine z [2] ?_;refine o (bx' 100) ?_;refine o (bx' 101) ?_;refine o (al' 102) ?_;refine z [31,1,2,32,30] ?_;refine cb (ca Qud) λr1=>?_;refine z [35,35,34,31,1,8] ?_;exact rt [(0,0)]
theorem Qlg{n:Nat}{x0_g}{x1}{x2}:∀ r,Z6 n x0_g x1 x2=some r->FnOk Tryz.prog 369 [.agg [.own 0],Qb x1,Qb x2] [(0,.bx 298 (Qm x0_g))] (Qb r) [(0,.bx 298 (Qm x0_g))]:=by
 unfold Z6
 refine fs Tryz.func369 λw S0 γ hγ=>?_;refine z [2] ?_;refine o (bx' 100) ?_;refine o (bx' 101) ?_;refine o (bx' 102) ?_;refine o (al' 103) ?_;refine z [1,2,32,32] ?_;refine cb (ca Yn) λr1=>?_;refine z [34,1,8] ?_;exact rt [(0,0)]
theorem Qlh{n:Nat}{x0_g}{x1}{x2}:∀ r,Z7 n x0_g x1 x2=some r->FnOk Tryz.prog 376 [.agg [.own 0],Qb x1,Qb x2] [(0,.bx 298 (Qm x0_g))] (Qb r) [(0,.bx 298 (Qm x0_g))]:=by
 unfold Z7
 refine fs Tryz.func376 λw S0 γ hγ=>?_;refine z [2] ?_;refine o (bx' 100) ?_;refine o (bx' 101) ?_;refine o (bx' 102) ?_;refine o (al' 103) ?_;refine z [1,2,32,32] ?_;refine cb (ca Qi8) λr1=>?_;refine z [34,1,8] ?_;exact rt [(0,0)]
theorem Qli{n:Nat}{x0_g}{x1}{x2}:∀ r,Z8 n x0_g x1 x2=some r->FnOk Tryz.prog 371 [.agg [.own 0],Qb x1,Qb x2] [(0,.bx 298 (Qm x0_g))] (Qb r) [(0,.bx 298 (Qm x0_g))]:=by
 unfold Z8
 refine fs Tryz.func371 λw S0 γ hγ=>?_;refine z [2] ?_;refine o (bx' 100) ?_;refine o (bx' 101) ?_;refine o (bx' 102) ?_;refine o (al' 103) ?_;refine z [1,2,32,32] ?_;refine cb (ca Qaz) λr1=>?_;refine z [34,1,8] ?_;exact rt [(0,0)]
theorem Qlj{n:Nat}{x0_g}{x1}{x2}:∀ r,Z9 n x0_g x1 x2=some r->FnOk Tryz.prog 375 [.agg [.own 0],Qb x1,Qb x2] [(0,.bx 298 (Qm x0_g))] (.tup [Qb r.1,bl r.2]) [(0,.bx 298 (Qm x0_g))]:=by
 unfold Z9
 refine fs Tryz.func375 λw S0 γ hγ=>?_;refine z [2] ?_;refine o (bx' 100) ?_;refine o (bx' 101) ?_;refine o (bx' 102) ?_;refine o (al' 103) ?_;refine z [31,1,2,32,32] ?_;refine cb (ca Qi7) λr1=>?_;refine z [35,35,34,31,1,8] ?_;exact rt [(0,0)]
theorem Ql7{n:Nat}{x0_g}{x1}:∀ r,Qay n x0_g x1=some r->FnOk Tryz.prog 373 [.agg [.own 0],Qb x1] [(0,.bx 298 (Qm x0_g))] (Qb r) [(0,.bx 298 (Qm x0_g))]:=by
 unfold Qay
 refine fs Tryz.func373 λw S0 γ hγ=>?_;refine z [2] ?_;refine o (bx' 100) ?_;refine o (bx' 101) ?_;refine o (al' 102) ?_;refine z [1,2,32] ?_;refine cb (ca J0) λr1=>?_;refine z [34,1,8] ?_;exact rt [(0,0)]
theorem Qal{n:Nat}{x0_Arith_g}{x1}{x2}:∀ r,Kg n x0_Arith_g x1 x2=some r->FnOk Tryz.prog 345 [.agg [.agg [.own 0]],Jy x1,Vo x2] [(0,.bx 298 (Qm x0_Arith_g))] (Qb r) [(0,.bx 298 (Qm x0_Arith_g))]:=by
 unfold Kg
 refine fs Tryz.func345 λw S0 γ hγ=>?_;refine z [2] ?_;refine o (bx' 100) ?_;refine o (bx' 101) ?_;refine o (bx' 102) ?_;refine o (al' 103) ?_;refine z [1,5,2,33,36,1,7,2,41,31,1] ?_;refine c ?_ ?_
 . refine z [2,33] ?_
   refine s1 (ldB [0] rfl (by exact rfl) Qfs.h (by exact rfl) (by exact rfl) rfl rfl (.inl rfl)) ?_
   refine s1 (mkIf Tryz.underlying393 rfl rfl) ?_;refine z [33,36] ?_;refine b λr1 h2=>?_;refine s1 (okm rfl rfl (callI (em:=[(0,.bx 298 (Qm x0_Arith_g))]) (res':=Qb r1) [(0,0)] [] [(0,0)] rfl Qvd (Ql7 _ h2) (Xz (K5 (Vy rfl) (Wa))) ⟨⟨_,rfl,rn_id Jd⟩,trivial⟩ (MiF.get (mi:=[(0,_)]) ⟨⟨_,_,rfl,rfl,rc_bx (rn_id Jq)⟩,trivial⟩) ⟨⟨_,rfl⟩,trivial⟩ rfl trivial ⟨.inr rfl,trivial⟩ rfl ⟨.inl ⟨_,_,rfl,rfl,rc_bx (rn_id Jq)⟩,trivial⟩ ⟨⟨_,rfl⟩,trivial⟩ trivial (rn_id Jd) rfl)) ?_;refine z [34,1,8,12,10] ?_;exact rt [(0,0)]
 refine z [2,41,31,1] ?_;refine c ?_ ?_
 . refine z [2,33,36,33,36] ?_;refine b λy3 h4=>?_;refine z [43,42,34,1,8,12,10] ?_;exact rt [(0,0)]
 refine z [2,41,31,1] ?_;refine c ?_ ?_
 . refine z [2,33,36,33,36] ?_;refine b λy5 h6=>?_;refine z [43,42,34,1,8,12,10] ?_;exact rt [(0,0)]
 refine z [9,11,4,2,33,36,34,1,8] ?_;exact rt [(0,0)]
theorem Qam{n:Nat}{x0_Arith_g}{x1}{x2}{x3}:∀ r,Jj n x0_Arith_g x1 x2 x3=some r->FnOk Tryz.prog 336 [.agg [.agg [.own 0]],Jy x1,Vo x2,.own 1] [(0,.bx 298 (Qm x0_Arith_g)),(1,.sl 53 3 (List.map Qb x3))] (.tup [Qb r.1,bl r.2]) [(0,.bx 298 (Qm x0_Arith_g)),(1,.sl 53 3 (List.map Qb x3))]:=by
 unfold Jj
 refine fs Tryz.func336 λw S0 γ hγ=>?_;refine z [2] ?_;refine o (bx' 100) ?_;refine o (bx' 101) ?_;refine o (bx' 102) ?_;refine o (al' 103) ?_;refine z [31,1,5,2,33,36,1,7,2,41,31,1] ?_;refine c ?_ ?_
 . refine z [5] ?_;refine b λy1 h2=>?_;refine b λr3 h4=>?_;refine sd ?_;refine zd [[100]] ?_
   refine dx [14] [100] (λst mm ⟨a14,_⟩ ⟨g100,_⟩=>og (ldB [0] (g100.trans rfl) (by exact rfl) Qfs.h (by exact rfl) (by exact rfl) rfl (a14.trans rfl) (.inl rfl))) ?_
   refine dx [15] [] (λst mm ⟨a15,_⟩ _=>og (mkIf Tryz.underlying393 rfl (a15.trans rfl))) ?_;refine zd [[],[101],[101],[1],[1]] ?_;refine dx [16,21] [0] (λst mm ⟨a16,a21,_⟩ ⟨g0,_⟩=>og (okm (g0.trans rfl) rfl (callI (em:=[(0,.bx 298 (Qm x0_Arith_g))]) (res':=Qb r3) [(0,0)] [] [(0,0)] (a16.trans rfl) Qtw (Qle _ h4) (Xz (K5 (Vy rfl) (Wa))) ⟨⟨_,(a21.trans rfl),rn_id Jd⟩,trivial⟩ (MiF.get (mi:=[(0,_)]) ⟨⟨_,_,rfl,(g0.trans rfl),rc_bx (rn_id Jq)⟩,trivial⟩) ⟨⟨_,rfl⟩,trivial⟩ rfl trivial ⟨.inr rfl,trivial⟩ rfl ⟨.inl ⟨_,_,rfl,rfl,rc_bx (rn_id Jq)⟩,trivial⟩ ⟨⟨_,rfl⟩,trivial⟩ trivial (rn_id Jd) rfl))) ?_;refine zd [[103],[]] ?_;refine de fol ?_;refine z [4,8,12,10] ?_;exact rt [(0,0),(1,1)]
 refine z [2,41,31,1] ?_;refine c ?_ ?_
 . refine z [5] ?_;refine b λy5 h6=>?_;refine b λr7 h8=>?_;refine sd ?_;refine zd [[100]] ?_
   refine dx [25] [100] (λst mm ⟨a25,_⟩ ⟨g100,_⟩=>og (ldB [0] (g100.trans rfl) (by exact rfl) Qfs.h (by exact rfl) (by exact rfl) rfl (a25.trans rfl) (.inl rfl))) ?_
   refine dx [26] [] (λst mm ⟨a26,_⟩ _=>og (mkIf Tryz.underlying393 rfl (a26.trans rfl))) ?_;refine zd [[],[101],[101],[1],[1],[101],[101]] ?_;refine dx [27,32,34] [0] (λst mm ⟨a27,a32,a34,_⟩ ⟨g0,_⟩=>og (okm (g0.trans rfl) rfl (callI (em:=[(0,.bx 298 (Qm x0_Arith_g))]) (res':=.tup [Qb r7.1,bl r7.2]) [(0,0)] [] [(0,0)] (a27.trans rfl) Qtx (Qlf _ h8) (Xz (K5 (Vy rfl) (Wa))) ⟨⟨_,(a32.trans rfl),rn_id Jd⟩,⟨_,(a34.trans rfl),rn_id Qa3⟩,trivial⟩ (MiF.get (mi:=[(0,_)]) ⟨⟨_,_,rfl,(g0.trans rfl),rc_bx (rn_id Jq)⟩,trivial⟩) ⟨⟨_,rfl⟩,trivial⟩ rfl trivial ⟨.inr rfl,trivial⟩ rfl ⟨.inl ⟨_,_,rfl,rfl,rc_bx (rn_id Jq)⟩,trivial⟩ ⟨⟨_,rfl⟩,trivial⟩ trivial (Qbr (K5 (rn_id Jd) (K5 (rn_id if_bl) (Wa)))) rfl))) ?_;refine zd [[],[],[103],[]] ?_;refine de fol ?_;refine z [4,8,12,10] ?_;exact rt [(0,0),(1,1)]
 refine z [2,41,31,1] ?_;refine c ?_ ?_
 . refine z [5] ?_;refine b λy9 h10=>?_;refine b λy11 h12=>?_;refine b λr13 h14=>?_;refine sd ?_;refine zd [[100]] ?_
   refine dx [40] [100] (λst mm ⟨a40,_⟩ ⟨g100,_⟩=>og (ldB [0] (g100.trans rfl) (by exact rfl) Qfs.h (by exact rfl) (by exact rfl) rfl (a40.trans rfl) (.inl rfl))) ?_
   refine dx [41] [] (λst mm ⟨a41,_⟩ _=>og (mkIf Tryz.underlying393 rfl (a41.trans rfl))) ?_;refine zd [[],[101],[101],[1],[1],[],[101],[101],[1],[1]] ?_;refine dx [42,47,52] [0] (λst mm ⟨a42,a47,a52,_⟩ ⟨g0,_⟩=>og (okm (g0.trans rfl) rfl (callI (em:=[(0,.bx 298 (Qm x0_Arith_g))]) (res':=Qb r13) [(0,0)] [] [(0,0)] (a42.trans rfl) Qty (Qlg _ h14) (Xz (K5 (Vy rfl) (Wa))) ⟨⟨_,(a47.trans rfl),rn_id Jd⟩,⟨_,(a52.trans rfl),rn_id Jd⟩,trivial⟩ (MiF.get (mi:=[(0,_)]) ⟨⟨_,_,rfl,(g0.trans rfl),rc_bx (rn_id Jq)⟩,trivial⟩) ⟨⟨_,rfl⟩,trivial⟩ rfl trivial ⟨.inr rfl,trivial⟩ rfl ⟨.inl ⟨_,_,rfl,rfl,rc_bx (rn_id Jq)⟩,trivial⟩ ⟨⟨_,rfl⟩,trivial⟩ trivial (rn_id Jd) rfl))) ?_;refine zd [[103],[]] ?_;refine de fol ?_;refine z [4,8,12,10] ?_;exact rt [(0,0),(1,1)]
 refine z [2,41,31,1] ?_;refine c ?_ ?_
 . refine z [5] ?_;refine b λy15 h16=>?_;refine b λy17 h18=>?_;refine b λr19 h20=>?_;refine sd ?_;refine zd [[100]] ?_
   refine dx [56] [100] (λst mm ⟨a56,_⟩ ⟨g100,_⟩=>og (ldB [0] (g100.trans rfl) (by exact rfl) Qfs.h (by exact rfl) (by exact rfl) rfl (a56.trans rfl) (.inl rfl))) ?_
   refine dx [57] [] (λst mm ⟨a57,_⟩ _=>og (mkIf Tryz.underlying393 rfl (a57.trans rfl))) ?_;refine zd [[],[101],[101],[1],[1],[],[101],[101],[1],[1]] ?_;refine dx [58,63,68] [0] (λst mm ⟨a58,a63,a68,_⟩ ⟨g0,_⟩=>og (okm (g0.trans rfl) rfl (callI (em:=[(0,.bx 298 (Qm x0_Arith_g))]) (res':=Qb r19) [(0,0)] [] [(0,0)] (a58.trans rfl) Qtz (Qlh _ h20) (Xz (K5 (Vy rfl) (Wa))) ⟨⟨_,(a63.trans rfl),rn_id Jd⟩,⟨_,(a68.trans rfl),rn_id Jd⟩,trivial⟩ (MiF.get (mi:=[(0,_)]) ⟨⟨_,_,rfl,(g0.trans rfl),rc_bx (rn_id Jq)⟩,trivial⟩) ⟨⟨_,rfl⟩,trivial⟩ rfl trivial ⟨.inr rfl,trivial⟩ rfl ⟨.inl ⟨_,_,rfl,rfl,rc_bx (rn_id Jq)⟩,trivial⟩ ⟨⟨_,rfl⟩,trivial⟩ trivial (rn_id Jd) rfl))) ?_;refine zd [[103],[]] ?_;refine de fol ?_;refine z [4,8,12,10] ?_;exact rt [(0,0),(1,1)]
 refine z [2,41,31,1] ?_;refine c ?_ ?_
 . refine z [5] ?_;refine b λy21 h22=>?_;refine b λy23 h24=>?_;refine b λr25 h26=>?_;refine sd ?_;refine zd [[100]] ?_
   refine dx [72] [100] (λst mm ⟨a72,_⟩ ⟨g100,_⟩=>og (ldB [0] (g100.trans rfl) (by exact rfl) Qfs.h (by exact rfl) (by exact rfl) rfl (a72.trans rfl) (.inl rfl))) ?_
   refine dx [73] [] (λst mm ⟨a73,_⟩ _=>og (mkIf Tryz.underlying393 rfl (a73.trans rfl))) ?_;refine zd [[],[101],[101],[1],[1],[],[101],[101],[1],[1]] ?_;refine dx [74,79,84] [0] (λst mm ⟨a74,a79,a84,_⟩ ⟨g0,_⟩=>og (okm (g0.trans rfl) rfl (callI (em:=[(0,.bx 298 (Qm x0_Arith_g))]) (res':=Qb r25) [(0,0)] [] [(0,0)] (a74.trans rfl) Qt0 (Qli _ h26) (Xz (K5 (Vy rfl) (Wa))) ⟨⟨_,(a79.trans rfl),rn_id Jd⟩,⟨_,(a84.trans rfl),rn_id Jd⟩,trivial⟩ (MiF.get (mi:=[(0,_)]) ⟨⟨_,_,rfl,(g0.trans rfl),rc_bx (rn_id Jq)⟩,trivial⟩) ⟨⟨_,rfl⟩,trivial⟩ rfl trivial ⟨.inr rfl,trivial⟩ rfl ⟨.inl ⟨_,_,rfl,rfl,rc_bx (rn_id Jq)⟩,trivial⟩ ⟨⟨_,rfl⟩,trivial⟩ trivial (rn_id Jd) rfl))) ?_;refine zd [[103],[]] ?_;refine de fol ?_;refine z [4,8,12,10] ?_;exact rt [(0,0),(1,1)]
 refine z [2,41,31,1] ?_;refine c ?_ ?_
 . refine z [5] ?_;refine b λy27 h28=>?_;refine b λy29 h30=>?_;refine b λr31 h32=>?_;refine sd ?_;refine zd [[100]] ?_
   refine dx [88] [100] (λst mm ⟨a88,_⟩ ⟨g100,_⟩=>og (ldB [0] (g100.trans rfl) (by exact rfl) Qfs.h (by exact rfl) (by exact rfl) rfl (a88.trans rfl) (.inl rfl))) ?_
   refine dx [89] [] (λst mm ⟨a89,_⟩ _=>og (mkIf Tryz.underlying393 rfl (a89.trans rfl))) ?_;refine zd [[],[101],[101],[1],[1],[],[101],[101],[1],[1]] ?_;refine dx [90,95,100] [0] (λst mm ⟨a90,a95,a100,_⟩ ⟨g0,_⟩=>og (okm (g0.trans rfl) rfl (callI (em:=[(0,.bx 298 (Qm x0_Arith_g))]) (res':=.tup [Qb r31.1,bl r31.2]) [(0,0)] [] [(0,0)] (a90.trans rfl) Qt1 (Qlj _ h32) (Xz (K5 (Vy rfl) (Wa))) ⟨⟨_,(a95.trans rfl),rn_id Jd⟩,⟨_,(a100.trans rfl),rn_id Jd⟩,trivial⟩ (MiF.get (mi:=[(0,_)]) ⟨⟨_,_,rfl,(g0.trans rfl),rc_bx (rn_id Jq)⟩,trivial⟩) ⟨⟨_,rfl⟩,trivial⟩ rfl trivial ⟨.inr rfl,trivial⟩ rfl ⟨.inl ⟨_,_,rfl,rfl,rc_bx (rn_id Jq)⟩,trivial⟩ ⟨⟨_,rfl⟩,trivial⟩ trivial (Qbr (K5 (rn_id Jd) (K5 (rn_id if_bl) (Wa)))) rfl))) ?_;refine zd [[],[],[103],[]] ?_;refine de fol ?_;refine z [4,8,12,10] ?_;exact rt [(0,0),(1,1)]
 refine z [9,11,4,2,32,32,32] ?_;refine b λr33 h34=>?_;refine o (cG (Qal _ h34) [0] [] [0]) ?_;refine z [34,31,1,8] ?_;exact rt [(0,0),(1,1)]
theorem Qkp{n:Nat}{x0_g}{x1}:∀ r,X2 n x0_g x1=some r->FnOk Tryz.prog 370 [.agg [.own 0],Qb x1] [(0,.bx 298 (Qm x0_g))] (bl r.1) [(0,.bx 298 (Qm r.2))]:=by
 unfold X2
 refine fs Tryz.func370 λw S0 γ hγ=>?_;refine z [2] ?_;refine o (bx' 100) ?_;refine o (bx' 101) ?_;refine z [31,1,2,33,36,32] ?_;refine b λr1 h2=>?_;refine o (cG (Qdn _ h2) [0] [] []) ?_;refine z [31,1,8] ?_;exact rt [(0,0)]
theorem Qaq{n:Nat}{x0_Arith_g}{x1}{x2}:∀ r,Jw n x0_Arith_g x1 x2=some r->FnOk Tryz.prog 322 [.agg [.agg [.own 0]],Ju x1,Vo x2] [(0,.bx 298 (Qm x0_Arith_g))] (.tup [sli 3 (List.map Qb r.1),Qi r.2.1]) [(0,.bx 298 (Qm r.2.2))]:=by
 unfold Jw
 refine fs Tryz.func322 λw S0 γ hγ=>?_;refine z [2] ?_;refine o (bx' 100) ?_;refine o (bx' 101) ?_;refine o (bx' 102) ?_;refine s1 (asg rfl (kLm (k:=3) Qb)) ?_;refine o (al' 103) ?_;refine z [1,5] ?_;refine sjq (λs5=>[(3,.own 100),(4,.own 101),(5,.own 102),(6,sli 3 (List.map Qb ([]:List Qa))),(7,.own 103),(31,bl s5)]) (λs5=>[(0,.bx 298 (Qm x0_Arith_g)),(100,.bx 395 (.agg [.agg [.own 0]])),(101,.bx 43 (Ju x1)),(102,.bx 397 (Vo x2)),(103,.bx 63 (Qi (⟨0,0,0,0⟩:Qc)))]) ?_ ?_
 . intro j3 hj4
   refine z [6,32] ?_;refine cb (ca Qg7) λr6=>?_;refine z [44,30] ?_;refine sifd 16 rfl ?_ ?_
   . refine z [23,23,23,23,23,23,38,30,23,23,23,23,23,23,38,1] ?_;exact sj (hj4 _) (eR [(0,0),(100,100),(101,101),(102,102),(103,103)])
   refine z [22,22,22,22,22,22,37,30] ?_;refine sifd 24 rfl ?_ ?_
   . refine z [23,23,23,23,23,23,38,1] ?_;exact sj (hj4 _) (eR [(0,0),(100,100),(101,101),(102,102),(103,103)])
   refine z [22,22,22,22,22,22,37,1] ?_;exact sj (hj4 _) (eR [(0,0),(100,100),(101,101),(102,102),(103,103)])
 intro s5
 refine c ?_ ?_
 . refine z [2] ?_;refine s1 (bld (l:=[i64 (2:Int),i64 0,i64 0,i64 0]) pl_63.h ti_63.h Ql ⟨_,_,_,(kI (x:=2) rfl),rfl,rfl,rfl,(szk (k:=1) rfl rfl),rfl⟩ rfl) ?_;refine s1 (asg rfl (kLm (k:=3) Qb)) ?_;refine z [34,1,8,10] ?_;exact rt [(0,0)]
 refine z [9,4,2] ?_;refine so (asgN (y:=104) (E:=53) (k:=3) rfl rfl) ?_;refine z [1,5,2,33,36,39,30,1,7] ?_;refine srN (λs29=>[(3,.own 100),(5,.own 102),(6,sli 3 (List.map Qb ([]:List Qa))),(7,.own 103),(8,.own 104),(34,sli 6 (List.map Jy x1.Code))]) (λs29=>[(0,.bx 298 (Qm s29.1)),(100,.bx 395 (.agg [.agg [.own 0]])),(102,.bx 397 (Vo x2)),(103,.bx 63 (Qi (⟨0,0,0,0⟩:Qc))),(104,.sl 53 3 (List.map Qb s29.2))]) (rE (eR [(0,0),(100,100),(102,102),(103,103),(104,104)])) ?_ ?_
 . intro i30 x31 s29 hx32
   refine z [7,2,30,43,42] ?_;refine o (al' 105) ?_;refine z [31,34,1,2,32,32,32,30] ?_;refine b λr33 h34=>?_;refine o (cG (Qam _ h34) [0,104] [] [0,104]) ?_;refine z [30,35,35] ?_;refine o (al' 106) ?_;refine z [34,31,1,5,7,2,30,44,31,1] ?_;refine c ?_ ?_
   . refine z [2,30] ?_;refine s1 (bld (l:=[i64 (3:Int),i64 0,i64 0,i64 (i30:Int)]) pl_63.h ti_63.h Ql ⟨_,_,_,(kI (x:=3) rfl),rfl,rfl,rfl,(szk (k:=1) rfl rfl),⟨_,_,_,rfl,rfl,rfl,rfl,(szk (k:=1) rfl rfl),rfl⟩⟩ rfl) ?_;refine s1 (asg rfl (kLm (k:=3) Qb)) ?_;refine z [34,1,8,12,10,12] ?_;refine sU ?_;refine z [12,10] ?_;exact rt [(0,0)]
   refine z [2,33] ?_
   refine s1 (ldB [0] rfl (by exact rfl) Qfs.h (by exact rfl) (by exact rfl) rfl rfl (.inl rfl)) ?_
   refine s1 (mkIf Tryz.underlying393 rfl rfl) ?_;refine z [32] ?_;refine b λr35 h36=>?_;refine so (callI (em:=[(0,.bx 298 (Qm r35.2))]) (res':=bl r35.1) [(0,0)] [] [(0,0)] rfl Qsp (Qkp _ h36) (Xz (K5 (Vy rfl) (Wa))) ⟨⟨_,rfl,rn_id Jd⟩,trivial⟩ (MiF.get (mi:=[(0,_)]) ⟨⟨_,_,rfl,rfl,rc_bx (rn_id Jq)⟩,trivial⟩) ⟨⟨_,rfl⟩,trivial⟩ rfl trivial ⟨.inr rfl,trivial⟩ rfl ⟨.inl ⟨_,_,rfl,rfl,rc_bx (rn_id Jq)⟩,trivial⟩ ⟨⟨_,rfl⟩,trivial⟩ trivial (rn_id if_bl) rfl) ?_;refine z [44,31,1] ?_;refine c ?_ ?_
   . refine z [2,30] ?_;refine s1 (bld (l:=[i64 (6:Int),i64 0,i64 0,i64 (i30:Int)]) pl_63.h ti_63.h Ql ⟨_,_,_,(kI (x:=6) rfl),rfl,rfl,rfl,(szk (k:=1) rfl rfl),⟨_,_,_,rfl,rfl,rfl,rfl,(szk (k:=1) rfl rfl),rfl⟩⟩ rfl) ?_;refine s1 (asg rfl (kLm (k:=3) Qb)) ?_;refine z [34,1,8,12,10,12] ?_;refine sU ?_;refine z [12,10] ?_;exact rt [(0,0)]
   refine z [9,11,4,6,30,32] ?_
   refine so (bsl (y:=107) (ls:=List.map Qb ([r33.1]:List Qa)) Tryz.underlying44 ti_53.h rfl rfl rfl rfl rfl ⟨rfl,rfl,(by exact rfl),(by exact rfl),trivial⟩ rfl rfl) ?_
   refine b λy37 h38=>?_;refine o (app' 108) ?_;refine z [31,3,11] ?_;exact sgo (eR [(0,0),(100,100),(102,102),(103,103),(104,108)])
 intro s39
 refine z [13,4,2,30] ?_;refine s1 (bld (l:=[i64 0,i64 0,i64 0,i64 0]) pl_63.h ti_63.h Ql rfl rfl) ?_;refine z [31,34,1,8] ?_;refine fz 104 [6,8,68] [] ?_;exact rt [(0,0)]
end Go.Proofs.YtlihkcaoachkdaaGreatDoor
