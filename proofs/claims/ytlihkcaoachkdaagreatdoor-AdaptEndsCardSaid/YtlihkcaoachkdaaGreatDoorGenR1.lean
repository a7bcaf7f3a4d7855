import Derived.Test.YtlihkcaoachkdaaGreatDoorGen0
set_option maxRecDepth 100000
set_option maxHeartbeats 4000000
namespace Go.Proofs.YtlihkcaoachkdaaGreatDoor
open Go Go.RowKit
theorem Jh{x0}{x1}:∀ r,Qy x0 x1=some r->FnOk Tryz.prog 44 [Qo x0,i64 x1] [] (bl r) []:=by
 unfold Qy
 refine fs Tryz.func44 λw S0 γ hγ=>?_;refine z [2] ?_;refine o (bx' 100) ?_;refine z [31,1] ?_;refine sjq (λs3=>[(4,bl s3)]) (λs3=>[]) ?_ ?_
 . intro j1 hj2
   refine z [6,33,36,39,30,47,30] ?_;refine sifd 10 rfl ?_ ?_
   . refine z [23,23,23,23,23,38,31,1] ?_;exact sj (hj2 _) (eR [])
   refine z [22,22,22,22,22,37,31,1] ?_;exact sj (hj2 _) (eR [])
 intro s3
 refine z [8] ?_;exact rt []
theorem Qh4{n:Nat}{x0}{x1}{x2}:∀ r,Wm n x0 x1 x2=some r->FnOk Tryz.prog 89 [Kr x0,i64 x1,i64 x2] [] (bl r) []:=by
 unfold Wm
 refine fs Tryz.func89 λw S0 γ hγ=>?_;refine z [2] ?_;refine o (bx' 100) ?_;refine z [31,1,5,2,31,1,7] ?_;refine sloopE 0 Lp.go (λs19=>[(1,i64 x1),(2,i64 x2),(3,.own 100),(6,bl false),(7,i64 s19)]) (λs19=>[(100,.bx 25 (Kr x0))]) (λt17=>[(1,i64 x1),(3,.own 100),(6,bl false)]) (λt17=>[(100,.bx 25 (Kr x0))]) (eR [(100,100)]) ?_ ?_
 . intro hj18 s19
   refine z [5] ?_;refine sjq (λs22=>[(1,i64 x1),(2,i64 x2),(3,.own 100),(6,bl false),(7,i64 s19),(17,bl s22)]) (λs22=>[(100,.bx 25 (Kr x0))]) ?_ ?_
   . intro j20 hj21
     refine z [6,30,33,36,39,46,30] ?_;refine sifd 13 rfl ?_ ?_
     . refine z [22,22,22,38,1] ?_;exact sj (hj21 _) (eR [(100,100)])
     refine z [23,23,23,37,1] ?_;exact sj (hj21 _) (eR [(100,100)])
   intro s22
   refine c ?_ ?_
   . refine z [9,4,5,7,2,33,36,30] ?_;refine b λy23 h24=>?_;refine z [43,92,42,30] ?_;refine cb (ca Jh) λr25=>?_;refine z [1] ?_;refine c ?_ ?_
     . refine z [2,31,1,8,12,10] ?_;refine sU ?_;refine z [12,10] ?_;exact rt []
     refine z [9,11,4,6,30,40,31,3] ?_;exact sgo (eR [(100,100)])
   refine z [14,15] ?_;exact su (sj (hj18 _) (eR [(100,100)]))
 intro t17
 refine slpk ?_;refine z [13,4] ?_;refine sjq (λs29=>[(6,bl s29)]) (λs29=>[]) ?_ ?_
 . intro j27 hj28
   refine z [6,33,36,39,30,47,30] ?_;refine sifd 33 rfl ?_ ?_
   . refine z [23,23,23,23,23,38,31,1] ?_;exact sj (hj28 _) (eR [])
   refine z [22,22,22,22,22,37,31,1] ?_;exact sj (hj28 _) (eR [])
 intro s29
 refine z [8] ?_;exact rt []
theorem K7{n:Nat}{x0}{x1}{x2}:∀ r,Q7 n x0 x1 x2=some r->FnOk Tryz.prog 45 [sli 3 (List.map Qo x0),i64 x1,i64 x2] [] (bl r) []:=by
 unfold Q7
 refine fs Tryz.func45 λw S0 γ hγ=>?_;refine z [2,31,1,5,2,31,1,7] ?_;refine sloopE 0 Lp.go (λs19=>[(0,sli 3 (List.map Qo x0)),(1,i64 x1),(2,i64 x2),(6,bl false),(7,i64 s19)]) (λs19=>[]) (λt17=>[(0,sli 3 (List.map Qo x0)),(1,i64 x1),(6,bl false)]) (λt17=>[]) eI ?_ ?_
 . intro hj18 s19
   refine z [5] ?_;refine sjq (λs22=>[(0,sli 3 (List.map Qo x0)),(1,i64 x1),(2,i64 x2),(6,bl false),(7,i64 s19),(16,bl s22)]) (λs22=>[]) ?_ ?_
   . intro j20 hj21
     refine z [6,30,30,39,46,30] ?_;refine sifd 12 rfl ?_ ?_
     . refine z [22,22,22,38,1] ?_;exact sj (hj21 _) eI
     refine z [23,23,23,37,1] ?_;exact sj (hj21 _) eI
   intro s22
   refine c ?_ ?_
   . refine z [9,4,5,7,2,30,30] ?_;refine b λy23 h24=>?_;refine z [43,42,30] ?_;refine cb (ca Jh) λr25=>?_;refine z [1] ?_;refine c ?_ ?_
     . refine z [2,31,1,8,12,10] ?_;refine sU ?_;refine z [12,10] ?_;exact rt []
     refine z [9,11,4,6,30,40,31,3] ?_;exact sgo eI
   refine z [14,15] ?_;exact su (sj (hj18 _) eI)
 intro t17
 refine slpk ?_;refine z [13,4,2,30,39,30,47,31,1,8] ?_;exact rt []
theorem Qh5{n:Nat}{x0}{x1}{x2}:∀ r,Wn n x0 x1 x2=some r->FnOk Tryz.prog 90 [Vh x0,i64 x1,i64 x2] [] (bl r) []:=by
 unfold Wn
 refine fs Tryz.func90 λw S0 γ hγ=>?_;refine z [2] ?_;refine o (bx' 100) ?_;refine z [31,1,5] ?_;refine sjq (λs9=>[(1,i64 x1),(2,i64 x2),(3,.own 100),(6,bl false),(39,bl s9)]) (λs9=>[(100,.bx 29 (Vh x0))]) ?_ ?_
 . intro j7 hj8
   refine z [6,33,36,54,47,30] ?_;refine sifd 12 rfl ?_ ?_
   . refine z [23,23,23,23,23,38,30,23,23,23,23,23,38,30,23,23,23,23,23,38,30,23,23,23,23,23,38,1] ?_;exact sj (hj8 _) (eR [(100,100)])
   refine z [22,22,22,22,22,37,30] ?_;refine sifd 19 rfl ?_ ?_
   . refine z [23,23,23,23,23,38,30,23,23,23,23,23,38,30,23,23,23,23,23,38,1] ?_;exact sj (hj8 _) (eR [(100,100)])
   refine z [22,22,22,22] ?_;refine b λr10 h11=>?_;refine og' (c0 (K7 _ h11)) ?_;refine z [37,30] ?_;refine sifd 26 rfl ?_ ?_
   . refine z [23,23,23,23,23,38,30,23,23,23,23,23,38,1] ?_;exact sj (hj8 _) (eR [(100,100)])
   refine z [22,22,22,22] ?_;refine b λr12 h13=>?_;refine og' (c0 (K7 _ h13)) ?_;refine z [37,30] ?_;refine sifd 33 rfl ?_ ?_
   . refine z [23,23,23,23,23,38,1] ?_;exact sj (hj8 _) (eR [(100,100)])
   refine z [22,22,22,22] ?_;refine b λr14 h15=>?_;refine og' (c0 (K7 _ h15)) ?_;refine z [37,1] ?_;exact sj (hj8 _) (eR [(100,100)])
 intro s9
 refine c ?_ ?_
 . refine z [2,31,1,8,10] ?_;exact rt []
 refine z [9,4,5,2,31,1,7] ?_;refine sloopE 0 Lp.go (λs28=>[(1,i64 x1),(2,i64 x2),(3,.own 100),(6,bl false),(7,i64 s28)]) (λs28=>[(100,.bx 29 (Vh x0))]) (λt26=>[(6,bl false)]) (λt26=>[]) (eR [(100,100)]) ?_ ?_
 . intro hj27 s28
   refine z [5,2,30,33,36,39,46,1] ?_;refine c ?_ ?_
   . refine z [9,4,5,7,2,33,36,30] ?_;refine b λy29 h30=>?_;refine z [43,42,30,30] ?_;refine cb (ca K7) λr31=>?_;refine z [1] ?_;refine c ?_ ?_
     . refine z [2,31,1,8,12,10] ?_;refine sU ?_;refine z [12,10] ?_;exact rt []
     refine z [9,11,4,6,30,40,31,3] ?_;exact sgo (eR [(100,100)])
   refine z [14,15] ?_;exact su (sj (hj27 _) (eR []))
 intro t26
 refine slpk ?_;refine z [13,4,2,31,1,8] ?_;exact rt []
theorem Qh6{n:Nat}{x0}{x1}{x2}{x3}:∀ r,Wo n x0 x1 x2 x3=some r->FnOk Tryz.prog 31 [W6 x0,i64 x1,i64 x2,i64 x3] [] (bl r) []:=by
 unfold Wo
 refine fs Tryz.func31 λw S0 γ hγ=>?_;refine z [2] ?_;refine o (bx' 100) ?_;refine z [31,1] ?_;refine sjq (λs9=>[(8,bl s9)]) (λs9=>[]) ?_ ?_
 . intro j7 hj8
   refine z [6,33,36,30,30] ?_;refine cb (ca Qh4) λr10=>?_;refine z [30] ?_;refine sifd 14 rfl ?_ ?_
   . refine z [23,23,23,23,38,30,23,23,23,23,38,31,1] ?_;exact sj (hj8 _) (eR [])
   refine z [22,22,22] ?_;refine b λr12 h13=>?_;refine og' (c0 (Qh5 _ h13)) ?_;refine z [37,30] ?_;refine sifd 20 rfl ?_ ?_
   . refine z [23,23,23,23,38,31,1] ?_;exact sj (hj8 _) (eR [])
   refine z [22,22,22] ?_;refine b λr14 h15=>?_;refine og' (c0 (K7 _ h15)) ?_;refine z [37,31,1] ?_;exact sj (hj8 _) (eR [])
 intro s9
 refine z [8] ?_;exact rt []
theorem Qh7{x0}{x1}:∀ r,Wq x0 x1=some r->FnOk Tryz.prog 43 [Xp x0,i64 x1] [] (bl r) []:=by
 unfold Wq
 refine fs Tryz.func43 λw S0 γ hγ=>?_;refine z [2] ?_;refine o (bx' 100) ?_;refine z [31,1] ?_;refine sjq (λs13=>[(4,bl s13)]) (λs13=>[]) ?_ ?_
 . intro j11 hj12
   refine z [6,33,36,30] ?_;refine cb (ca Jh) λr14=>?_;refine z [30] ?_;refine sifd 9 rfl ?_ ?_
   . refine z [23,23,23,23,38,30,23,23,23,23,38,30,23,23,23,23,38,30,23,23,23,23,38,31,1] ?_;exact sj (hj12 _) (eR [])
   refine z [22,22,22] ?_;refine b λr16 h17=>?_;refine og' (c0 (Jh _ h17)) ?_;refine z [37,30] ?_;refine sifd 15 rfl ?_ ?_
   . refine z [23,23,23,23,38,30,23,23,23,23,38,30,23,23,23,23,38,31,1] ?_;exact sj (hj12 _) (eR [])
   refine z [22,22,22] ?_;refine b λr18 h19=>?_;refine og' (c0 (Jh _ h19)) ?_;refine z [37,30] ?_;refine sifd 21 rfl ?_ ?_
   . refine z [23,23,23,23,38,30,23,23,23,23,38,31,1] ?_;exact sj (hj12 _) (eR [])
   refine z [22,22,22] ?_;refine b λr20 h21=>?_;refine og' (c0 (Jh _ h21)) ?_;refine z [37,30] ?_;refine sifd 27 rfl ?_ ?_
   . refine z [23,23,23,23,38,31,1] ?_;exact sj (hj12 _) (eR [])
   refine z [22,22,22] ?_;refine b λr22 h23=>?_;refine og' (c0 (Jh _ h23)) ?_;refine z [37,31,1] ?_;exact sj (hj12 _) (eR [])
 intro s13
 refine z [8] ?_;exact rt []
theorem Qh8{n:Nat}{x0}:∀ r,Wr n x0=some r->FnOk Tryz.prog 8 [K6 x0] [] (bl r) []:=by
 unfold Wr
 refine fs Tryz.func8 λw S0 γ hγ=>?_;refine z [2] ?_;refine o (bx' 100) ?_;refine z [31,1] ?_;refine sjq (λs23=>[(2,bl s23)]) (λs23=>[]) ?_ ?_
 . intro j21 hj22
   refine z [6,33,36] ?_;refine cb (ca Qh6) λr24=>?_;refine z [30] ?_;refine sifd 6 rfl ?_ ?_
   . refine z [23,23,23,23,38,30,23,23,23,38,30,23,23,23,23,23,24,24,24,24,23,38,30,23,23,23,38,30,23,23,23,38,30,23,23,23,38,30,23,23,23,38,31,1] ?_;exact sj (hj22 _) (eR [])
   refine z [22,22,22,22,37,30] ?_;refine sifd 12 rfl ?_ ?_
   . refine z [23,23,23,38,30,23,23,23,23,23,24,24,24,24,23,38,30,23,23,23,38,30,23,23,23,38,30,23,23,23,38,30,23,23,23,38,31,1] ?_;exact sj (hj22 _) (eR [])
   refine z [22,22] ?_;refine b λr26 h27=>?_;refine og' (c0 (Qh7 _ h27)) ?_;refine z [37,30] ?_;refine sifd 17 rfl ?_ ?_
   . refine z [23,23,23,23,23,24,24,24,24,23,38,30,23,23,23,38,30,23,23,23,38,30,23,23,23,38,30,23,23,23,38,31,1] ?_;exact sj (hj22 _) (eR [])
   refine z [22,22,22,22,22] ?_;refine sifd 22 rfl ?_ ?_
   . refine z [22,22,22,22,22,37,30] ?_;refine sifd 29 rfl ?_ ?_
     . refine z [23,23,23,38,30,23,23,23,38,30,23,23,23,38,30,23,23,23,38,31,1] ?_;exact sj (hj22 _) (eR [])
     refine z [22,22] ?_;refine b λr28 h29=>?_;refine og' (c0 (Jh _ h29)) ?_;refine z [37,30] ?_;refine sifd 34 rfl ?_ ?_
     . refine z [23,23,23,38,30,23,23,23,38,30,23,23,23,38,31,1] ?_;exact sj (hj22 _) (eR [])
     refine z [22,22] ?_;refine b λr30 h31=>?_;refine og' (c0 (Jh _ h31)) ?_;refine z [37,30] ?_;refine sifd 39 rfl ?_ ?_
     . refine z [23,23,23,38,30,23,23,23,38,31,1] ?_;exact sj (hj22 _) (eR [])
     refine z [22,22] ?_;refine b λr32 h33=>?_;refine og' (c0 (Jh _ h33)) ?_;refine z [37,30] ?_;refine sifd 44 rfl ?_ ?_
     . refine z [23,23,23,38,31,1] ?_;exact sj (hj22 _) (eR [])
     refine z [22,22] ?_;refine b λr34 h35=>?_;refine og' (c0 (K7 _ h35)) ?_;refine z [37,31,1] ?_;exact sj (hj22 _) (eR [])
   refine z [23,23,23,23,22,37,30,22,22] ?_;refine b λr36 h37=>?_;refine og' (c0 (Jh _ h37)) ?_;refine z [37,30] ?_;refine sifd 34 rfl ?_ ?_
   . refine z [23,23,23,38,30,23,23,23,38,30,23,23,23,38,31,1] ?_;exact sj (hj22 _) (eR [])
   refine z [22,22] ?_;refine b λr38 h39=>?_;refine og' (c0 (Jh _ h39)) ?_;refine z [37,30] ?_;refine sifd 39 rfl ?_ ?_
   . refine z [23,23,23,38,30,23,23,23,38,31,1] ?_;exact sj (hj22 _) (eR [])
   refine z [22,22] ?_;refine b λr40 h41=>?_;refine og' (c0 (Jh _ h41)) ?_;refine z [37,30] ?_;refine sifd 44 rfl ?_ ?_
   . refine z [23,23,23,38,31,1] ?_;exact sj (hj22 _) (eR [])
   refine z [22,22] ?_;refine b λr42 h43=>?_;refine og' (c0 (K7 _ h43)) ?_;refine z [37,31,1] ?_;exact sj (hj22 _) (eR [])
 intro s23
 refine z [8] ?_;exact rt []
end Go.Proofs.YtlihkcaoachkdaaGreatDoor
