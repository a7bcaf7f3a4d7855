import Derived.Test.YtlihkcaoachkdaaGreatDoorGen0
set_option maxRecDepth 100000
set_option maxHeartbeats 4000000
namespace Go.Proofs.YtlihkcaoachkdaaGreatDoor
open Go Go.RowKit
theorem Ka{x0}{x1}:∀ r,Jc x0 x1=some r->FnOk Tryz.prog 44 [Qc x0,i64 x1] [] (bl r) []:=by
 unfold Jc
 refine fs Tryz.func44 λw S0 γ hγ=>?_;refine z [2] ?_;refine o (bx' 100) ?_;refine z [31,1] ?_;refine sjq (λs3=>[(4,bl s3)]) (λs3=>[]) ?_ ?_
 . intro j1 hj2
   refine z [6,33,36,39,30,47,30] ?_;refine sifd 10 rfl ?_ ?_
   . refine z [23,23,23,23,23,38,31,1] ?_;exact sj (hj2 _) (eR [])
   refine z [22,22,22,22,22,37,31,1] ?_;exact sj (hj2 _) (eR [])
 intro s3
 refine z [8] ?_;exact rt []
theorem Qo8{n:Nat}{x0}{x1}{x2}:∀ r,Z1 n x0 x1 x2=some r->FnOk Tryz.prog 89 [Jh x0,i64 x1,i64 x2] [] (bl r) []:=by
 unfold Z1
 refine fs Tryz.func89 λw S0 γ hγ=>?_;refine z [2] ?_;refine o (bx' 100) ?_;refine z [31,1,5,2,31,1,7] ?_;refine sloopE 0 Lp.go (λs19=>[(1,i64 x1),(2,i64 x2),(3,.own 100),(6,bl false),(7,i64 s19)]) (λs19=>[(100,.bx 25 (Jh x0))]) (λt17=>[(1,i64 x1),(3,.own 100),(6,bl false)]) (λt17=>[(100,.bx 25 (Jh x0))]) (eR [(100,100)]) ?_ ?_
 . intro hj18 s19
   refine z [5] ?_;refine sjq (λs22=>[(1,i64 x1),(2,i64 x2),(3,.own 100),(6,bl false),(7,i64 s19),(17,bl s22)]) (λs22=>[(100,.bx 25 (Jh x0))]) ?_ ?_
   . intro j20 hj21
     refine z [6,30,33,36,39,46,30] ?_;refine sifd 13 rfl ?_ ?_
     . refine z [22,22,22,38,1] ?_;exact sj (hj21 _) (eR [(100,100)])
     refine z [23,23,23,37,1] ?_;exact sj (hj21 _) (eR [(100,100)])
   intro s22
   refine c ?_ ?_
   . refine z [9,4,5,7,2,33,36,30] ?_;refine b λy23 h24=>?_;refine z [43,92,42,30] ?_;refine cb (ca Ka) λr25=>?_;refine z [1] ?_;refine c ?_ ?_
     . refine z [2,31,1,8,12,10] ?_;refine sU ?_;refine z [12,10] ?_;exact rt []
     refine z [9,11,4,6,30,40,31,3] ?_;exact sgo (eR [(100,100)])
   refine z [14,15] ?_;exact su (sj (hj18 _) (eR [(100,100)]))
 intro t17
 refine slpk ?_;refine z [13,4] ?_;refine sjq (λs29=>[(6,bl s29)]) (λs29=>[]) ?_ ?_
 . intro j27 hj28
   refine z [6,33,36,39,30,47,30] ?_;refine sifd 33 rfl ?_ ?_
   . refine z [23,23,23,23,23,38,31,1] ?_;exact sj (hj28 _) (eR [])
   refine z [22,22,22,22,22,37,31,1] ?_;exact sj (hj28 _) (eR [])
 intro s29
 refine z [8] ?_;exact rt []
theorem Xd{n:Nat}{x0}{x1}{x2}:∀ r,Jt n x0 x1 x2=some r->FnOk Tryz.prog 45 [sli 3 (List.map Qc x0),i64 x1,i64 x2] [] (bl r) []:=by
 unfold Jt
 refine fs Tryz.func45 λw S0 γ hγ=>?_;refine z [2,31,1,5,2,31,1,7] ?_;refine sloopE 0 Lp.go (λs19=>[(0,sli 3 (List.map Qc x0)),(1,i64 x1),(2,i64 x2),(6,bl false),(7,i64 s19)]) (λs19=>[]) (λt17=>[(0,sli 3 (List.map Qc x0)),(1,i64 x1),(6,bl false)]) (λt17=>[]) eI ?_ ?_
 . intro hj18 s19
   refine z [5] ?_;refine sjq (λs22=>[(0,sli 3 (List.map Qc x0)),(1,i64 x1),(2,i64 x2),(6,bl false),(7,i64 s19),(16,bl s22)]) (λs22=>[]) ?_ ?_
   . intro j20 hj21
     refine z [6,30,30,39,46,30] ?_;refine sifd 12 rfl ?_ ?_
     . refine z [22,22,22,38,1] ?_;exact sj (hj21 _) eI
     refine z [23,23,23,37,1] ?_;exact sj (hj21 _) eI
   intro s22
   refine c ?_ ?_
   . refine z [9,4,5,7,2,30,30] ?_;refine b λy23 h24=>?_;refine z [43,42,30] ?_;refine cb (ca Ka) λr25=>?_;refine z [1] ?_;refine c ?_ ?_
     . refine z [2,31,1,8,12,10] ?_;refine sU ?_;refine z [12,10] ?_;exact rt []
     refine z [9,11,4,6,30,40,31,3] ?_;exact sgo eI
   refine z [14,15] ?_;exact su (sj (hj18 _) eI)
 intro t17
 refine slpk ?_;refine z [13,4,2,30,39,30,47,31,1,8] ?_;exact rt []
theorem Qo9{n:Nat}{x0}{x1}{x2}:∀ r,Z2 n x0 x1 x2=some r->FnOk Tryz.prog 90 [Q8 x0,i64 x1,i64 x2] [] (bl r) []:=by
 unfold Z2
 refine fs Tryz.func90 λw S0 γ hγ=>?_;refine z [2] ?_;refine o (bx' 100) ?_;refine z [31,1,5] ?_;refine sjq (λs9=>[(1,i64 x1),(2,i64 x2),(3,.own 100),(6,bl false),(39,bl s9)]) (λs9=>[(100,.bx 29 (Q8 x0))]) ?_ ?_
 . intro j7 hj8
   refine z [6,33,36,54,47,30] ?_;refine sifd 12 rfl ?_ ?_
   . refine z [23,23,23,23,23,38,30,23,23,23,23,23,38,30,23,23,23,23,23,38,30,23,23,23,23,23,38,1] ?_;exact sj (hj8 _) (eR [(100,100)])
   refine z [22,22,22,22,22,37,30] ?_;refine sifd 19 rfl ?_ ?_
   . refine z [23,23,23,23,23,38,30,23,23,23,23,23,38,30,23,23,23,23,23,38,1] ?_;exact sj (hj8 _) (eR [(100,100)])
   refine z [22,22,22,22] ?_;refine b λr10 h11=>?_;refine og' (c0 (Xd _ h11)) ?_;refine z [37,30] ?_;refine sifd 26 rfl ?_ ?_
   . refine z [23,23,23,23,23,38,30,23,23,23,23,23,38,1] ?_;exact sj (hj8 _) (eR [(100,100)])
   refine z [22,22,22,22] ?_;refine b λr12 h13=>?_;refine og' (c0 (Xd _ h13)) ?_;refine z [37,30] ?_;refine sifd 33 rfl ?_ ?_
   . refine z [23,23,23,23,23,38,1] ?_;exact sj (hj8 _) (eR [(100,100)])
   refine z [22,22,22,22] ?_;refine b λr14 h15=>?_;refine og' (c0 (Xd _ h15)) ?_;refine z [37,1] ?_;exact sj (hj8 _) (eR [(100,100)])
 intro s9
 refine c ?_ ?_
 . refine z [2,31,1,8,10] ?_;exact rt []
 refine z [9,4,5,2,31,1,7] ?_;refine sloopE 0 Lp.go (λs28=>[(1,i64 x1),(2,i64 x2),(3,.own 100),(6,bl false),(7,i64 s28)]) (λs28=>[(100,.bx 29 (Q8 x0))]) (λt26=>[(6,bl false)]) (λt26=>[]) (eR [(100,100)]) ?_ ?_
 . intro hj27 s28
   refine z [5,2,30,33,36,39,46,1] ?_;refine c ?_ ?_
   . refine z [9,4,5,7,2,33,36,30] ?_;refine b λy29 h30=>?_;refine z [43,42,30,30] ?_;refine cb (ca Xd) λr31=>?_;refine z [1] ?_;refine c ?_ ?_
     . refine z [2,31,1,8,12,10] ?_;refine sU ?_;refine z [12,10] ?_;exact rt []
     refine z [9,11,4,6,30,40,31,3] ?_;exact sgo (eR [(100,100)])
   refine z [14,15] ?_;exact su (sj (hj27 _) (eR []))
 intro t26
 refine slpk ?_;refine z [13,4,2,31,1,8] ?_;exact rt []
theorem Qpa{n:Nat}{x0}{x1}{x2}{x3}:∀ r,Z3 n x0 x1 x2 x3=some r->FnOk Tryz.prog 31 [Kd x0,i64 x1,i64 x2,i64 x3] [] (bl r) []:=by
 unfold Z3
 refine fs Tryz.func31 λw S0 γ hγ=>?_;refine z [2] ?_;refine o (bx' 100) ?_;refine z [31,1] ?_;refine sjq (λs9=>[(8,bl s9)]) (λs9=>[]) ?_ ?_
 . intro j7 hj8
   refine z [6,33,36,30,30] ?_;refine cb (ca Qo8) λr10=>?_;refine z [30] ?_;refine sifd 14 rfl ?_ ?_
   . refine z [23,23,23,23,38,30,23,23,23,23,38,31,1] ?_;exact sj (hj8 _) (eR [])
   refine z [22,22,22] ?_;refine b λr12 h13=>?_;refine og' (c0 (Qo9 _ h13)) ?_;refine z [37,30] ?_;refine sifd 20 rfl ?_ ?_
   . refine z [23,23,23,23,38,31,1] ?_;exact sj (hj8 _) (eR [])
   refine z [22,22,22] ?_;refine b λr14 h15=>?_;refine og' (c0 (Xd _ h15)) ?_;refine z [37,31,1] ?_;exact sj (hj8 _) (eR [])
 intro s9
 refine z [8] ?_;exact rt []
theorem Qpb{x0}{x1}:∀ r,Z7 x0 x1=some r->FnOk Tryz.prog 43 [Kg x0,i64 x1] [] (bl r) []:=by
 unfold Z7
 refine fs Tryz.func43 λw S0 γ hγ=>?_;refine z [2] ?_;refine o (bx' 100) ?_;refine z [31,1] ?_;refine sjq (λs13=>[(4,bl s13)]) (λs13=>[]) ?_ ?_
 . intro j11 hj12
   refine z [6,33,36,30] ?_;refine cb (ca Ka) λr14=>?_;refine z [30] ?_;refine sifd 9 rfl ?_ ?_
   . refine z [23,23,23,23,38,30,23,23,23,23,38,30,23,23,23,23,38,30,23,23,23,23,38,31,1] ?_;exact sj (hj12 _) (eR [])
   refine z [22,22,22] ?_;refine b λr16 h17=>?_;refine og' (c0 (Ka _ h17)) ?_;refine z [37,30] ?_;refine sifd 15 rfl ?_ ?_
   . refine z [23,23,23,23,38,30,23,23,23,23,38,30,23,23,23,23,38,31,1] ?_;exact sj (hj12 _) (eR [])
   refine z [22,22,22] ?_;refine b λr18 h19=>?_;refine og' (c0 (Ka _ h19)) ?_;refine z [37,30] ?_;refine sifd 21 rfl ?_ ?_
   . refine z [23,23,23,23,38,30,23,23,23,23,38,31,1] ?_;exact sj (hj12 _) (eR [])
   refine z [22,22,22] ?_;refine b λr20 h21=>?_;refine og' (c0 (Ka _ h21)) ?_;refine z [37,30] ?_;refine sifd 27 rfl ?_ ?_
   . refine z [23,23,23,23,38,31,1] ?_;exact sj (hj12 _) (eR [])
   refine z [22,22,22] ?_;refine b λr22 h23=>?_;refine og' (c0 (Ka _ h23)) ?_;refine z [37,31,1] ?_;exact sj (hj12 _) (eR [])
 intro s13
 refine z [8] ?_;exact rt []
theorem Qpc{n:Nat}{x0}:∀ r,Z8 n x0=some r->FnOk Tryz.prog 8 [Jo x0] [] (bl r) []:=by
 unfold Z8
 refine fs Tryz.func8 λw S0 γ hγ=>?_;refine z [2] ?_;refine o (bx' 100) ?_;refine z [31,1] ?_;refine sjq (λs23=>[(2,bl s23)]) (λs23=>[]) ?_ ?_
 . intro j21 hj22
   refine z [6,33,36] ?_;refine cb (ca Qpa) λr24=>?_;refine z [30] ?_;refine sifd 6 rfl ?_ ?_
   . refine z [23,23,23,23,38,30,23,23,23,38,30,23,23,23,23,23,24,24,24,24,23,38,30,23,23,23,38,30,23,23,23,38,30,23,23,23,38,30,23,23,23,38,31,1] ?_;exact sj (hj22 _) (eR [])
   refine z [22,22,22,22,37,30] ?_;refine sifd 12 rfl ?_ ?_
   . refine z [23,23,23,38,30,23,23,23,23,23,24,24,24,24,23,38,30,23,23,23,38,30,23,23,23,38,30,23,23,23,38,30,23,23,23,38,31,1] ?_;exact sj (hj22 _) (eR [])
   refine z [22,22] ?_;refine b λr26 h27=>?_;refine og' (c0 (Qpb _ h27)) ?_;refine z [37,30] ?_;refine sifd 17 rfl ?_ ?_
   . refine z [23,23,23,23,23,24,24,24,24,23,38,30,23,23,23,38,30,23,23,23,38,30,23,23,23,38,30,23,23,23,38,31,1] ?_;exact sj (hj22 _) (eR [])
   refine z [22,22,22,22,22] ?_;refine sifd 22 rfl ?_ ?_
   . refine z [22,22,22,22,22,37,30] ?_;refine sifd 29 rfl ?_ ?_
     . refine z [23,23,23,38,30,23,23,23,38,30,23,23,23,38,30,23,23,23,38,31,1] ?_;exact sj (hj22 _) (eR [])
     refine z [22,22] ?_;refine b λr28 h29=>?_;refine og' (c0 (Ka _ h29)) ?_;refine z [37,30] ?_;refine sifd 34 rfl ?_ ?_
     . refine z [23,23,23,38,30,23,23,23,38,30,23,23,23,38,31,1] ?_;exact sj (hj22 _) (eR [])
     refine z [22,22] ?_;refine b λr30 h31=>?_;refine og' (c0 (Ka _ h31)) ?_;refine z [37,30] ?_;refine sifd 39 rfl ?_ ?_
     . refine z [23,23,23,38,30,23,23,23,38,31,1] ?_;exact sj (hj22 _) (eR [])
     refine z [22,22] ?_;refine b λr32 h33=>?_;refine og' (c0 (Ka _ h33)) ?_;refine z [37,30] ?_;refine sifd 44 rfl ?_ ?_
     . refine z [23,23,23,38,31,1] ?_;exact sj (hj22 _) (eR [])
     refine z [22,22] ?_;refine b λr34 h35=>?_;refine og' (c0 (Xd _ h35)) ?_;refine z [37,31,1] ?_;exact sj (hj22 _) (eR [])
   refine z [23,23,23,23,22,37,30,22,22] ?_;refine b λr36 h37=>?_;refine og' (c0 (Ka _ h37)) ?_;refine z [37,30] ?_;refine sifd 34 rfl ?_ ?_
   . refine z [23,23,23,38,30,23,23,23,38,30,23,23,23,38,31,1] ?_;exact sj (hj22 _) (eR [])
   refine z [22,22] ?_;refine b λr38 h39=>?_;refine og' (c0 (Ka _ h39)) ?_;refine z [37,30] ?_;refine sifd 39 rfl ?_ ?_
   . refine z [23,23,23,38,30,23,23,23,38,31,1] ?_;exact sj (hj22 _) (eR [])
   refine z [22,22] ?_;refine b λr40 h41=>?_;refine og' (c0 (Ka _ h41)) ?_;refine z [37,30] ?_;refine sifd 44 rfl ?_ ?_
   . refine z [23,23,23,38,31,1] ?_;exact sj (hj22 _) (eR [])
   refine z [22,22] ?_;refine b λr42 h43=>?_;refine og' (c0 (Xd _ h43)) ?_;refine z [37,31,1] ?_;exact sj (hj22 _) (eR [])
 intro s23
 refine z [8] ?_;exact rt []
theorem Kn{n:Nat}{x0}:∀ r,Jn n x0=some r->FnOk Tryz.prog 109 [sli 1 (List.map u32 x0)] [] (.own 50) [(50,.sl 189 1 (List.map u32 r))]:=by
 unfold Jn
 refine fs Tryz.func109 λw S0 γ hγ=>?_;refine z [2] ?_;refine s1 (asg rfl (kLm (k:=1) u32)) ?_;refine z [1,2,30,39,31,1,5,7] ?_;refine sloopE 0 (λt=>t) (λs19=>[(0,sli 1 (List.map u32 x0)),(2,sli 1 (List.map u32 ([]:List Nat))),(3,i64 s19)]) (λs19=>[]) (λt17=>[(0,sli 1 (List.map u32 x0)),(2,sli 1 (List.map u32 ([]:List Nat))),(3,i64 t17)]) (λt17=>[]) eI ?_ ?_
 . intro hj18 s19
   refine z [5] ?_;refine sjq (λs24=>[(0,sli 1 (List.map u32 x0)),(2,sli 1 (List.map u32 ([]:List Nat))),(3,i64 s19),(15,bl s24)]) (λs24=>[]) ?_ ?_
   . intro j22 hj23
     refine z [6,30,47,30] ?_;refine sifd 8 rfl ?_ ?_
     . refine z [22,22,22] ?_;refine b λy25 h26=>?_;refine z [22,22,22,38,1] ?_;exact sj (hj23 _) eI
     refine z [23,23,23,23,23,23,37,1] ?_;exact sj (hj23 _) eI
   intro s24
   refine c ?_ ?_
   . refine z [9,4,7,6,30,49,31,3,11] ?_;exact sgo eI
   refine z [14,15] ?_;exact su (sj (hj18 _) eI)
 intro t17
 refine z [13,4,2] ?_;refine so (bsl (y:=100) (ls:=List.map u32 ([]:List Nat)) Tryz.underlying32 K6.h rfl rfl rfl rfl rfl trivial rfl rfl) ?_;refine z [30,30] ?_;refine b λy27 h28=>?_;refine s1 (slR (f:=u32) h28 Tryz.underlying32 K6.h rfl rfl bnd0 (bnd rfl)) ?_;refine b λy29 h30=>?_;refine o (app' 101) ?_;refine z [31,1,8] ?_;exact rt [(50,101)]
theorem Qi0{x0}:∀ r,Yv x0=some r->FnOk Tryz.prog 110 [sli 1 (List.map u32 x0)] [] (bl r) []:=by
 unfold Yv
 refine fs Tryz.func110 λw S0 γ hγ=>?_;refine z [2,31,1] ?_;refine sjq (λs5=>[(2,bl s5)]) (λs5=>[]) ?_ ?_
 . intro j3 hj4
   refine z [6,30,39,41,30] ?_;refine sifd 6 rfl ?_ ?_
   . refine z [22] ?_;refine b λy6 h7=>?_;refine z [22,22,22,38,31,1] ?_;exact sj (hj4 _) eI
   refine z [23,23,23,23,37,31,1] ?_;exact sj (hj4 _) eI
 intro s5
 refine z [8] ?_;exact rt []
theorem Qn2{n:Nat}{x0}:∀ r,Xy n x0=some r->FnOk Tryz.prog 224 [u32 x0] [] (i64 r) []:=by
 unfold Xy
 refine fs Tryz.func224 λw S0 γ hγ=>?_;refine z [2,31,1,5,2,30,66,1] ?_;refine c ?_ ?_
 . refine z [2,31,1,8,10] ?_;exact rt []
 refine z [9,4,2,31,1,5,7] ?_;refine sloopE 0 (λt=>t) (λs5=>[(0,u32 s5.1),(2,i64 (0:Int)),(3,i64 s5.2)]) (λs5=>[]) (λt3=>[(2,i64 (0:Int)),(3,i64 t3)]) (λt3=>[]) eI ?_ ?_
 . intro hj4 s5
   refine z [5,2,30,81,66,1] ?_;refine c ?_ ?_
   . refine z [9,4,7,2,30,80,31,1,6,30,40,31,3,11] ?_;exact sgo eI
   refine z [14,15] ?_;exact su (sj (hj4 _) eI)
 intro t3
 refine z [13,4,2,30,31,1,8] ?_;exact rt []
theorem Qpi{n:Nat}{x0}{x0o}{x0l}{x1}:∀ r,Yg n x0 x0o x0l x1=some r->FnOk Tryz.prog 225 [.win 0 x0o x0l,i64 x1] [(0,.sl 189 1 (List.map u32 x0))] (.win 0 r.1 r.2.1) [(0,.sl 189 1 (List.map u32 r.2.2))]:=by
 unfold Yg
 refine fs Tryz.func225 λw S0 γ hγ=>?_;refine z [2] ?_;refine s1 (asg rfl (kLm (k:=1) u32)) ?_;refine z [1,5,2,31,1,7] ?_;refine sloopE 0 (λt=>t) (λs41=>[(0,.win 0 x0o x0l),(1,i64 x1),(4,sli 1 (List.map u32 ([]:List Nat))),(5,i64 s41.2)]) (λs41=>[(0,.sl 189 1 (List.map u32 s41.1))]) (λt39=>[(0,.win 0 x0o x0l),(4,sli 1 (List.map u32 ([]:List Nat)))]) (λt39=>[(0,.sl 189 1 (List.map u32 t39))]) (eR [(0,0)]) ?_ ?_
 . intro hj40 s41
   refine z [5,2,30,30,87,46,1] ?_;refine c ?_ ?_
   . refine z [9,4,5,7,2,31,1] ?_;refine sjq (λs47=>[(0,.win 0 x0o x0l),(1,i64 x1),(4,sli 1 (List.map u32 ([]:List Nat))),(5,i64 s41.2),(6,u64 s47)]) (λs47=>[(0,.sl 189 1 (List.map u32 s41.1))]) ?_ ?_
     . intro j45 hj46
       refine z [2,30,40,30,87,46,1] ?_;refine c ?_ ?_
       . refine z [6,30,30,40] ?_;refine b λ_ h50=>?_;refine b λy48 h49=>?_;refine s1 (ixW (f:=u32) (Qbs h50) rfl Tryz.underlying32 K6.h h49 rfl rfl rfl) ?_;refine z [51,59,31,1] ?_;exact sj (hj46 _) (eR [(0,0)])
       refine z [9,4] ?_;exact sj (hj46 _) (eR [(0,0)])
     intro s47
     refine z [6,30,30,30,63,30,30] ?_;refine b λ_ h53=>?_;refine b λy51 h52=>?_;refine s1 (ixW (f:=u32) (Qbs h53) rfl Tryz.underlying32 K6.h h52 rfl rfl rfl) ?_;refine z [51,59,61] ?_;refine sbn (F:=u64) 33 rfl λz54=>?_;refine z [30] ?_;refine b λ_ h55=>?_;refine s1 (shrU uk64 (ge0 h55) rfl rfl rfl) ?_;refine z [60] ?_;refine b λ_ h58=>?_;refine b λy56 h57=>?_;refine s1 (ixW (f:=u32) (Qbs h58) rfl Tryz.underlying32 K6.h h57 rfl rfl rfl) ?_;refine z [53] ?_;refine sbm (C:=λx=>.sl 189 1 (List.map u32 x)) 0 rfl λz59=>?_;refine z [3,11,4,6,30,40,31,3] ?_;exact sgo (eR [(0,0)])
   refine z [14,15] ?_;exact su (sj (hj40 _) (eR [(0,0)]))
 intro t39
 refine z [13,4,5,7] ?_;refine sloopE 2 (λt=>t) (λs84=>[(0,.win 0 s84.1 s84.2),(4,sli 1 (List.map u32 ([]:List Nat)))]) (λs84=>[(0,.sl 189 1 (List.map u32 t39))]) (λt82=>[(0,.win 0 t82.1 t82.2),(4,sli 1 (List.map u32 ([]:List Nat)))]) (λt82=>[(0,.sl 189 1 (List.map u32 t39))]) (eR [(0,0)]) ?_ ?_
 . intro hj83 s84
   refine z [5] ?_;refine sjq (λs90=>[(0,.win 0 s84.1 s84.2),(4,sli 1 (List.map u32 ([]:List Nat))),(49,bl s90)]) (λs90=>[(0,.sl 189 1 (List.map u32 t39))]) ?_ ?_
   . intro j88 hj89
     refine z [6,30,87,47,30] ?_;refine sifd 41 rfl ?_ ?_
     . refine z [22,22,22,22] ?_;refine b λ_ h93=>?_;refine b λy91 h92=>?_;refine sg 41 rfl rfl (ixW (f:=u32) (Qbs h93) rfl Tryz.underlying32 K6.h h92 rfl rfl rfl) ?_;refine z [22,22,38,1] ?_;exact sj (hj89 _) (eR [(0,0)])
     refine z [23,23,23,23,23,23,23,37,1] ?_;exact sj (hj89 _) (eR [(0,0)])
   intro s90
   refine c ?_ ?_
   . refine z [9,4,7,6,30,30,87,49] ?_;refine b λ_ h94=>?_;refine s1 (slW (Qbs h94) rfl Tryz.underlying32 K6.h rfl rfl bnd0 (bnd rfl)) ?_;refine z [31,3,11] ?_;exact sgo (eR [(0,0)])
   refine z [14,15] ?_;exact su (sj (hj83 _) (eR [(0,0)]))
 intro t82
 refine z [13,4,2,30,31,1,8] ?_;exact rt [(0,0)]
theorem Qe6{n:Nat}{x0}{x0o}{x0l}:∀ r,Vz n x0 x0o x0l=some r->FnOk Tryz.prog 175 [.win 0 x0o x0l] [(0,.sl 189 1 (List.map u32 x0))] (.tup [.win 0 r.1 r.2.1,i64 r.2.2.1]) [(0,.sl 189 1 (List.map u32 r.2.2.2))]:=by
 unfold Vz
 refine fs Tryz.func175 λw S0 γ hγ=>?_;refine z [2] ?_;refine s1 (asg rfl (kLm (k:=1) u32)) ?_;refine z [31,1,2,31,1,5,7] ?_;refine sloopE 0 (λt=>t) (λs13=>[(0,.win 0 s13.1 s13.2.1),(2,sli 1 (List.map u32 ([]:List Nat))),(3,i64 (0:Int)),(4,i64 s13.2.2)]) (λs13=>[(0,.sl 189 1 (List.map u32 x0))]) (λt11=>[(0,.win 0 t11.1 t11.2.1),(2,sli 1 (List.map u32 ([]:List Nat))),(3,i64 (0:Int)),(4,i64 t11.2.2)]) (λt11=>[(0,.sl 189 1 (List.map u32 x0))]) (eR [(0,0)]) ?_ ?_
 . intro hj12 s13
   refine z [5,2,30] ?_;refine b λ_ h16=>?_;refine b λy14 h15=>?_;refine s1 (ixW (f:=u32) (Qbs h16) rfl Tryz.underlying32 K6.h h15 rfl rfl (kI (x:=0) rfl)) ?_;refine z [51,66,1] ?_;refine c ?_ ?_
   . refine z [9,4,7,2,30] ?_;refine b λ_ h17=>?_;refine s1 (slW (Qbs h17) rfl Tryz.underlying32 K6.h rfl rfl (bnd (kI (x:=1) rfl)) bnd0) ?_;refine z [31,1,6,30,40,31,3,11] ?_;exact sgo (eR [(0,0)])
   refine z [14,15] ?_;exact su (sj (hj12 _) (eR [(0,0)]))
 intro t11
 refine z [13,4,2,30] ?_;refine b λ_ h20=>?_;refine b λy18 h19=>?_;refine s1 (ixW (f:=u32) (Qbs h20) rfl Tryz.underlying32 K6.h h19 rfl rfl (kI (x:=0) rfl)) ?_;refine z [51] ?_;refine cb (ca Qn2) λr21=>?_;refine z [31,1,2,30,30] ?_;refine b λr23 h24=>?_;refine o (cG (Qpi _ h24) [0] [] []) ?_;refine z [30,30,40,31,31,1,8] ?_;exact rt [(0,0)]
theorem Yb{x0}{x1}:∀ r,Vi x0 x1=some r->FnOk Tryz.prog 226 [sli 1 (List.map u32 x0),i64 x1] [] (u32 r) []:=by
 unfold Vi
 refine fs Tryz.func226 λw S0 γ hγ=>?_;refine z [2,31,1,5,2,30,30,39,46,1] ?_;refine c ?_ ?_
 . refine z [2,30,30] ?_;refine b λy1 h2=>?_;refine z [43,42,31,1,8,10] ?_;exact rt []
 refine z [9,4,2,31,1,8] ?_;exact rt []
theorem Qe7{n:Nat}{x0}{x1}:∀ r,Xp n x0 x1=some r->FnOk Tryz.prog 176 [sli 1 (List.map u32 x0),sli 1 (List.map u32 x1)] [] (i64 r) []:=by
 unfold Xp
 refine fs Tryz.func176 λw S0 γ hγ=>?_;refine z [2,31,1,5,2,30,39,30,39,88,49,31,1,7] ?_;refine sloopE 0 Lp.go (λs15=>[(0,sli 1 (List.map u32 x0)),(1,sli 1 (List.map u32 x1)),(4,i64 (0:Int)),(5,i64 s15)]) (λs15=>[]) (λt13=>[(4,i64 (0:Int))]) (λt13=>[]) eI ?_ ?_
 . intro hj14 s15
   refine z [5,2,30,57,1] ?_;refine c ?_ ?_
   . refine z [9,4,5,7,2,30,30] ?_;refine cb (ca Yb) λr16=>?_;refine z [31,1,2,30,30] ?_;refine cb (ca Yb) λr18=>?_;refine z [31,1,5,2,30,30,68,1] ?_;refine c ?_ ?_
     . refine z [2,31,1,8,10,12,10] ?_;refine sU ?_;refine z [12,10] ?_;exact rt []
     refine z [9,4,2,30,30,69,1] ?_;refine c ?_ ?_
     . refine z [2,31,1,8,12,10] ?_;refine sU ?_;refine z [12,10] ?_;exact rt []
     refine z [9,11,4,6,30,49,31,3] ?_;exact sgo eI
   refine z [14,15] ?_;exact su (sj (hj14 _) eI)
 intro t13
 refine slpk ?_;refine z [13,4,2,31,1,8] ?_;exact rt []
theorem Qh7{n:Nat}{x0}{x0o}{x0l}{x1}:∀ r,Wf n x0 x0o x0l x1=some r->FnOk Tryz.prog 177 [.win 0 x0o x0l,sli 1 (List.map u32 x1)] [(0,.sl 189 1 (List.map u32 x0))] (.tup []) [(0,.sl 189 1 (List.map u32 r))]:=by
 unfold Wf
 refine fs Tryz.func177 λw S0 γ hγ=>?_;refine z [2,31,1,2,31,1,7] ?_;refine sloopE 0 (λt=>t) (λs30=>[(0,.win 0 x0o x0l),(1,sli 1 (List.map u32 x1)),(4,u64 s30.2.1),(5,i64 s30.2.2)]) (λs30=>[(0,.sl 189 1 (List.map u32 s30.1))]) (λt28=>[]) (λt28=>[(0,.sl 189 1 (List.map u32 t28))]) (eR [(0,0)]) ?_ ?_
 . intro hj29 s30
   refine z [5,2,30,30,87,46,1] ?_;refine c ?_ ?_
   . refine z [9,4,5,7,2,30,30] ?_;refine b λ_ h33=>?_;refine b λy31 h32=>?_;refine s1 (ixW (f:=u32) (Qbs h33) rfl Tryz.underlying32 K6.h h32 rfl rfl rfl) ?_;refine z [51,59,31,1,2,30,30] ?_;refine cb (ca Yb) λr34=>?_;refine z [59,30,61,31,1,2,31,1] ?_;refine sjq (λs38=>[(0,.win 0 x0o x0l),(1,sli 1 (List.map u32 x1)),(4,u64 s38.1),(5,i64 s30.2.2),(6,u64 s38.2),(7,u64 ((r34+s30.2.1)%18446744073709551616))]) (λs38=>[(0,.sl 189 1 (List.map u32 s30.1))]) ?_ ?_
     . intro j36 hj37
       refine z [2,30,30,68,1] ?_;refine c ?_ ?_
       . refine z [2,30,61,31,1,6,31,1] ?_;exact sj (hj37 _) (eR [(0,0)])
       refine z [9,4] ?_;exact sj (hj37 _) (eR [(0,0)])
     intro s38
     refine z [6,30,30,30,30,62] ?_;refine sbn (F:=u64) 34 rfl λz39=>?_;refine z [60] ?_;refine b λ_ h42=>?_;refine b λy40 h41=>?_;refine s1 (ixW (f:=u32) (Qbs h42) rfl Tryz.underlying32 K6.h h41 rfl rfl rfl) ?_;refine z [53] ?_;refine sbm (C:=λx=>.sl 189 1 (List.map u32 x)) 0 rfl λz43=>?_;refine z [3,11,4,6,30,40,31,3] ?_;exact sgo (eR [(0,0)])
   refine z [14,15] ?_;exact su (sj (hj29 _) (eR [(0,0)]))
 intro t28
 refine z [13] ?_;exact rt [(0,0)]
theorem V3{n:Nat}{x0}{x1}:∀ r,Kj n x0 x1=some r->FnOk Tryz.prog 137 [sli 1 (List.map u32 x0),sli 1 (List.map u32 x1)] [] (sli 1 (List.map u32 r)) []:=by
 unfold Kj
 refine fs Tryz.func137 λw S0 γ hγ=>?_;refine z [2] ?_;refine s1 (asg rfl (kLm (k:=1) u32)) ?_;refine z [1,2,30,39,30,39,40] ?_;refine b λy1 h2=>?_;refine so (mks (y:=100) (f:=u32) h2 Tryz.underlying32 K6.h Qc4 rfl rfl rfl rfl rfl rfl) ?_;refine z [31,1,5,2,31,1,7] ?_;refine sloopE 0 (λt=>t) (λs77=>[(0,sli 1 (List.map u32 x0)),(1,sli 1 (List.map u32 x1)),(4,sli 1 (List.map u32 ([]:List Nat))),(5,.own 100),(6,i64 s77.2)]) (λs77=>[(100,.sl 189 1 (List.map u32 s77.1))]) (λt75=>[(4,sli 1 (List.map u32 ([]:List Nat))),(5,.own 100)]) (λt75=>[(100,.sl 189 1 (List.map u32 t75))]) (eR [(100,100)]) ?_ ?_
 . intro hj76 s77
   refine z [5,2,30,30,39,46,1] ?_;refine c ?_ ?_
   . refine z [9,4,5,7,2,31,1,5,2,31,1,7] ?_;refine sloopE 2 (λt=>t) (λs92=>[(0,sli 1 (List.map u32 x0)),(1,sli 1 (List.map u32 x1)),(4,sli 1 (List.map u32 ([]:List Nat))),(5,.own 100),(6,i64 s77.2),(7,u64 s92.2.1),(8,i64 s92.2.2)]) (λs92=>[(100,.sl 189 1 (List.map u32 s92.1))]) (λt90=>[(0,sli 1 (List.map u32 x0)),(1,sli 1 (List.map u32 x1)),(4,sli 1 (List.map u32 ([]:List Nat))),(5,.own 100),(6,i64 s77.2),(7,u64 t90.2)]) (λt90=>[(100,.sl 189 1 (List.map u32 t90.1))]) (eR [(100,100)]) ?_ ?_
     . intro hj91 s92
       refine z [5,2,30,30,39,46,1] ?_;refine c ?_ ?_
       . refine z [9,4,5,7,5] ?_;refine b λy93 h94=>?_;refine b λy95 h96=>?_;refine b λy97 h98=>?_;refine sd ?_;refine zd [[],[],[],[],[],[],[],[],[],[],[],[],[],[],[],[],[100],[100],[],[],[],[]] ?_;refine de fol ?_;refine sbn (F:=u64) 7 rfl λz99=>?_;refine sbn (F:=u64) 47 rfl λz100=>?_;refine z [4,2,30,30,30,40,30,81,60] ?_;refine b λy101 h102=>?_;refine z [50,53] ?_;refine sbm (C:=λx=>.sl 189 1 (List.map u32 x)) 100 rfl λz103=>?_;refine z [1,6,30,80,31,3,11,4,6,30,40,31,3] ?_;exact sgo (eR [(100,100)])
       refine z [14,15] ?_;exact su (sj (hj91 _) (eR [(100,100)]))
     intro t90
     refine z [13,4,6,30,30,30,39,40,30,60] ?_;refine b λy104 h105=>?_;refine z [50,53] ?_;refine sbm (C:=λx=>.sl 189 1 (List.map u32 x)) 100 rfl λz106=>?_;refine z [3,11,4,6,30,40,31,3] ?_;exact sgo (eR [(100,100)])
   refine z [14,15] ?_;exact su (sj (hj76 _) (eR [(100,100)]))
 intro t75
 refine z [13,4,2,30] ?_;refine b λr107 h108=>?_;refine so (callL (em:=[(101,.sl 189 1 (List.map u32 r107))]) (res':=.own 101) [100] [] [(101,50)] [(101,50)] rfl (Kn _ h108) ⟨Qbt (f:=u32) (λ_=>Qdv) _,trivial⟩ (Qes) ⟨.inr ⟨100,rfl,.inl ⟨rfl,.inl ⟨_,_,_,rfl,J7 (f:=u32) (λ_=>Vn) t75,rfl⟩⟩⟩,trivial⟩ (MiF.get (mi:=[]) trivial) trivial rfl ⟨rfl,trivial⟩ ⟨.inl rfl,trivial⟩ rfl ⟨.inl ⟨_,_,rfl,rfl,rc_sl (J7 (f:=u32) (λ_=>Vn) r107)⟩,trivial⟩ trivial ⟨⟨_,rfl⟩,trivial⟩ (W1 rfl) rfl) ?_;refine z [31,1,8] ?_;refine fz 101 [4,67] [] ?_;exact rt []
theorem Qnf{n:Nat}{x0}{x1}:∀ r,Y7 n x0 x1=some r->FnOk Tryz.prog 178 [sli 1 (List.map u32 x0),i64 x1] [] (sli 1 (List.map u32 r)) []:=by
 unfold Y7
 refine fs Tryz.func178 λw S0 γ hγ=>?_;refine z [2] ?_;refine s1 (asg rfl (kLm (k:=1) u32)) ?_;refine z [1,2,30,78] ?_;refine b λy1 h2=>?_;refine so (mks (y:=100) (f:=u32) h2 Tryz.underlying32 K6.h Qc4 rfl rfl rfl rfl rfl rfl) ?_;refine z [30] ?_;refine b λy3 h4=>?_;refine o (app' 101) ?_;refine z [31,1,2,30,30,79] ?_;refine b λ_ h5=>?_;refine s1 (shlU uk32 (ge0 h5) rfl (k32 (x:=1) rfl) rfl) ?_
 refine so (bsl (y:=102) (ls:=List.map u32 ([((1*2 ^ (min (Int.toNat (Int.tmod x1 (32:Int))) 32))%4294967296)]:List Nat)) Tryz.underlying32 K6.h rfl rfl rfl rfl rfl ⟨rfl,rfl,(by exact rfl),(by exact rfl),trivial⟩ rfl rfl) ?_
 refine sbm (C:=λx=>.sl 189 1 (List.map u32 x)) 102 rfl λz6=>?_;refine fz 101 [5,10,11] [] ?_;refine fz 102 [15] [] ?_;refine cb (ca V3) λr7=>?_;refine z [31,1,8] ?_;exact rt []
theorem Qp7{n:Nat}{x0}{x1}:∀ r,Qam n x0 x1=some r->FnOk Tryz.prog 111 [sli 1 (List.map u32 x0),sli 1 (List.map u32 x1)] [] (sli 1 (List.map u32 r)) []:=by
 unfold Qam
 refine fs Tryz.func111 λw S0 γ hγ=>?_;refine z [2] ?_;refine s1 (asg rfl (kLm (k:=1) u32)) ?_;refine z [1,2,30] ?_;refine b λr1 h2=>?_;refine o (cG (Kn _ h2) [] [(100,50)] []) ?_;refine z [31,1,2,30] ?_;refine b λr3 h4=>?_;refine o (cG (Kn _ h4) [] [(101,50)] []) ?_;refine z [31,1,5,2,30,55,41,1] ?_;refine c ?_ ?_
 . refine z [2,30,31,1,8,10] ?_;refine fz 101 [4,6,14,18] [] ?_;exact rt []
 refine z [9,4,5,2,30,55,41,1] ?_;refine c ?_ ?_
 . refine z [2,30,31,1,8,10] ?_;refine fz 100 [4,5,12,15,22] [] ?_;exact rt []
 refine z [9,4,2,30] ?_;refine owW 24 (n:=r1.length) rfl rfl (List.length_map _).symm ?_;refine b λr5 h6=>?_;refine o (cG (Qe6 _ h6) [100] [] []) ?_;refine z [30,35,35,31,31,1,2,30] ?_;refine owW 29 (n:=r3.length) rfl rfl (List.length_map _).symm ?_;refine b λr7 h8=>?_;refine o (cG (Qe6 _ h8) [101] [] []) ?_;refine z [30,35,35,31,31,1,5,7] ?_;refine sloopE 0 (λt=>t) (λs43=>[(4,sli 1 (List.map u32 ([]:List Nat))),(5,.win 100 s43.2.1 s43.2.2.1),(6,.win 101 s43.2.2.2.2.1 s43.2.2.2.2.2),(7,i64 r5.2.2.1),(8,i64 r7.2.2.1)]) (λs43=>[(100,.sl 189 1 (List.map u32 s43.1)),(101,.sl 189 1 (List.map u32 s43.2.2.2.1))]) (λt41=>[(4,sli 1 (List.map u32 ([]:List Nat))),(5,.win 100 t41.2.1 t41.2.2),(7,i64 r5.2.2.1),(8,i64 r7.2.2.1)]) (λt41=>[(100,.sl 189 1 (List.map u32 t41.1))]) (eR [(100,100),(101,101)]) ?_ ?_
 . intro hj42 s43
   refine z [7,2,30,30] ?_;refine b λy44 h45=>?_;refine b λy46 h47=>?_;refine b λr48 h49=>?_
   refine s1 (callL (em:=[]) [100,101] [] [] [] rfl (Qe7 _ h49) trivial (Q0d) ⟨.inr ⟨100,rfl,.inr ⟨_,_,_,_,rfl,rfl,J7 (f:=u32) (λ_=>Vn) s43.1,Qq0 h45,Qq1 h45⟩⟩,.inr ⟨101,rfl,.inr ⟨_,_,_,_,rfl,rfl,J7 (f:=u32) (λ_=>Vn) s43.2.2.2.1,Qq0 h47,Qq1 h47⟩⟩,trivial⟩ (λ_ _ h=>by cases h) trivial rfl trivial trivial rfl trivial trivial trivial (rn_id (Qdt)) rfl) ?_
   refine z [31,1,5,2,30,41,1] ?_;refine c ?_ ?_
   . refine z [14,15,21] ?_;exact su (sj (hj42 _) (eR [(100,100)]))
   refine z [9,4] ?_;refine sjq (λs52=>[(4,sli 1 (List.map u32 ([]:List Nat))),(5,.win 101 s52.2.1 s52.2.2.1),(6,.win 100 s52.2.2.2.2.1 s52.2.2.2.2.2),(7,i64 r5.2.2.1),(8,i64 r7.2.2.1)]) (λs52=>[(101,.sl 189 1 (List.map u32 s52.1)),(100,.sl 189 1 (List.map u32 s52.2.2.2.1))]) ?_ ?_
   . intro j50 hj51
     refine z [2,30,46,1] ?_;refine c ?_ ?_
     . refine z [2,30,31,1,2,30,31,1,6,30,31,1] ?_;exact sj (hj51 _) (eR [(101,101),(100,100)])
     refine z [9,4] ?_;exact sj (hj51 _) (eR [(101,100),(100,101)])
   intro s52
   refine z [2,30,30] ?_;refine b λy53 h54=>?_;refine b λr55 h56=>?_;refine so (callL (em:=[(101,.sl 189 1 (List.map u32 r55))]) (res':=.tup []) [100] [(0,101)] [] [(101,0)] rfl (Qh7 _ h56) ⟨Qbt (f:=u32) (λ_=>Qdv) _,trivial⟩ (Q89 (Q2n)) ⟨.inl ⟨_,rfl,Qhu rfl⟩,.inr ⟨100,rfl,.inr ⟨_,_,_,_,rfl,rfl,J7 (f:=u32) (λ_=>Vn) s52.2.2.2.1,Qq0 h54,Qq1 h54⟩⟩,trivial⟩ (MiF.get (mi:=[(0,_)]) ⟨⟨_,_,rfl,rfl,rc_sl (J7 (f:=u32) (λ_=>Vn) s52.1)⟩,trivial⟩) ⟨⟨_,rfl⟩,trivial⟩ rfl trivial ⟨.inr rfl,trivial⟩ rfl ⟨.inl ⟨_,_,rfl,rfl,rc_sl (J7 (f:=u32) (λ_=>Vn) r55)⟩,trivial⟩ ⟨⟨_,rfl⟩,trivial⟩ trivial (Qfr (Yu)) rfl) ?_;refine z [1,6,30] ?_;refine b λr57 h58=>?_;refine o (cG (Qe6 _ h58) [101] [] []) ?_;refine z [30,35,35,31,3,11] ?_;exact sgo (eR [(100,101),(101,100)])
 intro t41
 refine z [13,4,2,30,30,30,89] ?_;refine b λy59 h60=>?_;refine frzW 51 (f:=u32) h60 rfl rfl (J7 (f:=u32) (λ_=>Vn) t41.1) ?_;refine cb (ca Qnf) λr61=>?_;refine z [31,1,8] ?_;exact rt []
theorem Qp8{n:Nat}{x0}{x1}:∀ r,Qan n x0 x1=some r->FnOk Tryz.prog 269 [sli 1 (List.map u32 x0),i64 x1] [] (bl r) []:=by
 unfold Qan
 refine fs Tryz.func269 λw S0 γ hγ=>?_;refine z [2,31,1,5] ?_;refine sjq (λs3=>[(0,sli 1 (List.map u32 x0)),(1,i64 x1),(4,bl false),(15,bl s3)]) (λs3=>[]) ?_ ?_
 . intro j1 hj2
   refine z [6,30,46,30] ?_;refine sifd 9 rfl ?_ ?_
   . refine z [23,23,23,23,23,38,1] ?_;exact sj (hj2 _) eI
   refine z [22,22,22,22,22,37,1] ?_;exact sj (hj2 _) eI
 intro s3
 refine c ?_ ?_
 . refine z [2,31,1,8,10] ?_;exact rt []
 refine z [9,4,2,30,30,78] ?_;refine b λy4 h5=>?_;refine z [43,42,31,1,5,2,31,1,7] ?_;refine sloopE 0 (λt=>t) (λs10=>[(1,i64 x1),(4,bl false),(5,u32 s10.1),(6,i64 s10.2)]) (λs10=>[]) (λt8=>[(4,bl false),(5,u32 t8)]) (λt8=>[]) eI ?_ ?_
 . intro hj9 s10
   refine z [5,2,30,30,79,46,1] ?_;refine c ?_ ?_
   . refine z [9,4,5,7,6,30,80,31,3,11,4,6,30,40,31,3] ?_;exact sgo eI
   refine z [14,15] ?_;exact su (sj (hj9 _) eI)
 intro t8
 refine z [13,4,2,30,81,66,31,1,8] ?_;exact rt []
theorem Qe8{n:Nat}{x0}:∀ r,Xq n x0=some r->FnOk Tryz.prog 227 [sli 1 (List.map u32 x0)] [] (i64 r) []:=by
 unfold Xq
 refine fs Tryz.func227 λw S0 γ hγ=>?_;refine z [2,31,1,2,30,39,76,31,1,5,7] ?_;refine sloopE 0 (λt=>t) (λs19=>[(0,sli 1 (List.map u32 x0)),(2,i64 (0:Int)),(3,i64 s19)]) (λs19=>[]) (λt17=>[(2,i64 (0:Int)),(3,i64 t17)]) (λt17=>[]) eI ?_ ?_
 . intro hj18 s19
   refine z [5] ?_;refine sjq (λs24=>[(0,sli 1 (List.map u32 x0)),(2,i64 (0:Int)),(3,i64 s19),(15,bl s24)]) (λs24=>[]) ?_ ?_
   . intro j22 hj23
     refine z [6,30,47,30] ?_;refine sifd 9 rfl ?_ ?_
     . refine z [22,22,22] ?_;refine b λr25 h26=>?_;refine og' (c0 (Qp8 _ h26)) ?_;refine z [22,38,1] ?_;exact sj (hj23 _) eI
     refine z [23,23,23,23,23,37,1] ?_;exact sj (hj23 _) eI
   intro s24
   refine c ?_ ?_
   . refine z [9,4,7,6,30,49,31,3,11] ?_;exact sgo eI
   refine z [14,15] ?_;exact su (sj (hj18 _) eI)
 intro t17
 refine z [13,4,2,30,31,1,8] ?_;exact rt []
theorem Qg4{n:Nat}{x0}{x1}:∀ r,Wn n x0 x1=some r->FnOk Tryz.prog 228 [.own 0,bl x1] [(0,.sl 189 1 (List.map u32 x0))] (.tup []) [(0,.sl 189 1 (List.map u32 r))]:=by
 unfold Wn
 refine fs Tryz.func228 λw S0 γ hγ=>?_;refine z [2,31,1] ?_;refine sjq (λs3=>[(0,.own 0),(4,u32 s3)]) (λs3=>[(0,.sl 189 1 (List.map u32 x0))]) ?_ ?_
 . intro j1 hj2
   refine z [2,30,1] ?_;refine c ?_ ?_
   . refine z [6,31,1] ?_;exact sj (hj2 _) (eR [(0,0)])
   refine z [9,4] ?_;exact sj (hj2 _) (eR [(0,0)])
 intro s3
 refine z [2,31,1,7] ?_;refine sloopE 0 (λt=>t) (λs22=>[(0,.own 0),(4,u32 s22.2.1),(5,i64 s22.2.2)]) (λs22=>[(0,.sl 189 1 (List.map u32 s22.1))]) (λt20=>[]) (λt20=>[(0,.sl 189 1 (List.map u32 t20))]) (eR [(0,0)]) ?_ ?_
 . intro hj21 s22
   refine z [5,2,30,30,55,46,1] ?_;refine c ?_ ?_
   . refine z [9,4,5,7,2,30,30] ?_;refine b λy23 h24=>?_;refine z [50,51,80,31,1,2,30,30,30,30] ?_;refine b λy25 h26=>?_;refine z [50,51,63,30,61] ?_;refine b λy27 h28=>?_;refine z [50,53] ?_;refine sbm (C:=λx=>.sl 189 1 (List.map u32 x)) 0 rfl λz29=>?_;refine z [1,6,30,31,3,11,4,6,30,40,31,3] ?_;exact sgo (eR [(0,0)])
   refine z [14,15] ?_;exact su (sj (hj21 _) (eR [(0,0)]))
 intro t20
 refine z [13] ?_;exact rt [(0,0)]
theorem Qi1{n:Nat}{x0}{x1}:∀ r,Yw n x0 x1=some r->FnOk Tryz.prog 179 [sli 1 (List.map u32 x0),sli 1 (List.map u32 x1)] [] (.tup [sli 1 (List.map u32 r.1),sli 1 (List.map u32 r.2)]) []:=by
 unfold Yw
 refine fs Tryz.func179 λw S0 γ hγ=>?_;refine z [2] ?_;refine s1 (asg rfl (kLm (k:=1) u32)) ?_;refine s1 (asg rfl (kLm (k:=1) u32)) ?_;refine z [1,2,30,39] ?_;refine b λy1 h2=>?_;refine so (mks (y:=100) (f:=u32) h2 Tryz.underlying32 K6.h Qc4 rfl rfl rfl rfl rfl rfl) ?_;refine z [31,1,2,30,39,40] ?_;refine b λy3 h4=>?_;refine so (mks (y:=101) (f:=u32) h4 Tryz.underlying32 K6.h Qc4 rfl rfl rfl rfl rfl rfl) ?_;refine z [31,1,5,2,30] ?_;refine cb (ca Qe8) λr5=>?_;refine z [49,31,1,7] ?_;refine sloopE 0 (λt=>t) (λs97=>[(0,sli 1 (List.map u32 x0)),(1,sli 1 (List.map u32 x1)),(4,sli 1 (List.map u32 ([]:List Nat))),(5,sli 1 (List.map u32 ([]:List Nat))),(6,.own 100),(7,.own 101),(8,i64 s97.2.2)]) (λs97=>[(100,.sl 189 1 (List.map u32 s97.1)),(101,.sl 189 1 (List.map u32 s97.2.1))]) (λt95=>[(4,sli 1 (List.map u32 ([]:List Nat))),(5,sli 1 (List.map u32 ([]:List Nat))),(6,.own 100),(7,.own 101)]) (λt95=>[(100,.sl 189 1 (List.map u32 t95.1)),(101,.sl 189 1 (List.map u32 t95.2))]) (eR [(100,100),(101,101)]) ?_ ?_
 . intro hj96 s97
   refine z [5,2,30,57,1] ?_;refine c ?_ ?_
   . refine z [9,4] ?_;refine sjq (λs120=>[(0,sli 1 (List.map u32 x0)),(1,sli 1 (List.map u32 x1)),(4,sli 1 (List.map u32 ([]:List Nat))),(5,sli 1 (List.map u32 ([]:List Nat))),(6,.own 100),(7,.own 101),(8,i64 s97.2.2)]) (λs120=>[(100,.sl 189 1 (List.map u32 s120.1)),(101,.sl 189 1 (List.map u32 s120.2))]) ?_ ?_
     . intro j118 hj119
       refine z [7,5] ?_;refine b λy121 h122=>?_;refine b λ_ h123=>?_;refine b λ_ h124=>?_;refine b λr125 h126=>?_;refine sd ?_;refine zd [[],[],[],[],[],[],[],[]] ?_;refine dx [30] [] (λst mm ⟨a30,_⟩ _=>og (shlU uk32 (ge0 h123) rfl (k32 (x:=1) rfl) (a30.trans rfl))) ?_;refine zd [[],[],[]] ?_;refine dd [101] (λ_ _ _ _=>cG (Qg4 _ h126) [101] [] []) ?_;refine de fol ?_;refine sbn (F:=u32) 31 rfl λz127=>?_;refine sbn (F:=u32) 32 rfl λz128=>?_;refine sbn (F:=u32) 33 rfl λz129=>?_;refine sbn (F:=bl) 34 rfl λz130=>?_;refine z [4,2,30] ?_;refine b λr131 h132=>?_;refine o (cG (Qg4 _ h132) [100] [] []) ?_;refine z [1,2,30,30] ?_;refine b λr133 h134=>?_
       refine s1 (callL (em:=[]) [101] [] [] [] rfl (Qe7 _ h134) trivial (Q0d) ⟨.inr ⟨101,rfl,.inl ⟨rfl,.inl ⟨_,_,_,rfl,J7 (f:=u32) (λ_=>Vn) r125,rfl⟩⟩⟩,.inl ⟨_,rfl,rn_id Qlc⟩,trivial⟩ (λ_ _ h=>by cases h) trivial rfl trivial trivial rfl trivial trivial trivial (rn_id (Qdt)) rfl) ?_
       refine z [57,1] ?_;refine c ?_ ?_
       . refine z [2,30,30] ?_;refine owW 42 (n:=r125.length) rfl rfl (List.length_map _).symm ?_;refine b λr135 h136=>?_;refine o (cG (Qh7 _ h136) [101] [] []) ?_;refine z [1,6,30] ?_;refine b λy137 h138=>?_;refine z [50,51,61] ?_;refine b λy139 h140=>?_;refine z [50,53,3,11,4] ?_;exact sj (hj119 _) (eR [(100,100),(101,101)])
       refine z [9,11,4] ?_;exact sj (hj119 _) (eR [(100,100),(101,101)])
     intro s120
     refine z [6,30,49,31,3] ?_;exact sgo (eR [(100,100),(101,101)])
   refine z [14,15] ?_;exact su (sj (hj96 _) (eR [(100,100),(101,101)]))
 intro t95
 refine z [13,4,2,30] ?_;refine b λr141 h142=>?_;refine so (callL (em:=[(102,.sl 189 1 (List.map u32 r141))]) (res':=.own 102) [100] [] [(102,50)] [(102,50)] rfl (Kn _ h142) ⟨Qbt (f:=u32) (λ_=>Qdv) _,trivial⟩ (Qes) ⟨.inr ⟨100,rfl,.inl ⟨rfl,.inl ⟨_,_,_,rfl,J7 (f:=u32) (λ_=>Vn) t95.1,rfl⟩⟩⟩,trivial⟩ (MiF.get (mi:=[]) trivial) trivial rfl ⟨rfl,trivial⟩ ⟨.inl rfl,trivial⟩ rfl ⟨.inl ⟨_,_,rfl,rfl,rc_sl (J7 (f:=u32) (λ_=>Vn) r141)⟩,trivial⟩ trivial ⟨⟨_,rfl⟩,trivial⟩ (W1 rfl) rfl) ?_;refine z [30] ?_;refine b λr143 h144=>?_;refine so (callL (em:=[(103,.sl 189 1 (List.map u32 r143))]) (res':=.own 103) [101] [] [(103,50)] [(103,50)] rfl (Kn _ h144) ⟨Qbt (f:=u32) (λ_=>Qdv) _,trivial⟩ (Qes) ⟨.inr ⟨101,rfl,.inl ⟨rfl,.inl ⟨_,_,_,rfl,J7 (f:=u32) (λ_=>Vn) t95.2,rfl⟩⟩⟩,trivial⟩ (MiF.get (mi:=[]) trivial) trivial rfl ⟨rfl,trivial⟩ ⟨.inl rfl,trivial⟩ rfl ⟨.inl ⟨_,_,rfl,rfl,rc_sl (J7 (f:=u32) (λ_=>Vn) r143)⟩,trivial⟩ trivial ⟨⟨_,rfl⟩,trivial⟩ (W1 rfl) rfl) ?_;refine z [31,31,1,8] ?_;refine fz 102 [4,51] [] ?_;refine fz 103 [5,53] [] ?_;exact rt []
theorem Qh8{n:Nat}{x0}{x1}:∀ r,Yh n x0 x1=some r->FnOk Tryz.prog 112 [sli 1 (List.map u32 x0),sli 1 (List.map u32 x1)] [] (sli 1 (List.map u32 r)) []:=by
 unfold Yh
 refine fs Tryz.func112 λw S0 γ hγ=>?_;refine z [2] ?_;refine s1 (asg rfl (kLm (k:=1) u32)) ?_;refine z [1,5,2,30] ?_;refine cb (ca Qi0) λr1=>?_;refine z [1] ?_;refine c ?_ ?_
 . refine z [2,30] ?_;refine b λr3 h4=>?_;refine o (cG (Kn _ h4) [] [(100,50)] []) ?_;refine z [31,1,8,10] ?_;refine fz 100 [4,10] [] ?_;exact rt []
 refine z [9,4,2,30,30] ?_;refine cb (ca Qi1) λr5=>?_;refine z [30,35,35,31,31,1,2,30,31,1,8] ?_;exact rt []
theorem Jp{n:Nat}{x0}:∀ r,Jd n x0=some r->FnOk Tryz.prog 57 [Qc x0] [] (Qc r) []:=by
 unfold Jd
 refine fs Tryz.func57 λw S0 γ hγ=>?_;refine z [2] ?_;refine o (bx' 100) ?_;refine o (al' 101) ?_;refine z [1,2,33,36] ?_;refine b λr1 h2=>?_;refine o (cG (Kn _ h2) [] [(102,50)] []) ?_;refine z [31,1,2,33,36] ?_;refine b λr3 h4=>?_;refine o (cG (Kn _ h4) [] [(103,50)] []) ?_;refine z [31,1,5] ?_;refine sjq (λs7=>[(1,.own 100),(2,.own 101),(3,.own 102),(4,.own 103),(19,bl s7)]) (λs7=>[(100,.bx 34 (Qc x0)),(101,.bx 34 (Qc (⟨false,[],[]⟩:Qa))),(102,.sl 189 1 (List.map u32 r1)),(103,.sl 189 1 (List.map u32 r3))]) ?_ ?_
 . intro j5 hj6
   refine z [6,30,55,41,30] ?_;refine sifd 15 rfl ?_ ?_
   . refine z [23,23,23,38,1] ?_;exact sj (hj6 _) (eR [(100,100),(101,101),(102,102),(103,103)])
   refine z [22,22,22,37,1] ?_;exact sj (hj6 _) (eR [(100,100),(101,101),(102,102),(103,103)])
 intro s7
 refine c ?_ ?_
 . refine z [2] ?_;refine so (bsl (y:=104) (ls:=List.map u32 ([]:List Nat)) Tryz.underlying32 K6.h rfl rfl rfl rfl rfl trivial rfl rfl) ?_
   refine so (bsl (y:=105) (ls:=List.map u32 ([1]:List Nat)) Tryz.underlying32 K6.h rfl rfl rfl rfl rfl ⟨rfl,(k32 (x:=1) rfl),(by exact rfl),(by exact rfl),trivial⟩ rfl rfl) ?_
   refine fz 104 [20] [] ?_;refine fz 105 [21] [] ?_;refine s1 (bld (l:=[bl false,sli 1 (List.map u32 ([]:List Nat)),sli 1 (List.map u32 ([1]:List Nat))]) pl_34.h ti_34.h Qu ⟨_,_,_,rfl,rfl,rfl,rfl,(szk (k:=1) rfl rfl),⟨_,_,_,rfl,rfl,rfl,rfl,(szk (k:=1) rfl rfl),rfl⟩⟩ rfl) ?_;refine z [34,1,8,10] ?_;exact rt []
 refine z [9,4] ?_;refine sjq (λs34=>[(1,.own 100),(2,.own 101),(3,sli 1 (List.map u32 s34.1)),(4,sli 1 (List.map u32 s34.2))]) (λs34=>[(100,.bx 34 (Qc x0)),(101,.bx 34 (Qc (⟨false,[],[]⟩:Qa)))]) ?_ ?_
 . intro j32 hj33
   refine z [2,30] ?_;refine b λr35 h36=>?_
   refine s1 (callL (em:=[]) [102] [] [] [] rfl (Qi0 _ h36) trivial (pl_bl) ⟨.inr ⟨102,rfl,.inl ⟨rfl,.inl ⟨_,_,_,rfl,J7 (f:=u32) (λ_=>Vn) r1,rfl⟩⟩⟩,trivial⟩ (λ_ _ h=>by cases h) trivial rfl trivial trivial rfl trivial trivial trivial (rn_id (if_bl)) rfl) ?_
   refine z [44,1] ?_;refine c ?_ ?_
   . refine z [2,30,30] ?_;refine fz 103 [4,26] [] ?_;refine fz 102 [3,23,27] [] ?_;refine cb (ca Qp7) λr37=>?_;refine z [31,1,2,30,30] ?_;refine cb (ca Qh8) λr39=>?_;refine z [31,1,6,30,30] ?_;refine cb (ca Qh8) λr41=>?_;refine z [31,1] ?_;exact sj (hj33 _) (eR [(100,100),(101,101)])
   refine z [9] ?_;refine fz 102 [3,23] [] ?_;refine fz 103 [4] [] ?_;refine z [4] ?_;exact sj (hj33 _) (eR [(100,100),(101,101)])
 intro s34
 refine z [2,33,36,30,30] ?_;refine s1 (bld (l:=[bl x0.Neg,sli 1 (List.map u32 s34.2),sli 1 (List.map u32 s34.1)]) pl_34.h ti_34.h Qu ⟨_,_,_,rfl,rfl,rfl,rfl,(szk (k:=1) rfl rfl),⟨_,_,_,rfl,rfl,rfl,rfl,(szk (k:=1) rfl rfl),⟨_,_,_,rfl,rfl,rfl,rfl,(szk (k:=1) rfl rfl),rfl⟩⟩⟩ rfl) ?_;refine z [34,1,8] ?_;exact rt []
theorem Qhq{n:Nat}{x0}:∀ r,W4 n x0=some r->FnOk Tryz.prog 58 [sli 3 (List.map Qc x0)] [] (sli 3 (List.map Qc r)) []:=by
 unfold W4
 refine fs Tryz.func58 λw S0 γ hγ=>?_;refine z [2] ?_;refine s1 (asg rfl (kLm (k:=3) Qc)) ?_;refine z [1,2] ?_;refine so (asgN (y:=100) (E:=34) (k:=3) rfl rfl) ?_;refine z [1,5,2,31,1,7] ?_;refine sloopE 0 (λt=>t) (λs17=>[(0,sli 3 (List.map Qc x0)),(2,sli 3 (List.map Qc ([]:List Qa))),(3,.own 100),(4,i64 s17.2)]) (λs17=>[(100,.sl 34 3 (List.map Qc s17.1))]) (λt15=>[(2,sli 3 (List.map Qc ([]:List Qa))),(3,.own 100)]) (λt15=>[(100,.sl 34 3 (List.map Qc t15))]) (eR [(100,100)]) ?_ ?_
 . intro hj16 s17
   refine z [5,2,30,30,39,46,1] ?_;refine c ?_ ?_
   . refine z [9,4,5,7,6,30,30,30] ?_;refine b λy18 h19=>?_;refine z [43,42] ?_;refine cb (ca Jp) λr20=>?_
     refine so (bsl (y:=101) (ls:=List.map Qc ([r20]:List Qa)) Tryz.underlying26 ti_34.h rfl rfl rfl rfl rfl ⟨rfl,rfl,(by exact rfl),(by exact rfl),trivial⟩ rfl rfl) ?_
     refine b λy22 h23=>?_;refine o (app' 102) ?_;refine z [31,3,11,4,6,30,40,31,3] ?_;exact sgo (eR [(100,102)])
   refine z [14,15] ?_;exact su (sj (hj16 _) (eR [(100,100)]))
 intro t15
 refine z [13,4,2,30,31,1,8] ?_;refine fz 100 [2,3,19] [] ?_;exact rt []
theorem Qpj{n:Nat}{x0}:∀ r,Z9 n x0=some r->FnOk Tryz.prog 13 [Jo x0] [] (Jo r) []:=by
 unfold Z9
 refine fs Tryz.func13 λw S0 γ hγ=>?_;refine z [2] ?_;refine o (bx' 100) ?_;refine o (al' 101) ?_;refine z [1,2,33,36] ?_;refine cb (ca Jp) λr1=>?_;refine z [33] ?_;refine o (stP (Jo (⟨x0.Problem,x0.Rules,r1,x0.End,x0.First,x0.Y⟩:Q0)) [2]) ?_;refine z [1,2,33,36] ?_;refine cb (ca Jp) λr3=>?_;refine z [33] ?_;refine o (stP (Jo (⟨x0.Problem,x0.Rules,r1,r3,x0.First,x0.Y⟩:Q0)) [3]) ?_;refine z [1,2,33,36] ?_;refine cb (ca Jp) λr5=>?_;refine z [33] ?_;refine o (stP (Jo (⟨x0.Problem,x0.Rules,r1,r3,r5,x0.Y⟩:Q0)) [4]) ?_;refine z [1,2,33,36] ?_;refine cb (ca Qhq) λr7=>?_;refine z [33] ?_;refine o (stP (Jo (⟨x0.Problem,x0.Rules,r1,r3,r5,r7⟩:Q0)) [5]) ?_;refine z [1,2,32,34,1,8] ?_;exact rt []
theorem Kl{x0}{x1}{x2}:∀ r,Jk x0 x1 x2=some r->FnOk Tryz.prog 180 [i64 x0,i64 x1,i64 x2] [] (bl r) []:=by
 unfold Jk
 refine fs Tryz.func180 λw S0 γ hγ=>?_;refine z [2,31,1] ?_;refine sjq (λs3=>[(6,bl s3)]) (λs3=>[]) ?_ ?_
 . intro j1 hj2
   refine z [6,30,30,57,30] ?_;refine sifd 10 rfl ?_ ?_
   . refine z [22,22,22,38,31,1] ?_;exact sj (hj2 _) eI
   refine z [23,23,23,37,31,1] ?_;exact sj (hj2 _) eI
 intro s3
 refine z [8] ?_;exact rt []
theorem Qh9{n:Nat}{x0}{x1}:∀ r,Yf n x0 x1=some r->FnOk Tryz.prog 126 [sli 1 (List.map u32 x0),sli 1 (List.map u32 x1)] [] (bl r) []:=by
 unfold Yf
 refine fs Tryz.func126 λw S0 γ hγ=>?_;refine z [2,31,1,5,2,30,39,30,39,56,1] ?_;refine c ?_ ?_
 . refine z [2,31,1,8,10] ?_;exact rt []
 refine z [9,4,5,2,31,1,7] ?_;refine sloopE 0 Lp.go (λs13=>[(0,sli 1 (List.map u32 x0)),(1,sli 1 (List.map u32 x1)),(4,bl false),(5,i64 s13)]) (λs13=>[]) (λt11=>[(4,bl false)]) (λt11=>[]) eI ?_ ?_
 . intro hj12 s13
   refine z [5,2,30,30,39,46,1] ?_;refine c ?_ ?_
   . refine z [9,4,5,7,5] ?_;refine b λy14 h15=>?_;refine b λy16 h17=>?_;refine sd ?_;refine zd [[],[],[],[],[],[],[],[],[]] ?_;refine de fol ?_;refine z [4] ?_;refine c ?_ ?_
     . refine z [2,31,1,8,12,10] ?_;refine sU ?_;refine z [12,10] ?_;exact rt []
     refine z [9,11,4,6,30,40,31,3] ?_;exact sgo eI
   refine z [14,15] ?_;exact su (sj (hj12 _) eI)
 intro t11
 refine slpk ?_;refine z [13,4,2,31,1,8] ?_;exact rt []
theorem K2{n:Nat}{x0}{x1}:∀ r,Jb n x0 x1=some r->FnOk Tryz.prog 69 [Qc x0,Qc x1] [] (bl r) []:=by
 unfold Jb
 refine fs Tryz.func69 λw S0 γ hγ=>?_;refine z [2] ?_;refine o (bx' 100) ?_;refine o (bx' 101) ?_;refine z [31,1] ?_;refine sjq (λs7=>[(4,bl s7)]) (λs7=>[]) ?_ ?_
 . intro j5 hj6
   refine z [6,33,36,33,36,74,30] ?_;refine sifd 10 rfl ?_ ?_
   . refine z [22,22,22,22] ?_;refine b λr8 h9=>?_;refine og' (c0 (Qh9 _ h9)) ?_;refine z [38,30] ?_;refine sifd 17 rfl ?_ ?_
     . refine z [22,22,22,22] ?_;refine b λr10 h11=>?_;refine og' (c0 (Qh9 _ h11)) ?_;refine z [38,31,1] ?_;exact sj (hj6 _) (eR [])
     refine z [23,23,23,23,23,37,31,1] ?_;exact sj (hj6 _) (eR [])
   refine z [23,23,23,23,23,37,30,23,23,23,23,23,37,31,1] ?_;exact sj (hj6 _) (eR [])
 intro s7
 refine z [8] ?_;exact rt []
theorem Qp9{n:Nat}{x0}{x1}{x2}{x3}:∀ r,Yz n x0 x1 x2 x3=some r->FnOk Tryz.prog 181 [J3 x0,i64 x1,i64 x2,i64 x3] [] (bl r) []:=by
 unfold Yz
 refine fs Tryz.func181 λw S0 γ hγ=>?_;refine z [2] ?_;refine o (bx' 100) ?_;refine z [31,1,5,2,33,36,41,1] ?_;refine c ?_ ?_
 . refine sjq (λs9=>[(1,i64 x1),(2,i64 x2),(3,i64 x3),(4,.own 100),(8,bl s9)]) (λs9=>[(100,.bx 232 (J3 x0))]) ?_ ?_
   . intro j7 hj8
     refine sif (λhb10=>?_) (λhb10=>?_)
     . refine sif (λhb11=>?_) (λhb11=>?_)
       . refine b λr12 h13=>?_;refine b λr14 h15=>?_;refine sd ?_;refine zd [[100],[100],[]] ?_;refine dd [] (λ_ _ _ _=>obk hb10 ops) ?_;refine zd [[100],[100],[],[]] ?_;refine dd [] (λ_ _ _ _=>obk hb11 ops) ?_;refine zd [[100],[100]] ?_;refine dG [] (λ_ _ _ _=>c0 (Jp _ h13)) ?_;refine zd [[100],[100]] ?_;refine dG [] (λ_ _ _ _=>c0 (K2 _ h15)) ?_;refine zd [[],[]] ?_;refine de fol ?_;refine z [4] ?_;exact sj (hj8 _) (eR [(100,100)])
       refine sd ?_;refine zd [[100],[100],[]] ?_;refine dd [] (λ_ _ _ _=>obk hb10 ops) ?_;refine zd [[100],[100],[],[]] ?_;refine dd [] (λ_ _ _ _=>obk hb11 ops) ?_;refine zd [[],[],[],[],[],[],[],[]] ?_;refine de fol ?_;refine z [4] ?_;exact sj (hj8 _) (eR [(100,100)])
     refine sd ?_;refine zd [[100],[100],[]] ?_;refine dd [] (λ_ _ _ _=>obk hb10 ops) ?_;refine zd [[],[],[],[],[],[],[],[],[],[],[],[],[]] ?_;refine de fol ?_;refine z [4] ?_;exact sj (hj8 _) (eR [(100,100)])
   intro s9
   refine z [8,10] ?_;exact rt []
 refine z [9,4,5] ?_;refine sjq (λs18=>[(1,i64 x1),(2,i64 x2),(3,i64 x3),(4,.own 100),(8,bl false),(44,bl s18)]) (λs18=>[(100,.bx 232 (J3 x0))]) ?_ ?_
 . intro j16 hj17
   refine z [6,33,45,36,30] ?_;refine sifd 31 rfl ?_ ?_
   . refine z [23,23,23,23,23,38,30,23,23,23,23,23,38,1] ?_;exact sj (hj17 _) (eR [(100,100)])
   refine z [22,22,22,22,22,37,30] ?_;refine sifd 38 rfl ?_ ?_
   . refine z [23,23,23,23,23,38,1] ?_;exact sj (hj17 _) (eR [(100,100)])
   refine z [22,22,22,22,22,37,1] ?_;exact sj (hj17 _) (eR [(100,100)])
 intro s18
 refine c ?_ ?_
 . refine z [2,31,1,8,10] ?_;exact rt []
 refine z [9,4,5,2,33,36,41,1] ?_;refine c ?_ ?_
 . refine sjq (λs21=>[(1,i64 x1),(2,i64 x2),(3,i64 x3),(4,.own 100),(8,bl s21)]) (λs21=>[(100,.bx 232 (J3 x0))]) ?_ ?_
   . intro j19 hj20
     refine z [6,33,36,41,30] ?_;refine sifd 51 rfl ?_ ?_
     . refine z [22,22,22,38,31,1] ?_;exact sj (hj20 _) (eR [(100,100)])
     refine z [23,23,23,37,31,1] ?_;exact sj (hj20 _) (eR [(100,100)])
   intro s21
   refine z [8,10] ?_;exact rt []
 refine z [9,4,5,2,33,36,41,1] ?_;refine c ?_ ?_
 . refine sjq (λs26=>[(1,i64 x1),(3,i64 x3),(4,.own 100),(8,bl s26)]) (λs26=>[(100,.bx 232 (J3 x0))]) ?_ ?_
   . intro j24 hj25
     refine z [6,33,36,30,49] ?_;refine cb (ca Kl) λr27=>?_;refine z [30] ?_;refine sifd 64 rfl ?_ ?_
     . refine z [22,22,22,38,31,1] ?_;exact sj (hj25 _) (eR [(100,100)])
     refine z [23,23,23,37,31,1] ?_;exact sj (hj25 _) (eR [(100,100)])
   intro s26
   refine z [8,10] ?_;exact rt []
 refine z [9,4,5,2,33,36,41,1] ?_;refine c ?_ ?_
 . refine sjq (λs33=>[(1,i64 x1),(4,.own 100),(8,bl s33)]) (λs33=>[(100,.bx 232 (J3 x0))]) ?_ ?_
   . intro j31 hj32
     refine z [6,33,36,30,49] ?_;refine cb (ca Kl) λr34=>?_;refine z [30] ?_;refine sifd 77 rfl ?_ ?_
     . refine z [22,22,22,38,31,1] ?_;exact sj (hj32 _) (eR [(100,100)])
     refine z [23,23,23,37,31,1] ?_;exact sj (hj32 _) (eR [(100,100)])
   intro s33
   refine z [8,10] ?_;exact rt []
 refine z [9,4,5,2,33,36,41,1] ?_;refine c ?_ ?_
 . refine sjq (λs40=>[(1,i64 x1),(4,.own 100),(8,bl s40)]) (λs40=>[(100,.bx 232 (J3 x0))]) ?_ ?_
   . intro j38 hj39
     refine z [6,33,36,30,49] ?_;refine cb (ca Kl) λr41=>?_;refine z [30] ?_;refine sifd 90 rfl ?_ ?_
     . refine z [22,22,22,38,31,1] ?_;exact sj (hj39 _) (eR [(100,100)])
     refine z [23,23,23,37,31,1] ?_;exact sj (hj39 _) (eR [(100,100)])
   intro s40
   refine z [8,10] ?_;exact rt []
 refine z [9,4,5,2,33,36,41,1] ?_;refine c ?_ ?_
 . refine sjq (λs49=>[(1,i64 x1),(4,.own 100),(8,bl s49)]) (λs49=>[(100,.bx 232 (J3 x0))]) ?_ ?_
   . intro j47 hj48
     refine z [6,33,36,30,49] ?_;refine cb (ca Kl) λr50=>?_;refine z [30] ?_;refine sifd 103 rfl ?_ ?_
     . refine z [22,22] ?_;refine b λr52 h53=>?_;refine og' (c0 (Kl _ h53)) ?_;refine z [38,31,1] ?_;exact sj (hj48 _) (eR [(100,100)])
     refine z [23,23,23,37,31,1] ?_;exact sj (hj48 _) (eR [(100,100)])
   intro s49
   refine z [8,10] ?_;exact rt []
 refine z [9,4] ?_;refine sjq (λs62=>[(8,bl s62)]) (λs62=>[]) ?_ ?_
 . intro j60 hj61
   refine z [6,33,36] ?_;refine cb (ca Kl) λr63=>?_;refine z [30] ?_;refine sifd 111 rfl ?_ ?_
   . refine z [22,22,22,22] ?_;refine b λr65 h66=>?_;refine og' (c0 (Kl _ h66)) ?_;refine z [38,30] ?_;refine sifd 118 rfl ?_ ?_
     . refine z [22,22,22,22] ?_;refine b λr67 h68=>?_;refine og' (c0 (Kl _ h68)) ?_;refine z [38,31,1] ?_;exact sj (hj61 _) (eR [])
     refine z [23,23,23,23,23,37,31,1] ?_;exact sj (hj61 _) (eR [])
   refine z [23,23,23,23,23,37,30,23,23,23,23,23,37,31,1] ?_;exact sj (hj61 _) (eR [])
 intro s62
 refine z [8] ?_;exact rt []
theorem Qn3{n:Nat}{x0}:∀ r,Zn n x0=some r->FnOk Tryz.prog 113 [Jh x0] [] (i64 r) []:=by
 unfold Zn
 refine fs Tryz.func113 λw S0 γ hγ=>?_;refine z [2] ?_;refine o (bx' 100) ?_;refine z [31,1,5] ?_;refine sjq (λs7=>[(1,.own 100),(2,i64 (0:Int)),(28,bl s7)]) (λs7=>[(100,.bx 25 (Jh x0))]) ?_ ?_
 . intro j5 hj6
   refine z [6,33,36] ?_;refine cb (ca Kl) λr8=>?_;refine z [44,30] ?_;refine sifd 9 rfl ?_ ?_
   . refine z [23,23,23,23,38,30,23,23,23,23,23,23,38,30,23,23,23,23,38,1] ?_;exact sj (hj6 _) (eR [(100,100)])
   refine z [22,22] ?_;refine b λr10 h11=>?_;refine og' (c0 (Kl _ h11)) ?_;refine z [22,37,30] ?_;refine sifd 15 rfl ?_ ?_
   . refine z [23,23,23,23,23,23,38,30,23,23,23,23,38,1] ?_;exact sj (hj6 _) (eR [(100,100)])
   refine z [22,22,22,22,22,22,37,30] ?_;refine sifd 23 rfl ?_ ?_
   . refine z [23,23,23,23,38,1] ?_;exact sj (hj6 _) (eR [(100,100)])
   refine z [22,22,22,22,37,1] ?_;exact sj (hj6 _) (eR [(100,100)])
 intro s7
 refine c ?_ ?_
 . refine z [2,31,1,8,10] ?_;exact rt []
 refine z [9,4,5,2,31,1,7] ?_;refine sloopE 0 Lp.go (λs24=>[(1,.own 100),(2,i64 (0:Int)),(3,i64 s24)]) (λs24=>[(100,.bx 25 (Jh x0))]) (λt22=>[(1,.own 100),(2,i64 (0:Int))]) (λt22=>[(100,.bx 25 (Jh x0))]) (eR [(100,100)]) ?_ ?_
 . intro hj23 s24
   refine z [5,2,30,33,36,39,46,1] ?_;refine c ?_ ?_
   . refine z [9,4,5,7,5] ?_;refine b λy25 h26=>?_;refine b λr27 h28=>?_;refine sd ?_;refine zd [[100],[100],[],[],[],[],[100],[100],[100],[100]] ?_;refine dd [] (λ_ _ _ _=>c0 (Qp9 _ h28)) ?_;refine zd [[]] ?_;refine de fol ?_;refine z [4] ?_;refine c ?_ ?_
     . refine z [2,30,31,1,8,12,10] ?_;refine sU ?_;refine z [12,10] ?_;exact rt []
     refine z [9,11,4,6,30,40,31,3] ?_;exact sgo (eR [(100,100)])
   refine z [14,15] ?_;exact su (sj (hj23 _) (eR [(100,100)]))
 intro t22
 refine slpk ?_;refine z [13,4,5,2,31,1,7] ?_;refine sloopE 2 Lp.go (λs41=>[(1,.own 100),(2,i64 (0:Int)),(4,i64 s41)]) (λs41=>[(100,.bx 25 (Jh x0))]) (λt39=>[(2,i64 (0:Int))]) (λt39=>[]) (eR [(100,100)]) ?_ ?_
 . intro hj40 s41
   refine z [5,2,30,33,36,39,46,1] ?_;refine c ?_ ?_
   . refine z [9,4,5,7,5] ?_;refine b λy42 h43=>?_;refine b λr44 h45=>?_;refine sd ?_;refine zd [[100],[100],[],[],[],[100],[100],[],[]] ?_;refine dd [] (λ_ _ _ _=>c0 (Kl _ h45)) ?_;refine zd [[]] ?_;refine de fol ?_;refine z [4] ?_;refine c ?_ ?_
     . refine z [2,33,36,39,31,1,8,12,10] ?_;refine sU ?_;refine z [12,10] ?_;exact rt []
     refine z [9,11,4,6,30,40,31,3] ?_;exact sgo (eR [(100,100)])
   refine z [14,15] ?_;exact su (sj (hj40 _) (eR []))
 intro t39
 refine slpk ?_;refine z [13,4,2,31,1,8] ?_;exact rt []
theorem Qbo{x0}:∀ r,V6 x0=some r->FnOk Tryz.prog 304 [u8 x0] [] (bl r) []:=by
 unfold V6
 refine fs Tryz.func304 λw S0 γ hγ=>?_;refine z [2,31,1] ?_;refine sjq (λs3=>[(2,bl s3)]) (λs3=>[]) ?_ ?_
 . intro j1 hj2
   refine z [6,30,71,30] ?_;refine sifd 5 rfl ?_ ?_
   . refine z [22,22,38,31,1] ?_;exact sj (hj2 _) eI
   refine z [23,23,37,31,1] ?_;exact sj (hj2 _) eI
 intro s3
 refine z [8] ?_;exact rt []
theorem Qdc{x0}:∀ r,Wo x0=some r->FnOk Tryz.prog 305 [u8 x0] [] (bl r) []:=by
 unfold Wo
 refine fs Tryz.func305 λw S0 γ hγ=>?_;refine z [2,31,1] ?_;refine sjq (λs3=>[(2,bl s3)]) (λs3=>[]) ?_ ?_
 . intro j1 hj2
   refine z [6,30,71,30] ?_;refine sifd 5 rfl ?_ ?_
   . refine z [22,22,38,30] ?_;refine sifd 9 rfl ?_ ?_
     . refine z [23,23,23,24,24,23,38,30,23,23,38,31,1] ?_;exact sj (hj2 _) eI
     refine z [22,22,22] ?_;refine sifd 12 rfl ?_ ?_
     . refine z [22,22,22,37,30] ?_;refine sifd 17 rfl ?_ ?_
       . refine z [23,23,38,31,1] ?_;exact sj (hj2 _) eI
       refine z [22,22,37,31,1] ?_;exact sj (hj2 _) eI
     refine z [23,23,22,37,30,22,22,37,31,1] ?_;exact sj (hj2 _) eI
   refine z [23,23,37,30,22,22,22] ?_;refine sifd 12 rfl ?_ ?_
   . refine z [22,22,22,37,30] ?_;refine sifd 17 rfl ?_ ?_
     . refine z [23,23,38,31,1] ?_;exact sj (hj2 _) eI
     refine z [22,22,37,31,1] ?_;exact sj (hj2 _) eI
   refine z [23,23,22,37,30,22,22,37,31,1] ?_;exact sj (hj2 _) eI
 intro s3
 refine z [8] ?_;exact rt []
theorem Qpk{x0}{x1}:∀ r,Z4 x0 x1=some r->FnOk Tryz.prog 270 [i64 x0,u8 x1] [] (bl r) []:=by
 unfold Z4
 refine fs Tryz.func270 λw S0 γ hγ=>?_;refine z [2,31,1] ?_;refine sjq (λs13=>[(4,bl s13)]) (λs13=>[]) ?_ ?_
 . intro j11 hj12
   refine z [6,30,41,30] ?_;refine sifd 7 rfl ?_ ?_
   . refine z [22] ?_;refine b λr14 h15=>?_;refine og' (c0 (Qbo _ h15)) ?_;refine z [38,30] ?_;refine sifd 11 rfl ?_ ?_
     . refine z [23,23,23,24,24,24,24,24,24,23,38,31,1] ?_;exact sj (hj12 _) eI
     refine z [22,22,22] ?_;refine sifd 14 rfl ?_ ?_
     . refine z [22] ?_;refine b λr16 h17=>?_;refine og' (c0 (Qbo _ h17)) ?_;refine z [22] ?_;refine sifd 17 rfl ?_ ?_
       . refine z [23,23,22,22,37,31,1] ?_;exact sj (hj12 _) eI
       refine z [22] ?_;refine b λr18 h19=>?_;refine og' (c0 (Qdc _ h19)) ?_;refine z [22,22,37,31,1] ?_;exact sj (hj12 _) eI
     refine z [23,23,23,24,24,23,22,37,31,1] ?_;exact sj (hj12 _) eI
   refine z [23,23,37,30,22,22,22] ?_;refine sifd 14 rfl ?_ ?_
   . refine z [22] ?_;refine b λr20 h21=>?_;refine og' (c0 (Qbo _ h21)) ?_;refine z [22] ?_;refine sifd 17 rfl ?_ ?_
     . refine z [23,23,22,22,37,31,1] ?_;exact sj (hj12 _) eI
     refine z [22] ?_;refine b λr22 h23=>?_;refine og' (c0 (Qdc _ h23)) ?_;refine z [22,22,37,31,1] ?_;exact sj (hj12 _) eI
   refine z [23,23,23,24,24,23,22,37,31,1] ?_;exact sj (hj12 _) eI
 intro s13
 refine z [8] ?_;exact rt []
theorem Qpl{n:Nat}{x0}:∀ r,Z5 n x0=some r->FnOk Tryz.prog 271 [u8 x0] [] (i64 r) []:=by
 unfold Z5
 refine fs Tryz.func271 λw S0 γ hγ=>?_;refine z [2,31,1,5,2,30] ?_;refine cb (ca Qbo) λr1=>?_;refine z [1] ?_;refine c ?_ ?_
 . refine z [2,31,1,8,10] ?_;exact rt []
 refine z [9,4,5,2,30] ?_;refine cb (ca Qdc) λr3=>?_;refine z [1] ?_;refine c ?_ ?_
 . refine z [2,31,1,8,10] ?_;exact rt []
 refine z [9,4,2,31,1,5,2,31,1,7] ?_;refine sloopE 0 Lp.go (λs15=>[(0,u8 x0),(2,i64 (0:Int)),(3,str ([43,45,42,47,94,40,41,91,93,44,59,61]:List UInt8)),(4,i64 s15)]) (λs15=>[]) (λt13=>[(2,i64 (0:Int))]) (λt13=>[]) eI ?_ ?_
 . intro hj14 s15
   refine z [5,2,30,30,54] ?_;refine sbn (F:=i64) 11 rfl λz16=>?_;refine z [46,1] ?_;refine c ?_ ?_
   . refine z [9,4,5,7,2,30,30] ?_;refine b λy17 h18=>?_;refine z [90,30,66,1] ?_;refine c ?_ ?_
     . refine z [2,31,1,8,12,10] ?_;refine sU ?_;refine z [12,10] ?_;exact rt []
     refine z [9,11,4,6,30,40,31,3] ?_;exact sgo eI
   refine z [14,15] ?_;exact su (sj (hj14 _) eI)
 intro t13
 refine slpk ?_;refine z [13,4,2,31,1,8] ?_;exact rt []
theorem Qpm{x0}:∀ r,Z6 x0=some r->FnOk Tryz.prog 272 [i64 x0] [] (i64 r) []:=by
 unfold Z6
 refine fs Tryz.func272 λw S0 γ hγ=>?_;refine z [2,31,1,5,2,30,41,1] ?_;refine c ?_ ?_
 . refine z [2,31,1,8,10] ?_;exact rt []
 refine z [9,4,5,2,30,41,1] ?_;refine c ?_ ?_
 . refine z [2,31,1,8,10] ?_;exact rt []
 refine z [9,4,2,31,1,8] ?_;exact rt []
theorem Qpn{n:Nat}{x0}:∀ r,Yi n x0=some r->FnOk Tryz.prog 229 [str x0] [] (.tup [sli 3 (List.map Ql r.1),i64 r.2]) []:=by
 unfold Yi
 refine fs Tryz.func229 λw S0 γ hγ=>?_;refine z [2] ?_;refine s1 (asg rfl (kLm (k:=3) Ql)) ?_;refine z [31,1,5,2,30,54,47,1] ?_;refine c ?_ ?_
 . refine z [2] ?_;refine so (bsl (y:=100) (ls:=List.map Ql ([]:List Qg)) Tryz.underlying307 Qck.h rfl rfl rfl rfl rfl trivial rfl rfl) ?_;refine z [31,31,1,8,10] ?_;refine fz 100 [2,13] [] ?_;exact rt []
 refine z [9,4,2] ?_;refine so (asgN (y:=100) (E:=258) (k:=3) rfl rfl) ?_;refine z [1,2,31,1,5,2,31,1,7] ?_;refine sloopE 0 Lp.go (λs407=>[(0,str x0),(2,sli 3 (List.map Ql ([]:List Qg))),(3,i64 (0:Int)),(4,.own 100),(5,bl s407.2.1),(6,i64 s407.2.2)]) (λs407=>[(100,.sl 258 3 (List.map Ql s407.1))]) (λt405=>[(2,sli 3 (List.map Ql ([]:List Qg))),(3,i64 (0:Int)),(4,.own 100)]) (λt405=>[(100,.sl 258 3 (List.map Ql t405))]) (eR [(100,100)]) ?_ ?_
 . intro hj406 s407
   refine z [5,2,30,30,54,46,1] ?_;refine c ?_ ?_
   . refine z [9,4] ?_;refine sjq (λs509=>[(0,str x0),(2,sli 3 (List.map Ql ([]:List Qg))),(3,i64 (0:Int)),(4,.own 100),(5,bl s509.2),(6,i64 s407.2.2)]) (λs509=>[(100,.sl 258 3 (List.map Ql s509.1))]) ?_ ?_
     . intro j507 hj508
       refine z [7,2,30,30] ?_;refine b λy510 h511=>?_;refine z [90,31,1] ?_;refine sjq (λs514=>[(0,str x0),(2,sli 3 (List.map Ql ([]:List Qg))),(3,i64 (0:Int)),(4,.own 100),(5,bl s514),(6,i64 s407.2.2),(7,u8 y510)]) (λs514=>[(100,.sl 258 3 (List.map Ql s407.1))]) ?_ ?_
       . intro j512 hj513
         refine z [2,30,66,1] ?_;refine c ?_ ?_
         . refine z [6,31,1] ?_;exact sj (hj513 _) (eR [(100,100)])
         refine z [9,4] ?_;exact sj (hj513 _) (eR [(100,100)])
       intro s514
       refine sjq (λs517=>[(0,str x0),(2,sli 3 (List.map Ql ([]:List Qg))),(3,i64 (0:Int)),(4,.own 100),(5,bl s517),(6,i64 s407.2.2),(7,u8 y510)]) (λs517=>[(100,.sl 258 3 (List.map Ql s407.1))]) ?_ ?_
       . intro j515 hj516
         refine z [2,30,66,1] ?_;refine c ?_ ?_
         . refine z [6,31,1] ?_;exact sj (hj516 _) (eR [(100,100)])
         refine z [9,4] ?_;exact sj (hj516 _) (eR [(100,100)])
       intro s517
       refine z [5] ?_;refine sjq (λs520=>[(0,str x0),(2,sli 3 (List.map Ql ([]:List Qg))),(3,i64 (0:Int)),(4,.own 100),(5,bl s517),(6,i64 s407.2.2),(7,u8 y510),(43,bl s520)]) (λs520=>[(100,.sl 258 3 (List.map Ql s407.1))]) ?_ ?_
       . intro j518 hj519
         refine z [6,30,30] ?_;refine sifd 28 rfl ?_ ?_
         . refine z [23,23,38,30,23,23,38,30,23,23,38,30,23,23,38,1] ?_;exact sj (hj519 _) (eR [(100,100)])
         refine z [22,22,37,30] ?_;refine sifd 32 rfl ?_ ?_
         . refine z [23,23,38,30,23,23,38,30,23,23,38,1] ?_;exact sj (hj519 _) (eR [(100,100)])
         refine z [22,22,37,30] ?_;refine sifd 36 rfl ?_ ?_
         . refine z [23,23,38,30,23,23,38,1] ?_;exact sj (hj519 _) (eR [(100,100)])
         refine z [22,22,37,30] ?_;refine sifd 40 rfl ?_ ?_
         . refine z [23,23,38,1] ?_;exact sj (hj519 _) (eR [(100,100)])
         refine z [22,22,37,1] ?_;exact sj (hj519 _) (eR [(100,100)])
       intro s520
       refine c ?_ ?_
       . refine z [14,15,13,4] ?_;exact sj (hj508 _) (eR [(100,100)])
       refine z [9,4,2,30,55,31,1] ?_;refine sjq (λs560=>[(0,str x0),(2,sli 3 (List.map Ql ([]:List Qg))),(3,i64 (0:Int)),(4,.own 100),(5,bl s517),(6,i64 s407.2.2)]) (λs560=>[(100,.sl 258 3 (List.map Ql s560))]) ?_ ?_
       . intro j558 hj559
         refine sjq (λs573=>[(0,str x0),(2,sli 3 (List.map Ql ([]:List Qg))),(3,i64 (0:Int)),(4,.own 100),(5,bl s517),(6,i64 s407.2.2),(7,u8 y510),(8,i64 (s407.1.length:Int)),(75,bl s573)]) (λs573=>[(100,.sl 258 3 (List.map Ql s407.1))]) ?_ ?_
         . intro j571 hj572
           refine sif (λhb574=>?_) (λhb574=>?_)
           . refine b λy575 h576=>?_;refine b λy577 h578=>?_;refine sif (λhb579=>?_) (λhb579=>?_)
             . refine b λy580 h581=>?_;refine b λr582 h583=>?_;refine sd ?_;refine zd [[],[]] ?_;refine dd [] (λ_ _ _ _=>obk hb574 ops) ?_;refine zd [[],[],[]] ?_;refine dx [48,49,51] [100] (λst mm ⟨a48,a49,a51,_⟩ ⟨g100,_⟩=>ogG 48 rfl (a48.trans rfl) (ixO (f:=Ql) (g100.trans rfl) Tryz.underlying307 Qck.h h576 rfl (a49.trans rfl) (a51.trans rfl))) ?_;refine zd [[]] ?_
               refine dx [48,53] [100] (λst mm ⟨a48,a53,_⟩ ⟨g100,_⟩=>ogG 48 rfl (a48.trans rfl) (ldO (f:=Ql) [2] (g100.trans rfl) (Qbh h576) (by exact rfl) (by exact rfl) sh_3.h (by exact rfl) (by exact rfl) rfl (a53.trans rfl))) ?_
               refine zd [[],[],[]] ?_;refine dx [48,55,57] [100] (λst mm ⟨a48,a55,a57,_⟩ ⟨g100,_⟩=>ogG 48 rfl (a48.trans rfl) (ixO (f:=Ql) (g100.trans rfl) Tryz.underlying307 Qck.h h578 rfl (a55.trans rfl) (a57.trans rfl))) ?_;refine zd [[]] ?_
               refine dx [48,59] [100] (λst mm ⟨a48,a59,_⟩ ⟨g100,_⟩=>ogG 48 rfl (a48.trans rfl) (ldO (f:=Ql) [1] (g100.trans rfl) (Qbh h578) (by exact rfl) (by exact rfl) sh_9.h (by exact rfl) (by exact rfl) rfl (a59.trans rfl))) ?_
               refine zd [[],[],[],[],[]] ?_;refine dd [] (λ_ _ _ _=>obk hb579 ops) ?_;refine zd [[],[],[]] ?_;refine dx [66,67,69] [100] (λst mm ⟨a66,a67,a69,_⟩ ⟨g100,_⟩=>ogG 66 rfl (a66.trans rfl) (ixO (f:=Ql) (g100.trans rfl) Tryz.underlying307 Qck.h h581 rfl (a67.trans rfl) (a69.trans rfl))) ?_;refine zd [[]] ?_
               refine dx [66,71] [100] (λst mm ⟨a66,a71,_⟩ ⟨g100,_⟩=>ogG 66 rfl (a66.trans rfl) (ldO (f:=Ql) [0] (g100.trans rfl) (Qbh h581) (by exact rfl) (by exact rfl) sh_3.h (by exact rfl) (by exact rfl) rfl (a71.trans rfl))) ?_
               refine zd [[]] ?_;refine dG [] (λ_ _ _ _=>c0 (Qpk _ h583)) ?_;refine zd [[]] ?_;refine de fol ?_;refine z [4] ?_;exact sj (hj572 _) (eR [(100,100)])
             refine sd ?_;refine zd [[],[]] ?_;refine dd [] (λ_ _ _ _=>obk hb574 ops) ?_;refine zd [[],[],[]] ?_;refine dx [48,49,51] [100] (λst mm ⟨a48,a49,a51,_⟩ ⟨g100,_⟩=>ogG 48 rfl (a48.trans rfl) (ixO (f:=Ql) (g100.trans rfl) Tryz.underlying307 Qck.h h576 rfl (a49.trans rfl) (a51.trans rfl))) ?_;refine zd [[]] ?_
             refine dx [48,53] [100] (λst mm ⟨a48,a53,_⟩ ⟨g100,_⟩=>ogG 48 rfl (a48.trans rfl) (ldO (f:=Ql) [2] (g100.trans rfl) (Qbh h576) (by exact rfl) (by exact rfl) sh_3.h (by exact rfl) (by exact rfl) rfl (a53.trans rfl))) ?_
             refine zd [[],[],[]] ?_;refine dx [48,55,57] [100] (λst mm ⟨a48,a55,a57,_⟩ ⟨g100,_⟩=>ogG 48 rfl (a48.trans rfl) (ixO (f:=Ql) (g100.trans rfl) Tryz.underlying307 Qck.h h578 rfl (a55.trans rfl) (a57.trans rfl))) ?_;refine zd [[]] ?_
             refine dx [48,59] [100] (λst mm ⟨a48,a59,_⟩ ⟨g100,_⟩=>ogG 48 rfl (a48.trans rfl) (ldO (f:=Ql) [1] (g100.trans rfl) (Qbh h578) (by exact rfl) (by exact rfl) sh_9.h (by exact rfl) (by exact rfl) rfl (a59.trans rfl))) ?_
             refine zd [[],[],[],[],[]] ?_;refine dd [] (λ_ _ _ _=>obk hb579 ops) ?_;refine zd [[],[],[],[],[],[],[],[],[]] ?_;refine de fol ?_;refine z [4] ?_;exact sj (hj572 _) (eR [(100,100)])
           refine sd ?_;refine zd [[],[]] ?_;refine dd [] (λ_ _ _ _=>obk hb574 ops) ?_;refine zd [[],[],[],[],[],[],[],[],[],[],[],[],[],[],[],[],[],[],[],[],[],[],[],[],[],[],[]] ?_;refine de fol ?_;refine z [4] ?_;exact sj (hj572 _) (eR [(100,100)])
         intro s573
         refine c ?_ ?_
         . refine b λy584 h585=>?_;refine b λy586 h587=>?_;refine b λy588 h589=>?_;refine b λy590 h591=>?_;refine sd ?_;refine zd [[],[],[]] ?_;refine dx [76,78] [100] (λst mm ⟨a76,a78,_⟩ ⟨g100,_⟩=>og (ixO (f:=Ql) (g100.trans rfl) Tryz.underlying307 Qck.h h585 rfl (a76.trans rfl) (a78.trans rfl))) ?_;refine zd [[]] ?_
           refine dx [80] [100] (λst mm ⟨a80,_⟩ ⟨g100,_⟩=>og (ldO (f:=Ql) [1] (g100.trans rfl) (Qbh h585) (by exact rfl) (by exact rfl) sh_9.h (by exact rfl) (by exact rfl) rfl (a80.trans rfl))) ?_
           refine zd [[],[],[],[]] ?_;refine dx [82,83,85] [] (λst mm ⟨a82,a83,a85,_⟩ _=>og (slS h587 Tryz.underlying9 rfl (a82.trans rfl) (bnd (a83.trans rfl)) (bnd (a85.trans rfl)))) ?_;refine zd [[]] ?_;refine dx [76,78] [100] (λst mm ⟨a76,a78,_⟩ ⟨g100,_⟩=>og (ixO (f:=Ql) (g100.trans rfl) Tryz.underlying307 Qck.h h591 rfl (a76.trans rfl) (a78.trans rfl))) ?_;refine zd [[]] ?_
           refine dx [89,87] [100] (λst mm ⟨a89,a87,_⟩ ⟨g100,_⟩=>og (stO (f:=Ql) (⟨y590.Kind,y588,y590.At⟩:Qg) [1] (g100.trans rfl) (Qbh h591) (by exact rfl) (by exact rfl) (by exact rfl) (by exact rfl) sh_9.h (by exact rfl) (by exact rfl) (by exact rfl) (a89.trans rfl) (a87.trans rfl))) ?_
           refine de fol ?_;refine z [4] ?_;exact sj (hj559 _) (eR [(100,100)])
         refine b λr592 h593=>?_;refine b λy594 h595=>?_;refine b λy596 h597=>?_;refine sd ?_;refine zd [[],[]] ?_;refine dd [] (λ_ _ _ _=>c0 (Qpl _ h593)) ?_;refine zd [[],[],[],[]] ?_;refine dx [93,94,96] [] (λst mm ⟨a93,a94,a96,_⟩ _=>og (slS h595 Tryz.underlying9 rfl (a93.trans rfl) (bnd (a94.trans rfl)) (bnd (a96.trans rfl)))) ?_;refine zd [[]] ?_;refine dx [92,97,98] [] (λst mm ⟨a92,a97,a98,_⟩ _=>og (bld (l:=[i64 r592,str y594,i64 s407.2.2]) Q40.h Qck.h Qdi ⟨_,_,_,(a92.trans rfl),rfl,rfl,rfl,(szk (k:=1) rfl rfl),⟨_,_,_,(a97.trans rfl),rfl,rfl,rfl,(szk (k:=1) rfl rfl),⟨_,_,_,(a98.trans rfl),rfl,rfl,rfl,(szk (k:=1) rfl rfl),rfl⟩⟩⟩ rfl)) ?_
         refine dx [99] [101] (λst mm ⟨a99,_⟩ ⟨g101,_⟩=>og (bsl (y:=101) (ls:=List.map Ql ([(⟨r592,y594,s407.2.2⟩:Qg)]:List Qg)) Tryz.underlying307 Qck.h rfl rfl rfl rfl rfl ⟨rfl,(a99.trans rfl),(by exact rfl),(by exact rfl),trivial⟩ (g101.trans rfl) rfl)) ?_
         refine dd [100,101,102] (λ_ _ _ _=>app' 102) ?_;refine zd [[]] ?_;refine de fol ?_;refine z [4] ?_;exact sj (hj559 _) (eR [(100,102)])
       intro s560
       refine z [2,30,30,55,49] ?_;refine b λy598 h599=>?_;refine z [50,51] ?_;refine o (al' 103) ?_;refine z [34,1] ?_;refine sjq (λs605=>[(0,str x0),(2,sli 3 (List.map Ql ([]:List Qg))),(3,i64 (0:Int)),(4,.own 100),(5,bl s517),(6,i64 s407.2.2),(119,bl s605)]) (λs605=>[(100,.sl 258 3 (List.map Ql s560))]) ?_ ?_
       . intro j603 hj604
         refine sif (λhb606=>?_) (λhb606=>?_)
         . refine sd ?_;refine zd [[103],[103],[]] ?_;refine dd [] (λ_ _ _ _=>obk hb606 ops) ?_;refine zd [[],[],[],[],[],[],[],[]] ?_;refine de fol ?_;refine z [4] ?_;exact sj (hj604 _) (eR [(100,100)])
         refine b λr607 h608=>?_;refine sd ?_;refine zd [[103],[103],[]] ?_;refine dd [] (λ_ _ _ _=>obk hb606 ops) ?_;refine zd [[103],[103],[],[103],[103]] ?_;refine dG [] (λ_ _ _ _=>c0 (Qpm _ h608)) ?_;refine zd [[],[]] ?_;refine de fol ?_;refine z [4] ?_;exact sj (hj604 _) (eR [(100,100)])
       intro s605
       refine c ?_ ?_
       . refine z [2] ?_;refine so (bsl (y:=104) (ls:=List.map Ql ([]:List Qg)) Tryz.underlying307 Qck.h rfl rfl rfl rfl rfl trivial rfl rfl) ?_;refine z [30,31,31,1,8,12,10] ?_;refine sU ?_;refine z [12,10] ?_;refine fz 104 [2,120] [] ?_;exact rt []
       refine z [9,11,4] ?_;exact sj (hj508 _) (eR [(100,100)])
     intro s509
     refine z [6,30,40,31,3] ?_;exact sgo (eR [(100,100)])
   refine z [14,15] ?_;exact su (sj (hj406 _) (eR [(100,100)]))
 intro t405
 refine slpk ?_;refine z [13,4,2,30,31,31,1,8] ?_;refine fz 100 [2,4,122] [] ?_;exact rt []
theorem Qn4{n:Nat}{x0}:∀ r,Zo n x0=some r->FnOk Tryz.prog 182 [Ql x0] [] (bl r) []:=by
 unfold Zo
 refine fs Tryz.func182 λw S0 γ hγ=>?_;refine z [2] ?_;refine o (bx' 100) ?_;refine z [31,1,2,33,36] ?_;refine cb (ca Qpn) λr1=>?_;refine z [30,35,35,31,31,1] ?_;refine sjq (λs12=>[(2,bl s12)]) (λs12=>[]) ?_ ?_
 . intro j10 hj11
   refine sif (λhb13=>?_) (λhb13=>?_)
   . refine sif (λhb14=>?_) (λhb14=>?_)
     . refine b λy15 h16=>?_;refine sif (λhb17=>?_) (λhb17=>?_)
       . refine b λy18 h19=>?_;refine sd ?_;refine zd [[],[]] ?_;refine dd [] (λ_ _ _ _=>obk hb13 ops) ?_;refine zd [[],[],[],[]] ?_;refine dd [] (λ_ _ _ _=>obk hb14 ops) ?_;refine zd [[]] ?_;refine dx [18,19] [] (λst mm ⟨a18,a19,_⟩ _=>ogG 18 rfl (a18.trans rfl) (ixR (f:=Ql) Tryz.underlying307 Qck.h h16 rfl (a19.trans rfl) (kI (x:=0) rfl))) ?_;refine zd [[],[],[100],[100],[],[]] ?_;refine dd [] (λ_ _ _ _=>obk hb17 ops) ?_;refine zd [[]] ?_;refine dx [27,28] [] (λst mm ⟨a27,a28,_⟩ _=>ogG 27 rfl (a27.trans rfl) (ixR (f:=Ql) Tryz.underlying307 Qck.h h19 rfl (a28.trans rfl) (kI (x:=0) rfl))) ?_;refine zd [[],[],[100],[100],[],[],[]] ?_;refine de fol ?_;refine z [4] ?_;exact sj (hj11 _) (eR [])
       refine sd ?_;refine zd [[],[]] ?_;refine dd [] (λ_ _ _ _=>obk hb13 ops) ?_;refine zd [[],[],[],[]] ?_;refine dd [] (λ_ _ _ _=>obk hb14 ops) ?_;refine zd [[],[],[],[],[100],[100],[],[]] ?_;refine dd [] (λ_ _ _ _=>obk hb17 ops) ?_;refine zd [[],[],[],[],[],[],[],[],[]] ?_;refine de fol ?_;refine z [4] ?_;exact sj (hj11 _) (eR [])
     refine sd ?_;refine zd [[],[]] ?_;refine dd [] (λ_ _ _ _=>obk hb13 ops) ?_;refine zd [[],[],[],[]] ?_;refine dd [] (λ_ _ _ _=>obk hb14 ops) ?_;refine zd [[],[],[],[],[],[],[],[],[],[],[],[],[],[],[],[],[],[]] ?_;refine de fol ?_;refine z [4] ?_;exact sj (hj11 _) (eR [])
   refine sd ?_;refine zd [[],[]] ?_;refine dd [] (λ_ _ _ _=>obk hb13 ops) ?_;refine zd [[],[],[],[],[],[],[],[],[],[],[],[],[],[],[],[],[],[],[],[],[],[],[]] ?_;refine de fol ?_;refine z [4] ?_;exact sj (hj11 _) (eR [])
 intro s12
 refine z [8] ?_;exact rt []
theorem Qeh{n:Nat}{x0}:∀ r,Xc n x0=some r->FnOk Tryz.prog 187 [Qc x0] [] (i64 r) []:=by
 unfold Xc
 refine fs Tryz.func187 λw S0 γ hγ=>?_;refine z [2] ?_;refine o (bx' 100) ?_;refine z [31,1,5] ?_;refine b λr1 h2=>?_;refine b λr3 h4=>?_;refine sd ?_;refine zd [[100],[100]] ?_;refine dd [] (λ_ _ _ _=>c0 (Qe8 _ h2)) ?_;refine zd [[100],[100]] ?_;refine dd [] (λ_ _ _ _=>c0 (Qe8 _ h4)) ?_;refine zd [[],[]] ?_;refine de fol ?_;refine z [4,8] ?_;exact rt []
theorem Qca{n:Nat}{x0}:∀ r,Wu n x0=some r->FnOk Tryz.prog 183 [sli 3 (List.map Qc x0)] [] (bl r) []:=by
 unfold Wu
 refine fs Tryz.func183 λw S0 γ hγ=>?_;refine z [2,31,1,5,2,31,1,7] ?_;refine sloopE 0 Lp.go (λs63=>[(0,sli 3 (List.map Qc x0)),(2,bl false),(3,i64 s63)]) (λs63=>[]) (λt61=>[(2,bl false)]) (λt61=>[]) eI ?_ ?_
 . intro hj62 s63
   refine z [5,2,30,30,39,46,1] ?_;refine c ?_ ?_
   . refine z [9,4,5,7] ?_;refine sjq (λs79=>[(0,sli 3 (List.map Qc x0)),(2,bl false),(3,i64 s63),(28,bl s79)]) (λs79=>[]) ?_ ?_
     . intro j77 hj78
       refine b λy80 h81=>?_;refine b λr82 h83=>?_;refine b λy84 h85=>?_;refine b λr86 h87=>?_;refine sif (λhb88=>?_) (λhb88=>?_)
       . refine sd ?_;refine zd [[],[]] ?_;refine dx [10,11] [] (λst mm ⟨a10,a11,_⟩ _=>og (ixR (f:=Qc) Tryz.underlying26 ti_34.h h81 rfl (a10.trans rfl) (a11.trans rfl))) ?_;refine zd [[]] ?_;refine dd [] (λ_ _ _ _=>c0 (Jp _ h83)) ?_;refine zd [[],[]] ?_;refine dx [15,16] [] (λst mm ⟨a15,a16,_⟩ _=>og (ixR (f:=Qc) Tryz.underlying26 ti_34.h h85 rfl (a15.trans rfl) (a16.trans rfl))) ?_;refine zd [[]] ?_;refine dd [] (λ_ _ _ _=>c0 (K2 _ h87)) ?_;refine zd [[]] ?_;refine dd [] (λ_ _ _ _=>obk hb88 ops) ?_;refine zd [[],[],[],[],[],[],[]] ?_;refine de fol ?_;refine z [4] ?_;exact sj (hj78 _) eI
       refine b λy89 h90=>?_;refine b λr91 h92=>?_;refine sd ?_;refine zd [[],[]] ?_;refine dx [10,11] [] (λst mm ⟨a10,a11,_⟩ _=>og (ixR (f:=Qc) Tryz.underlying26 ti_34.h h81 rfl (a10.trans rfl) (a11.trans rfl))) ?_;refine zd [[]] ?_;refine dd [] (λ_ _ _ _=>c0 (Jp _ h83)) ?_;refine zd [[],[]] ?_;refine dx [15,16] [] (λst mm ⟨a15,a16,_⟩ _=>og (ixR (f:=Qc) Tryz.underlying26 ti_34.h h85 rfl (a15.trans rfl) (a16.trans rfl))) ?_;refine zd [[]] ?_;refine dd [] (λ_ _ _ _=>c0 (K2 _ h87)) ?_;refine zd [[]] ?_;refine dd [] (λ_ _ _ _=>obk hb88 ops) ?_;refine zd [[],[]] ?_;refine dx [21,22,23] [] (λst mm ⟨a21,a22,a23,_⟩ _=>ogG 21 rfl (a21.trans rfl) (ixR (f:=Qc) Tryz.underlying26 ti_34.h h90 rfl (a22.trans rfl) (a23.trans rfl))) ?_;refine zd [[]] ?_;refine dG [] (λ_ _ _ _=>c0 (Qeh _ h92)) ?_;refine zd [[],[]] ?_;refine de fol ?_;refine z [4] ?_;exact sj (hj78 _) eI
     intro s79
     refine c ?_ ?_
     . refine z [2,31,1,8,12,10] ?_;refine sU ?_;refine z [12,10] ?_;exact rt []
     refine z [9,11,4,6,30,40,31,3] ?_;exact sgo eI
   refine z [14,15] ?_;exact su (sj (hj62 _) eI)
 intro t61
 refine slpk ?_;refine z [13,4,2,31,1,8] ?_;exact rt []
theorem Qjz{n:Nat}{x0}:∀ r,Ze n x0=some r->FnOk Tryz.prog 186 [u64 x0] [] (sli 1 (List.map u32 r)) []:=by
 unfold Ze
 refine fs Tryz.func186 λw S0 γ hγ=>?_;refine z [2] ?_;refine s1 (asg rfl (kLm (k:=1) u32)) ?_;refine z [1,2,30,81,60,30,80,60] ?_
 refine so (bsl (y:=100) (ls:=List.map u32 ([((x0%4294967296)%4294967296),((x0 / 4294967296)%4294967296)]:List Nat)) Tryz.underlying32 K6.h rfl rfl rfl rfl rfl ⟨rfl,rfl,(by exact rfl),(by exact rfl),rfl,rfl,(by exact rfl),(by exact rfl),trivial⟩ rfl rfl) ?_
 refine sbm (C:=λx=>.sl 189 1 (List.map u32 x)) 100 rfl λz1=>?_;refine b λr2 h3=>?_;refine so (callL (em:=[(101,.sl 189 1 (List.map u32 r2))]) (res':=.own 101) [100] [] [(101,50)] [(101,50)] rfl (Kn _ h3) ⟨Qbt (f:=u32) (λ_=>Qdv) _,trivial⟩ (Qes) ⟨.inr ⟨100,rfl,.inl ⟨rfl,.inl ⟨_,_,_,rfl,J7 (f:=u32) (λ_=>Vn) z1,rfl⟩⟩⟩,trivial⟩ (MiF.get (mi:=[]) trivial) trivial rfl ⟨rfl,trivial⟩ ⟨.inl rfl,trivial⟩ rfl ⟨.inl ⟨_,_,rfl,rfl,rc_sl (J7 (f:=u32) (λ_=>Vn) r2)⟩,trivial⟩ trivial ⟨⟨_,rfl⟩,trivial⟩ (W1 rfl) rfl) ?_;refine z [31,1,8] ?_;refine fz 101 [2,10] [] ?_;exact rt []
theorem Qe9{n:Nat}{x0}{x1}:∀ r,Xr n x0 x1=some r->FnOk Tryz.prog 185 [sli 1 (List.map u32 x0),sli 1 (List.map u32 x1)] [] (sli 1 (List.map u32 r)) []:=by
 unfold Xr
 refine fs Tryz.func185 λw S0 γ hγ=>?_;refine z [2] ?_;refine s1 (asg rfl (kLm (k:=1) u32)) ?_;refine z [1,2,30,39,30,39,88,40,31,1,2,30] ?_;refine b λy1 h2=>?_;refine so (mks (y:=100) (f:=u32) h2 Tryz.underlying32 K6.h Qc4 rfl rfl rfl rfl rfl rfl) ?_;refine z [31,1,2,31,1,5,2,31,1,7] ?_;refine sloopE 0 (λt=>t) (λs24=>[(0,sli 1 (List.map u32 x0)),(1,sli 1 (List.map u32 x1)),(4,sli 1 (List.map u32 ([]:List Nat))),(5,i64 (wrap64 ((max (x0.length:Int) (x1.length:Int))+(1:Int)))),(6,.own 100),(7,u64 s24.2.1),(8,i64 s24.2.2)]) (λs24=>[(100,.sl 189 1 (List.map u32 s24.1))]) (λt22=>[(4,sli 1 (List.map u32 ([]:List Nat))),(6,.own 100)]) (λt22=>[(100,.sl 189 1 (List.map u32 t22))]) (eR [(100,100)]) ?_ ?_
 . intro hj23 s24
   refine z [5,2,30,30,46] ?_;refine sbn (F:=bl) 19 rfl λz25=>?_;refine z [1] ?_;refine c ?_ ?_
   . refine z [9,4,5,7,2,30,30,30] ?_;refine cb (ca Yb) λr26=>?_;refine z [59,30,30] ?_;refine cb (ca Yb) λr28=>?_;refine z [59,61,61] ?_;refine sbn (F:=u64) 32 rfl λz30=>?_;refine z [31,1,2,30,30,30,81,60] ?_;refine b λy31 h32=>?_;refine z [50,53,1,6,30,80,31,3,11,4,6,30,40,31,3] ?_;exact sgo (eR [(100,100)])
   refine z [14,15] ?_;exact su (sj (hj23 _) (eR [(100,100)]))
 intro t22
 refine z [13,4,2,30] ?_;refine b λr33 h34=>?_;refine so (callL (em:=[(101,.sl 189 1 (List.map u32 r33))]) (res':=.own 101) [100] [] [(101,50)] [(101,50)] rfl (Kn _ h34) ⟨Qbt (f:=u32) (λ_=>Qdv) _,trivial⟩ (Qes) ⟨.inr ⟨100,rfl,.inl ⟨rfl,.inl ⟨_,_,_,rfl,J7 (f:=u32) (λ_=>Vn) t22,rfl⟩⟩⟩,trivial⟩ (MiF.get (mi:=[]) trivial) trivial rfl ⟨rfl,trivial⟩ ⟨.inl rfl,trivial⟩ rfl ⟨.inl ⟨_,_,rfl,rfl,rc_sl (J7 (f:=u32) (λ_=>Vn) r33)⟩,trivial⟩ trivial ⟨⟨_,rfl⟩,trivial⟩ (W1 rfl) rfl) ?_;refine z [31,1,8] ?_;refine fz 101 [4,42] [] ?_;exact rt []
theorem V4{n:Nat}{x0}:∀ r,Jw n x0=some r->FnOk Tryz.prog 115 [i64 x0] [] (Qc r) []:=by
 unfold Jw
 refine fs Tryz.func115 λw S0 γ hγ=>?_;refine z [2] ?_;refine o (al' 100) ?_;refine z [1,5,2,30,46,1] ?_;refine c ?_ ?_
 . refine z [2,30,40,82,83] ?_;refine sbn (F:=u64) 8 rfl λz1=>?_;refine cb (ca Qjz) λr2=>?_
   refine so (bsl (y:=101) (ls:=List.map u32 ([1]:List Nat)) Tryz.underlying32 K6.h rfl rfl rfl rfl rfl ⟨rfl,(k32 (x:=1) rfl),(by exact rfl),(by exact rfl),trivial⟩ rfl rfl) ?_
   refine fz 101 [10] [] ?_;refine cb (ca Qe9) λr4=>?_
   refine so (bsl (y:=102) (ls:=List.map u32 ([1]:List Nat)) Tryz.underlying32 K6.h rfl rfl rfl rfl rfl ⟨rfl,(k32 (x:=1) rfl),(by exact rfl),(by exact rfl),trivial⟩ rfl rfl) ?_
   refine fz 102 [12] [] ?_;refine s1 (bld (l:=[bl true,sli 1 (List.map u32 r4),sli 1 (List.map u32 ([1]:List Nat))]) pl_34.h ti_34.h Qu ⟨_,_,_,kB,rfl,rfl,rfl,(szk (k:=1) rfl rfl),⟨_,_,_,rfl,rfl,rfl,rfl,(szk (k:=1) rfl rfl),⟨_,_,_,rfl,rfl,rfl,rfl,(szk (k:=1) rfl rfl),rfl⟩⟩⟩ rfl) ?_;refine cb (ca Jp) λr6=>?_;refine z [34,1,8,10] ?_;exact rt []
 refine z [9,4,2,30,83] ?_;refine cb (ca Qjz) λr8=>?_
 refine so (bsl (y:=101) (ls:=List.map u32 ([1]:List Nat)) Tryz.underlying32 K6.h rfl rfl rfl rfl rfl ⟨rfl,(k32 (x:=1) rfl),(by exact rfl),(by exact rfl),trivial⟩ rfl rfl) ?_
 refine fz 101 [18] [] ?_;refine s1 (bld (l:=[bl false,sli 1 (List.map u32 r8),sli 1 (List.map u32 ([1]:List Nat))]) pl_34.h ti_34.h Qu ⟨_,_,_,rfl,rfl,rfl,rfl,(szk (k:=1) rfl rfl),⟨_,_,_,rfl,rfl,rfl,rfl,(szk (k:=1) rfl rfl),rfl⟩⟩ rfl) ?_;refine cb (ca Jp) λr10=>?_;refine z [34,1,8] ?_;exact rt []
theorem Xe{n:Nat}{x0}:∀ r,J1 n x0=some r->FnOk Tryz.prog 142 [Qx x0] [] (Qx r) []:=by
 unfold J1
 refine fs Tryz.func142 λw S0 γ hγ=>?_;refine z [2] ?_;refine o (bx' 100) ?_;refine o (al' 101) ?_;refine z [1,2,33,36] ?_;refine b λr1 h2=>?_;refine o (cG (Kn _ h2) [] [(102,50)] []) ?_;refine z [31,1] ?_;refine sjq (λs5=>[(2,.own 101)]) (λs5=>[(101,.bx 216 (Qx s5))]) ?_ ?_
 . intro j3 hj4
   refine z [6,33,36,30] ?_;refine sifd 9 rfl ?_ ?_
   . refine z [22,22,22,38,30] ?_;refine fz 102 [3,6,10,14] [] ?_;refine s1 (bld (l:=[bl (decide ((0:Int)<(r1.length:Int))),sli 1 (List.map u32 r1)]) Qf0.h Qd4.h J0 ⟨_,_,_,rfl,rfl,rfl,rfl,(szk (k:=1) rfl rfl),⟨_,_,_,rfl,rfl,rfl,rfl,(szk (k:=1) rfl rfl),rfl⟩⟩ rfl) ?_;refine z [34,1] ?_;exact sj (hj4 _) (eR [(101,101)])
   refine z [23,23,23,37,30] ?_;refine fz 102 [3,6,14] [] ?_;refine s1 (bld (l:=[bl false,sli 1 (List.map u32 r1)]) Qf0.h Qd4.h J0 ⟨_,_,_,rfl,rfl,rfl,rfl,(szk (k:=1) rfl rfl),⟨_,_,_,rfl,rfl,rfl,rfl,(szk (k:=1) rfl rfl),rfl⟩⟩ rfl) ?_;refine z [34,1] ?_;exact sj (hj4 _) (eR [(101,101)])
 intro s5
 refine z [8] ?_;exact rt []
end Go.Proofs.YtlihkcaoachkdaaGreatDoor
