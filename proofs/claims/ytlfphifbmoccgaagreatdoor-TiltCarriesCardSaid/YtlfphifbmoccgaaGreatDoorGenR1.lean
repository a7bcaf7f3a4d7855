import Derived.Test.YtlfphifbmoccgaaGreatDoorGen0
set_option maxRecDepth 100000
set_option maxHeartbeats 4000000
namespace Go.Proofs.YtlfphifbmoccgaaGreatDoor
open Go Go.RowKit Tryz
theorem Qbh{x0 x1}:∀ r,Vj x0 x1=some r->FnOk Ub 27 [Qc x0,i64 x1] [] (bl r) []:=by
 unfold Vj;refine fs func27 λ_ _ _ _=>?_;refine z [0] ?_;refine o (bx' 100) ?_;refine z [3] ?_;refine sjq (λs3=>[(4,bl s3)]) (λs3=>[]) ?_ ?_;intro j1 hj2;refine z [39,15,24,1,49,1] ?_;refine sifd 10 rfl ?_ ?_;refine z [5,5,25,19,3] ?_;exact sj (hj2 _) (eR []);refine z [13,13,28,20,3] ?_;exact sj (hj2 _) (eR []);intro s3;refine z [14] ?_;exact rt []
theorem Qo0{n x0 x1 x2}:∀ r,Zy n x0 x1 x2=some r->FnOk Ub 72 [Ja x0,i64 x1,i64 x2] [] (bl r) []:=by
 unfold Zy;refine fs func72 λ_ _ _ _=>?_;refine z [0] ?_;refine o (bx' 100) ?_;refine z [3,4,0,3,12] ?_;refine sloopE 0 Lp.go (λs19=>[(1,i64 x1),(2,i64 x2),(3,.own 100),(6,bl false),(7,i64 s19)]) (λs19=>[(100,.bx 25 (Ja x0))]) (λt17=>[(1,i64 x1),(3,.own 100),(6,bl false)]) (λt17=>[(100,.bx 25 (Ja x0))]) (eR [(100,100)]) ?_ ?_;intro hj18 s19;refine z [4] ?_;refine sjq (λs22=>[(1,i64 x1),(2,i64 x2),(3,.own 100),(6,bl false),(7,i64 s19),(17,bl s22)]) (λs22=>[(100,.bx 25 (Ja x0))]) ?_ ?_;intro j20 hj21;refine z [21,15,24,33,1] ?_;refine sifd 13 rfl ?_ ?_;refine z [13,28,19,2] ?_;exact sj (hj21 _) (eR [(100,100)]);refine z [5,25,20,2] ?_;exact sj (hj21 _) (eR [(100,100)]);intro s22;refine c ?_ ?_;refine z [10,4,12,0,15,1] ?_;refine b λy23 h24=>?_;refine z [38,79,37,1] ?_;refine cb (ca Qbh) λr25=>?_;refine z [2] ?_;refine c ?_ ?_;refine z [0,11,23,8] ?_;refine sU ?_;refine z [23,8] ?_;exact rt [];refine z [41,26,7,21,29,9,27] ?_;exact sgo (eR [(100,100)]);refine z [35,36] ?_;exact su (sj (hj18 _) (eR [(100,100)]));intro t17;refine slpk ?_;refine z [30,7] ?_;refine sjq (λs29=>[(6,bl s29)]) (λs29=>[]) ?_ ?_;intro j27 hj28;refine z [39,15,24,1,49,1] ?_;refine sifd 33 rfl ?_ ?_;refine z [5,5,25,19,3] ?_;exact sj (hj28 _) (eR []);refine z [13,13,28,20,3] ?_;exact sj (hj28 _) (eR []);intro s29;refine z [14] ?_;exact rt []
theorem We{n x0 x1 x2}:∀ r,Jn n x0 x1 x2=some r->FnOk Ub 32 [Ue x0,i64 x1,i64 x2] [] (bl r) []:=by
 unfold Jn;refine fs func32 λ_ _ _ _=>?_;refine z [0,3,4,0,3,12] ?_;refine sloopE 0 Lp.go (λs19=>[(0,Ue x0),(1,i64 x1),(2,i64 x2),(6,bl false),(7,i64 s19)]) (λs19=>[]) (λt17=>[(0,Ue x0),(1,i64 x1),(6,bl false)]) (λt17=>[]) eI ?_ ?_;intro hj18 s19;refine z [4] ?_;refine sjq (λs22=>[(0,Ue x0),(1,i64 x1),(2,i64 x2),(6,bl false),(7,i64 s19),(16,bl s22)]) (λs22=>[]) ?_ ?_;intro j20 hj21;refine z [21,1,24,33,1] ?_;refine sifd 12 rfl ?_ ?_;refine z [13,28,19,2] ?_;exact sj (hj21 _) eI;refine z [5,25,20,2] ?_;exact sj (hj21 _) eI;intro s22;refine c ?_ ?_;refine z [10,4,12,22] ?_;refine b λy23 h24=>?_;refine z [38,37,1] ?_;refine cb (ca Qbh) λr25=>?_;refine z [2] ?_;refine c ?_ ?_;refine z [0,11,23,8] ?_;refine sU ?_;refine z [23,8] ?_;exact rt [];refine z [41,26,7,21,29,9,27] ?_;exact sgo eI;refine z [35,36] ?_;exact su (sj (hj18 _) eI);intro t17;refine slpk ?_;refine z [30,7,6,24,1,49,11] ?_;exact rt []
theorem Qo1{n x0 x1 x2}:∀ r,Zz n x0 x1 x2=some r->FnOk Ub 73 [Q7 x0,i64 x1,i64 x2] [] (bl r) []:=by
 unfold Zz;refine fs func73 λ_ _ _ _=>?_;refine z [0] ?_;refine o (bx' 100) ?_;refine z [3,4] ?_;refine sjq (λs9=>[(1,i64 x1),(2,i64 x2),(3,.own 100),(6,bl false),(39,bl s9)]) (λs9=>[(100,.bx 29 (Q7 x0))]) ?_ ?_;intro j7 hj8;refine z [39,15,54,49,1] ?_;refine sifd 12 rfl ?_ ?_;refine z [5,5,25,19,1,5,5,25,19,1,5,5,25,19,1,5,5,25,19,2] ?_;exact sj (hj8 _) (eR [(100,100)]);refine z [13,13,28,20,1] ?_;refine sifd 19 rfl ?_ ?_;refine z [5,5,25,19,1,5,5,25,19,1,5,5,25,19,2] ?_;exact sj (hj8 _) (eR [(100,100)]);refine z [13,13] ?_;refine b λr10 h11=>?_;refine og' (c0 (We _ h11)) ?_;refine z [20,1] ?_;refine sifd 26 rfl ?_ ?_;refine z [5,5,25,19,1,5,5,25,19,2] ?_;exact sj (hj8 _) (eR [(100,100)]);refine z [13,13] ?_;refine b λr12 h13=>?_;refine og' (c0 (We _ h13)) ?_;refine z [20,1] ?_;refine sifd 33 rfl ?_ ?_;refine z [5,5,25,19,2] ?_;exact sj (hj8 _) (eR [(100,100)]);refine z [13,13] ?_;refine b λr14 h15=>?_;refine og' (c0 (We _ h15)) ?_;refine z [20,2] ?_;exact sj (hj8 _) (eR [(100,100)]);intro s9;refine c ?_ ?_;refine z [0,11,8] ?_;exact rt [];refine z [10,4,0,3,12] ?_;refine sloopE 0 Lp.go (λs28=>[(1,i64 x1),(2,i64 x2),(3,.own 100),(6,bl false),(7,i64 s28)]) (λs28=>[(100,.bx 29 (Q7 x0))]) (λt26=>[(6,bl false)]) (λt26=>[]) (eR [(100,100)]) ?_ ?_;intro hj27 s28;refine z [4,6,15,24,33,2] ?_;refine c ?_ ?_;refine z [10,4,12,0,15,1] ?_;refine b λy29 h30=>?_;refine z [38,37,1,1] ?_;refine cb (ca We) λr31=>?_;refine z [2] ?_;refine c ?_ ?_;refine z [0,11,23,8] ?_;refine sU ?_;refine z [23,8] ?_;exact rt [];refine z [41,26,7,21,29,9,27] ?_;exact sgo (eR [(100,100)]);refine z [35,36] ?_;exact su (sj (hj27 _) (eR []));intro t26;refine slpk ?_;refine z [30,7,0,11] ?_;exact rt []
theorem Qo2{n x0 x1 x2 x3}:∀ r,Z0 n x0 x1 x2 x3=some r->FnOk Ub 12 [Jb x0,i64 x1,i64 x2,i64 x3] [] (bl r) []:=by
 unfold Z0;refine fs func12 λ_ _ _ _=>?_;refine z [0] ?_;refine o (bx' 100) ?_;refine z [3] ?_;refine sjq (λs9=>[(8,bl s9)]) (λs9=>[]) ?_ ?_;intro j7 hj8;refine z [39,15,1,1] ?_;refine cb (ca Qo0) λr10=>?_;refine z [1] ?_;refine sifd 14 rfl ?_ ?_;refine z [5,5,19,1,5,5,19,3] ?_;exact sj (hj8 _) (eR []);refine z [13,28] ?_;refine b λr12 h13=>?_;refine og' (c0 (Qo1 _ h13)) ?_;refine z [20,1] ?_;refine sifd 20 rfl ?_ ?_;refine z [5,5,19,3] ?_;exact sj (hj8 _) (eR []);refine z [13,28] ?_;refine b λr14 h15=>?_;refine og' (c0 (We _ h15)) ?_;refine z [20,3] ?_;exact sj (hj8 _) (eR []);intro s9;refine z [14] ?_;exact rt []
theorem Ke{x0 x1 x2}:∀ r,Jk x0 x1 x2=some r->FnOk Ub 153 [i64 x0,i64 x1,i64 x2] [] (bl r) []:=by
 unfold Jk;refine fs func153 λ_ _ _ _=>?_;refine z [0,3] ?_;refine sjq (λs3=>[(6,bl s3)]) (λs3=>[]) ?_ ?_;intro j1 hj2;refine z [21,1,55,1] ?_;refine sifd 10 rfl ?_ ?_;refine z [13,28,19,3] ?_;exact sj (hj2 _) eI;refine z [5,25,20,3] ?_;exact sj (hj2 _) eI;intro s3;refine z [14] ?_;exact rt []
theorem Kg{n x0}:∀ r,Jo n x0=some r->FnOk Ub 85 [Uc x0] [] (.own 50) [(50,.sl 184 1 (List.map u32 r))]:=by
 unfold Jo;refine fs func85 λ_ _ _ _=>?_;refine z [0] ?_;refine s1 (asg rfl (kLm (k:=1) u32)) ?_;refine z [2,6,24,3,4,12] ?_;refine sloopE 0 (λt=>t) (λs19=>[(0,Uc x0),(2,Uc ([]:List Nat)),(3,i64 s19)]) (λs19=>[]) (λt17=>[(0,Uc x0),(2,Uc ([]:List Nat)),(3,i64 t17)]) (λt17=>[]) eI ?_ ?_;intro hj18 s19;refine z [4] ?_;refine sjq (λs24=>[(0,Uc x0),(2,Uc ([]:List Nat)),(3,i64 s19),(15,bl s24)]) (λs24=>[]) ?_ ?_;intro j22 hj23;refine z [21,49,1] ?_;refine sifd 8 rfl ?_ ?_;refine z [13,28] ?_;refine b λy25 h26=>?_;refine z [13,28,19,2] ?_;exact sj (hj23 _) eI;refine z [5,5,5,20,2] ?_;exact sj (hj23 _) eI;intro s24;refine c ?_ ?_;refine z [10,12,21,45,9,27,26] ?_;exact sgo eI;refine z [35,36] ?_;exact su (sj (hj18 _) eI);intro t17;refine z [30,7,0] ?_;refine so (bsl (y:=100) (ls:=List.map u32 ([]:List Nat)) Uk K4.h rfl rfl rfl rfl rfl trivial rfl rfl) ?_;refine z [1,1] ?_;refine b λy27 h28=>?_;refine s1 (slR (f:=u32) h28 Uk K4.h rfl rfl bnd0 (bnd rfl)) ?_;refine b λy29 h30=>?_;refine o (app' 101) ?_;refine z [11] ?_;exact rt [(50,101)]
theorem Qis{x0}:∀ r,Yv x0=some r->FnOk Ub 86 [Uc x0] [] (bl r) []:=by
 unfold Yv;refine fs func86 λ_ _ _ _=>?_;refine z [0,3] ?_;refine sjq (λs5=>[(2,bl s5)]) (λs5=>[]) ?_ ?_;intro j3 hj4;refine z [21,24,31,1] ?_;refine sifd 6 rfl ?_ ?_;refine z [28] ?_;refine b λy6 h7=>?_;refine z [13,28,19,3] ?_;exact sj (hj4 _) eI;refine z [5,5,20,3] ?_;exact sj (hj4 _) eI;intro s5;refine z [14] ?_;exact rt []
theorem Qnp{n x0}:∀ r,Xz n x0=some r->FnOk Ub 222 [u32 x0] [] (i64 r) []:=by
 unfold Xz;refine fs func222 λ_ _ _ _=>?_;refine z [0,3,4,6,58,2] ?_;refine c ?_ ?_;refine z [0,11,8] ?_;exact rt [];refine z [10,0,3,4,12] ?_;refine sloopE 0 (λt=>t) (λs5=>[(0,u32 s5.1),(2,i64 (0:Int)),(3,i64 s5.2)]) (λs5=>[]) (λt3=>[(2,i64 (0:Int)),(3,i64 t3)]) (λt3=>[]) eI ?_ ?_;intro hj4 s5;refine z [4,6,64,58,2] ?_;refine c ?_ ?_;refine z [10,12,6,63,3,21,29,9,27,26] ?_;exact sgo eI;refine z [35,36] ?_;exact su (sj (hj4 _) eI);intro t3;refine z [30,7,6,11] ?_;exact rt []
theorem Qo3{n x0 x0o x0l x1}:∀ r,Yi n x0 x0o x0l x1=some r->FnOk Ub 223 [.win 0 x0o x0l,i64 x1] [(0,.sl 184 1 (List.map u32 x0))] (.win 0 r.1 r.2.1) [(0,.sl 184 1 (List.map u32 r.2.2))]:=by
 unfold Yi;refine fs func223 λ_ _ _ _=>?_;refine z [0] ?_;refine s1 (asg rfl (kLm (k:=1) u32)) ?_;refine z [2,4,0,3,12] ?_;refine sloopE 0 (λt=>t) (λs41=>[(0,.win 0 x0o x0l),(1,i64 x1),(4,Uc ([]:List Nat)),(5,i64 s41.2)]) (λs41=>[(0,.sl 184 1 (List.map u32 s41.1))]) (λt39=>[(0,.win 0 x0o x0l),(4,Uc ([]:List Nat))]) (λt39=>[(0,.sl 184 1 (List.map u32 t39))]) (eR [(0,0)]) ?_ ?_;intro hj40 s41;refine z [4,22,69,33,2] ?_;refine c ?_ ?_;refine z [10,4,12,0,3] ?_;refine sjq (λs47=>[(0,.win 0 x0o x0l),(1,i64 x1),(4,Uc ([]:List Nat)),(5,i64 s41.2),(6,u64 s47)]) (λs47=>[(0,.sl 184 1 (List.map u32 s41.1))]) ?_ ?_;intro j45 hj46;refine z [6,29,1,69,33,2] ?_;refine c ?_ ?_;refine z [21,1,29] ?_;refine b λ_ h50=>?_;refine b λy48 h49=>?_;refine s1 (ixW (f:=u32) (Qbc h50) rfl Uk K4.h h49 rfl rfl rfl) ?_;refine z [50,51,3] ?_;exact sj (hj46 _) (eR [(0,0)]);refine z [10] ?_;exact sj (hj46 _) (eR [(0,0)]);intro s47;refine z [21,1,1,66,1,1] ?_;refine b λ_ h53=>?_;refine b λy51 h52=>?_;refine s1 (ixW (f:=u32) (Qbc h53) rfl Uk K4.h h52 rfl rfl rfl) ?_;refine z [50,51,52] ?_;refine sbn (F:=u64) 33 rfl λz54=>?_;refine z [1] ?_;refine b λ_ h55=>?_;refine s1 (shrU uk64 (ge0 h55) rfl rfl rfl) ?_;refine z [56] ?_;refine b λ_ h58=>?_;refine b λy56 h57=>?_;refine s1 (ixW (f:=u32) (Qbc h58) rfl Uk K4.h h57 rfl rfl rfl) ?_;refine z [48] ?_;refine sbm (C:=λx=>.sl 184 1 (List.map u32 x)) 0 rfl λz59=>?_;refine z [27,26,7,21,29,9,27] ?_;exact sgo (eR [(0,0)]);refine z [35,36] ?_;exact su (sj (hj40 _) (eR [(0,0)]));intro t39;refine z [30,7,4,12] ?_;refine sloopE 2 (λt=>t) (λs84=>[(0,.win 0 s84.1 s84.2),(4,Uc ([]:List Nat))]) (λs84=>[(0,.sl 184 1 (List.map u32 t39))]) (λt82=>[(0,.win 0 t82.1 t82.2),(4,Uc ([]:List Nat))]) (λt82=>[(0,.sl 184 1 (List.map u32 t39))]) (eR [(0,0)]) ?_ ?_;intro hj83 s84;refine z [4] ?_;refine sjq (λs90=>[(0,.win 0 s84.1 s84.2),(4,Uc ([]:List Nat)),(49,bl s90)]) (λs90=>[(0,.sl 184 1 (List.map u32 t39))]) ?_ ?_;intro j88 hj89;refine z [21,69,49,1] ?_;refine sifd 41 rfl ?_ ?_;refine z [13,13] ?_;refine b λ_ h93=>?_;refine b λy91 h92=>?_;refine sg 41 rfl rfl (ixW (f:=u32) (Qbc h93) rfl Uk K4.h h92 rfl rfl rfl) ?_;refine z [13,19,2] ?_;exact sj (hj89 _) (eR [(0,0)]);refine z [5,5,5,25,20,2] ?_;exact sj (hj89 _) (eR [(0,0)]);intro s90;refine c ?_ ?_;refine z [10,12,21,1,69,45] ?_;refine b λ_ h94=>?_;refine s1 (slW (Qbc h94) rfl Uk K4.h rfl rfl bnd0 (bnd rfl)) ?_;refine z [9,27,26] ?_;exact sgo (eR [(0,0)]);refine z [35,36] ?_;exact su (sj (hj83 _) (eR [(0,0)]));intro t82;refine z [30,7,6,11] ?_;exact rt [(0,0)]
theorem Qez{n x0 x0o x0l}:∀ r,Vt n x0 x0o x0l=some r->FnOk Ub 158 [.win 0 x0o x0l] [(0,.sl 184 1 (List.map u32 x0))] (.tup [.win 0 r.1 r.2.1,i64 r.2.2.1]) [(0,.sl 184 1 (List.map u32 r.2.2.2))]:=by
 unfold Vt;refine fs func158 λ_ _ _ _=>?_;refine z [0] ?_;refine s1 (asg rfl (kLm (k:=1) u32)) ?_;refine z [3,0,3,4,12] ?_;refine sloopE 0 (λt=>t) (λs13=>[(0,.win 0 s13.1 s13.2.1),(2,Uc ([]:List Nat)),(3,i64 (0:Int)),(4,i64 s13.2.2)]) (λs13=>[(0,.sl 184 1 (List.map u32 x0))]) (λt11=>[(0,.win 0 t11.1 t11.2.1),(2,Uc ([]:List Nat)),(3,i64 (0:Int)),(4,i64 t11.2.2)]) (λt11=>[(0,.sl 184 1 (List.map u32 x0))]) (eR [(0,0)]) ?_ ?_;intro hj12 s13;refine z [4,6] ?_;refine b λ_ h16=>?_;refine b λy14 h15=>?_;refine s1 (ixW (f:=u32) (Qbc h16) rfl Uk K4.h h15 rfl rfl (kI (x:=0) rfl)) ?_;refine z [50,58,2] ?_;refine c ?_ ?_;refine z [10,12,6] ?_;refine b λ_ h17=>?_;refine s1 (slW (Qbc h17) rfl Uk K4.h rfl rfl (bnd (kI (x:=1) rfl)) bnd0) ?_;refine z [3,21,29,9,27,26] ?_;exact sgo (eR [(0,0)]);refine z [35,36] ?_;exact su (sj (hj12 _) (eR [(0,0)]));intro t11;refine z [30,7,6] ?_;refine b λ_ h20=>?_;refine b λy18 h19=>?_;refine s1 (ixW (f:=u32) (Qbc h20) rfl Uk K4.h h19 rfl rfl (kI (x:=0) rfl)) ?_;refine z [50] ?_;refine cb (ca Qnp) λr21=>?_;refine z [3,22] ?_;refine b λr23 h24=>?_;refine o (cG (Qo3 _ h24) [0] [] []) ?_;refine z [1,1,29,9,11] ?_;exact rt [(0,0)]
theorem Yb{x0 x1}:∀ r,K9 x0 x1=some r->FnOk Ub 180 [Uc x0,i64 x1] [] (u32 r) []:=by
 unfold K9;refine fs func180 λ_ _ _ _=>?_;refine z [0,3,4,22,24,33,2] ?_;refine c ?_ ?_;refine z [22] ?_;refine b λy1 h2=>?_;refine z [38,37,11,8] ?_;exact rt [];refine z [10,0,11] ?_;exact rt []
theorem Qe0{n x0 x1}:∀ r,Xq n x0 x1=some r->FnOk Ub 159 [Uc x0,Uc x1] [] (i64 r) []:=by
 unfold Xq;refine fs func159 λ_ _ _ _=>?_;refine z [0,3,4,6,24,1,24,59,45,3,12] ?_;refine sloopE 0 Lp.go (λs15=>[(0,Uc x0),(1,Uc x1),(4,i64 (0:Int)),(5,i64 s15)]) (λs15=>[]) (λt13=>[(4,i64 (0:Int))]) (λt13=>[]) eI ?_ ?_;intro hj14 s15;refine z [4,6,55,2] ?_;refine c ?_ ?_;refine z [10,4,12,22] ?_;refine cb (ca Yb) λr16=>?_;refine z [3,22] ?_;refine cb (ca Yb) λr18=>?_;refine z [3,4,22,60,2] ?_;refine c ?_ ?_;refine z [0,11,8,23,8] ?_;refine sU ?_;refine z [23,8] ?_;exact rt [];refine z [10,22,73,2] ?_;refine c ?_ ?_;refine z [0,11,23,8] ?_;refine sU ?_;refine z [23,8] ?_;exact rt [];refine z [41,26,7,21,45,9,27] ?_;exact sgo eI;refine z [35,36] ?_;exact su (sj (hj14 _) eI);intro t13;refine slpk ?_;refine z [30,7,0,11] ?_;exact rt []
theorem Qh0{n x0 x0o x0l x1}:∀ r,V8 n x0 x0o x0l x1=some r->FnOk Ub 160 [.win 0 x0o x0l,Uc x1] [(0,.sl 184 1 (List.map u32 x0))] (.tup []) [(0,.sl 184 1 (List.map u32 r))]:=by
 unfold V8;refine fs func160 λ_ _ _ _=>?_;refine z [0,3,0,3,12] ?_;refine sloopE 0 (λt=>t) (λs30=>[(0,.win 0 x0o x0l),(1,Uc x1),(4,u64 s30.2.1),(5,i64 s30.2.2)]) (λs30=>[(0,.sl 184 1 (List.map u32 s30.1))]) (λt28=>[]) (λt28=>[(0,.sl 184 1 (List.map u32 t28))]) (eR [(0,0)]) ?_ ?_;intro hj29 s30;refine z [4,22,69,33,2] ?_;refine c ?_ ?_;refine z [10,4,12,22] ?_;refine b λ_ h33=>?_;refine b λy31 h32=>?_;refine s1 (ixW (f:=u32) (Qbc h33) rfl Uk K4.h h32 rfl rfl rfl) ?_;refine z [50,51,3,22] ?_;refine cb (ca Yb) λr34=>?_;refine z [51,1,52,3,0,3] ?_;refine sjq (λs38=>[(0,.win 0 x0o x0l),(1,Uc x1),(4,u64 s38.1),(5,i64 s30.2.2),(6,u64 s38.2),(7,u64 ((r34+s30.2.1)%18446744073709551616))]) (λs38=>[(0,.sl 184 1 (List.map u32 s30.1))]) ?_ ?_;intro j36 hj37;refine z [22,60,2] ?_;refine c ?_ ?_;refine z [6,52,3,39,3] ?_;exact sj (hj37 _) (eR [(0,0)]);refine z [10] ?_;exact sj (hj37 _) (eR [(0,0)]);intro s38;refine z [21,1,1,1,62] ?_;refine sbn (F:=u64) 34 rfl λz39=>?_;refine z [56] ?_;refine b λ_ h42=>?_;refine b λy40 h41=>?_;refine s1 (ixW (f:=u32) (Qbc h42) rfl Uk K4.h h41 rfl rfl rfl) ?_;refine z [48] ?_;refine sbm (C:=λx=>.sl 184 1 (List.map u32 x)) 0 rfl λz43=>?_;refine z [27,26,7,21,29,9,27] ?_;exact sgo (eR [(0,0)]);refine z [35,36] ?_;exact su (sj (hj29 _) (eR [(0,0)]));intro t28;refine z [30] ?_;exact rt [(0,0)]
theorem Wz{n x0 x1}:∀ r,Kn n x0 x1=some r->FnOk Ub 110 [Uc x0,Uc x1] [] (Uc r) []:=by
 unfold Kn;refine fs func110 λ_ _ _ _=>?_;refine z [0] ?_;refine s1 (asg rfl (kLm (k:=1) u32)) ?_;refine z [2,6,24,1,24,29] ?_;refine b λy1 h2=>?_;refine so (mks (y:=100) (f:=u32) h2 Uk K4.h Qcl rfl rfl rfl rfl rfl rfl) ?_;refine z [3,4,0,3,12] ?_;refine sloopE 0 (λt=>t) (λs77=>[(0,Uc x0),(1,Uc x1),(4,Uc ([]:List Nat)),(5,.own 100),(6,i64 s77.2)]) (λs77=>[(100,.sl 184 1 (List.map u32 s77.1))]) (λt75=>[(4,Uc ([]:List Nat)),(5,.own 100)]) (λt75=>[(100,.sl 184 1 (List.map u32 t75))]) (eR [(100,100)]) ?_ ?_;intro hj76 s77;refine z [4,22,24,33,2] ?_;refine c ?_ ?_;refine z [10,4,12,0,3,4,0,3,12] ?_;refine sloopE 2 (λt=>t) (λs92=>[(0,Uc x0),(1,Uc x1),(4,Uc ([]:List Nat)),(5,.own 100),(6,i64 s77.2),(7,u64 s92.2.1),(8,i64 s92.2.2)]) (λs92=>[(100,.sl 184 1 (List.map u32 s92.1))]) (λt90=>[(0,Uc x0),(1,Uc x1),(4,Uc ([]:List Nat)),(5,.own 100),(6,i64 s77.2),(7,u64 t90.2)]) (λt90=>[(100,.sl 184 1 (List.map u32 t90.1))]) (eR [(100,100)]) ?_ ?_;intro hj91 s92;refine z [4,22,24,33,2] ?_;refine c ?_ ?_;refine z [10,4,12,4] ?_;refine b λy93 h94=>?_;refine b λy95 h96=>?_;refine b λy97 h98=>?_;refine sd ?_;refine zd [[],[],[],[],[],[],[],[],[],[],[],[],[],[],[],[],[100],[100],[],[],[],[]] ?_;refine de fol ?_;refine sbn (F:=u64) 7 rfl λz99=>?_;refine sbn (F:=u64) 47 rfl λz100=>?_;refine z [7,22,1,29,1,64,56] ?_;refine b λy101 h102=>?_;refine z [43,48] ?_;refine sbm (C:=λx=>.sl 184 1 (List.map u32 x)) 100 rfl λz103=>?_;refine z [2,21,63,9,27,26,7,21,29,9,27] ?_;exact sgo (eR [(100,100)]);refine z [35,36] ?_;exact su (sj (hj91 _) (eR [(100,100)]));intro t90;refine z [30,7,21,1,1,24,29,1,56] ?_;refine b λy104 h105=>?_;refine z [43,48] ?_;refine sbm (C:=λx=>.sl 184 1 (List.map u32 x)) 100 rfl λz106=>?_;refine z [27,26,7,21,29,9,27] ?_;exact sgo (eR [(100,100)]);refine z [35,36] ?_;exact su (sj (hj76 _) (eR [(100,100)]));intro t75;refine z [30,7,6] ?_;refine b λr107 h108=>?_;refine so (callL (em:=[(101,.sl 184 1 (List.map u32 r107))]) (res':=.own 101) [100] [] [(101,50)] [(101,50)] rfl (Kg _ h108) ⟨Qbd (f:=u32) (λ_=>Qda) _,trivial⟩ (Qek) ⟨.inr ⟨100,rfl,.inl ⟨rfl,.inl ⟨_,_,_,rfl,J0 (f:=u32) (λ_=>Vg) t75,rfl⟩⟩⟩,trivial⟩ (MiF.get (mi:=[]) trivial) trivial rfl ⟨rfl,trivial⟩ ⟨.inl rfl,trivial⟩ rfl ⟨.inl ⟨_,_,rfl,rfl,rc_sl (J0 (f:=u32) (λ_=>Vg) r107)⟩,trivial⟩ trivial ⟨⟨_,rfl⟩,trivial⟩ (K8 rfl) rfl) ?_;refine z [11] ?_;refine fz 101 [4,67] [] ?_;exact rt []
theorem Qm7{n x0 x1}:∀ r,Y4 n x0 x1=some r->FnOk Ub 161 [Uc x0,i64 x1] [] (Uc r) []:=by
 unfold Y4;refine fs func161 λ_ _ _ _=>?_;refine z [0] ?_;refine s1 (asg rfl (kLm (k:=1) u32)) ?_;refine z [2,6,68] ?_;refine b λy1 h2=>?_;refine so (mks (y:=100) (f:=u32) h2 Uk K4.h Qcl rfl rfl rfl rfl rfl rfl) ?_;refine z [1] ?_;refine b λy3 h4=>?_;refine o (app' 101) ?_;refine z [3,22,75] ?_;refine b λ_ h5=>?_;refine s1 (shlU uk32 (ge0 h5) rfl (k32 (x:=1) rfl) rfl) ?_;refine so (bsl (y:=102) (ls:=List.map u32 ([((1*2 ^ (min (Int.toNat (Int.tmod x1 (32:Int))) 32))%4294967296)]:List Nat)) Uk K4.h rfl rfl rfl rfl rfl ⟨rfl,rfl,(by rfl),(by rfl),trivial⟩ rfl rfl) ?_;refine sbm (C:=λx=>.sl 184 1 (List.map u32 x)) 102 rfl λz6=>?_;refine fz 101 [5,10,11] [] ?_;refine fz 102 [15] [] ?_;refine cb (ca Wz) λr7=>?_;refine z [11] ?_;exact rt []
theorem Qpr{n x0 x1}:∀ r,Qaf n x0 x1=some r->FnOk Ub 87 [Uc x0,Uc x1] [] (Uc r) []:=by
 unfold Qaf
 refine fs func87 λ_ _ _ _=>?_
 refine z [0] ?_
 refine s1 (asg rfl (kLm (k:=1) u32)) ?_
 refine z [2,6] ?_
 refine b λr1 h2=>?_
 refine o (cG (Kg _ h2) [] [(100,50)] []) ?_
 refine z [3,6] ?_
 refine b λr3 h4=>?_
 refine o (cG (Kg _ h4) [] [(101,50)] []) ?_
 refine z [3,4,6,53,31,2] ?_
 refine c ?_ ?_
 . refine z [6,11,8] ?_
   refine fz 101 [4,6,14,18] [] ?_
   exact rt []
 refine z [10,4,6,53,31,2] ?_
 refine c ?_ ?_
 . refine z [6,11,8] ?_
   refine fz 100 [4,5,12,15,22] [] ?_
   exact rt []
 refine z [10,6] ?_
 refine owW 24 (n:=r1.length) rfl rfl (List.length_map _).symm ?_
 refine b λr5 h6=>?_
 refine o (cG (Qez _ h6) [100] [] []) ?_
 refine z [1,16,16,9,3,6] ?_
 refine owW 29 (n:=r3.length) rfl rfl (List.length_map _).symm ?_
 refine b λr7 h8=>?_
 refine o (cG (Qez _ h8) [101] [] []) ?_
 refine z [1,16,16,9,3,4,12] ?_
 refine sloopE 0 (λt=>t) (λs43=>[(4,Uc ([]:List Nat)),(5,.win 100 s43.2.1 s43.2.2.1),(6,.win 101 s43.2.2.2.2.1 s43.2.2.2.2.2),(7,i64 r5.2.2.1),(8,i64 r7.2.2.1)]) (λs43=>[(100,.sl 184 1 (List.map u32 s43.1)),(101,.sl 184 1 (List.map u32 s43.2.2.2.1))]) (λt41=>[(4,Uc ([]:List Nat)),(5,.win 100 t41.2.1 t41.2.2),(7,i64 r5.2.2.1),(8,i64 r7.2.2.1)]) (λt41=>[(100,.sl 184 1 (List.map u32 t41.1))]) (eR (dI [100,101])) ?_ ?_
 . intro hj42 s43
   refine z [12,22] ?_
   refine b λy44 h45=>?_
   refine b λy46 h47=>?_
   refine b λr48 h49=>?_
   refine s1 (callL (em:=[]) [100,101] [] [] [] rfl (Qe0 _ h49) trivial (Q0e) ⟨.inr ⟨100,rfl,.inr ⟨_,_,_,_,rfl,rfl,J0 (f:=u32) (λ_=>Vg) s43.1,Qqh h45,Qqi h45⟩⟩,.inr ⟨101,rfl,.inr ⟨_,_,_,_,rfl,rfl,J0 (f:=u32) (λ_=>Vg) s43.2.2.2.1,Qqh h47,Qqi h47⟩⟩,trivial⟩ (λ_ _ h=>by cases h) trivial rfl trivial trivial rfl trivial trivial trivial (rn_id (Wm)) rfl) ?_
   refine z [3,4,6,31,2] ?_
   refine c ?_ ?_
   . refine z [35,36,77] ?_
     exact su (sj (hj42 _) (eR [(100,100)]))
   refine z [10] ?_
   refine sjq (λs52=>[(4,Uc ([]:List Nat)),(5,.win 101 s52.2.1 s52.2.2.1),(6,.win 100 s52.2.2.2.2.1 s52.2.2.2.2.2),(7,i64 r5.2.2.1),(8,i64 r7.2.2.1)]) (λs52=>[(101,.sl 184 1 (List.map u32 s52.1)),(100,.sl 184 1 (List.map u32 s52.2.2.2.1))]) ?_ ?_
   . intro j50 hj51
     refine z [6,33,2] ?_
     refine c ?_ ?_
     . refine z [6,3,6,3,21,3] ?_
       exact sj (hj51 _) (eR (dI [101,100]))
     refine z [10] ?_
     exact sj (hj51 _) (eR [(101,100),(100,101)])
   intro s52
   refine z [22] ?_
   refine b λy53 h54=>?_
   refine b λr55 h56=>?_
   refine so (callL (em:=[(101,.sl 184 1 (List.map u32 r55))]) (res':=.tup []) [100] [(0,101)] [] [(101,0)] rfl (Qh0 _ h56) ⟨Qbd (f:=u32) (λ_=>Qda) _,trivial⟩ (Q89 (Q2r)) ⟨.inl ⟨_,rfl,Qmr rfl⟩,.inr ⟨100,rfl,.inr ⟨_,_,_,_,rfl,rfl,J0 (f:=u32) (λ_=>Vg) s52.2.2.2.1,Qqh h54,Qqi h54⟩⟩,trivial⟩ (MiF.get (mi:=[(0,_)]) ⟨⟨_,_,rfl,rfl,rc_sl (J0 (f:=u32) (λ_=>Vg) s52.1)⟩,trivial⟩) ⟨⟨_,rfl⟩,trivial⟩ rfl trivial ⟨.inr rfl,trivial⟩ rfl ⟨.inl ⟨_,_,rfl,rfl,rc_sl (J0 (f:=u32) (λ_=>Vg) r55)⟩,trivial⟩ ⟨⟨_,rfl⟩,trivial⟩ trivial (Qei (Va)) rfl) ?_
   refine z [2,21] ?_
   refine b λr57 h58=>?_
   refine o (cG (Qez _ h58) [101] [] []) ?_
   refine z [1,16,16,9,27,26] ?_
   exact sgo (eR [(100,101),(101,100)])
 intro t41
 refine z [30,7,22,1,70] ?_
 refine b λy59 h60=>?_
 refine frzW 51 (f:=u32) h60 rfl rfl (J0 (f:=u32) (λ_=>Vg) t41.1) ?_
 refine cb (ca Qm7) λr61=>?_
 refine z [11] ?_
 exact rt []
theorem Qps{n x0 x1}:∀ r,Qag n x0 x1=some r->FnOk Ub 276 [Uc x0,i64 x1] [] (bl r) []:=by
 unfold Qag;refine fs func276 λ_ _ _ _=>?_;refine z [0,3,4] ?_;refine sjq (λs3=>[(0,Uc x0),(1,i64 x1),(4,bl false),(15,bl s3)]) (λs3=>[]) ?_ ?_;intro j1 hj2;refine z [21,33,1] ?_;refine sifd 9 rfl ?_ ?_;refine z [5,5,25,19,2] ?_;exact sj (hj2 _) eI;refine z [13,13,28,20,2] ?_;exact sj (hj2 _) eI;intro s3;refine c ?_ ?_;refine z [0,11,8] ?_;exact rt [];refine z [10,22,68] ?_;refine b λy4 h5=>?_;refine z [38,37,3,4,0,3,12] ?_;refine sloopE 0 (λt=>t) (λs10=>[(1,i64 x1),(4,bl false),(5,u32 s10.1),(6,i64 s10.2)]) (λs10=>[]) (λt8=>[(4,bl false),(5,u32 t8)]) (λt8=>[]) eI ?_ ?_;intro hj9 s10;refine z [4,22,75,33,2] ?_;refine c ?_ ?_;refine z [10,4,12,21,63,9,27,26,7,21,29,9,27] ?_;exact sgo eI;refine z [35,36] ?_;exact su (sj (hj9 _) eI);intro t8;refine z [30,7,6,64,58,11] ?_;exact rt []
theorem Qe1{n x0}:∀ r,Xr n x0=some r->FnOk Ub 224 [Uc x0] [] (i64 r) []:=by
 unfold Xr;refine fs func224 λ_ _ _ _=>?_;refine z [0,3,6,24,61,3,4,12] ?_;refine sloopE 0 (λt=>t) (λs19=>[(0,Uc x0),(2,i64 (0:Int)),(3,i64 s19)]) (λs19=>[]) (λt17=>[(2,i64 (0:Int)),(3,i64 t17)]) (λt17=>[]) eI ?_ ?_;intro hj18 s19;refine z [4] ?_;refine sjq (λs24=>[(0,Uc x0),(2,i64 (0:Int)),(3,i64 s19),(15,bl s24)]) (λs24=>[]) ?_ ?_;intro j22 hj23;refine z [21,49,1] ?_;refine sifd 9 rfl ?_ ?_;refine z [13,28] ?_;refine b λr25 h26=>?_;refine og' (c0 (Qps _ h26)) ?_;refine z [28,19,2] ?_;exact sj (hj23 _) eI;refine z [5,5,25,20,2] ?_;exact sj (hj23 _) eI;intro s24;refine c ?_ ?_;refine z [10,12,21,45,9,27,26] ?_;exact sgo eI;refine z [35,36] ?_;exact su (sj (hj18 _) eI);intro t17;refine z [30,7,6,11] ?_;exact rt []
theorem Qgv{n x0 x1}:∀ r,Wn n x0 x1=some r->FnOk Ub 225 [.own 0,bl x1] [(0,.sl 184 1 (List.map u32 x0))] (.tup []) [(0,.sl 184 1 (List.map u32 r))]:=by
 unfold Wn;refine fs func225 λ_ _ _ _=>?_;refine z [0,3] ?_;refine sjq (λs3=>[(0,.own 0),(4,u32 s3)]) (λs3=>[(0,.sl 184 1 (List.map u32 x0))]) ?_ ?_;intro j1 hj2;refine z [6,2] ?_;refine c ?_ ?_;refine z [39,3] ?_;exact sj (hj2 _) (eR [(0,0)]);refine z [10] ?_;exact sj (hj2 _) (eR [(0,0)]);intro s3;refine z [0,3,12] ?_;refine sloopE 0 (λt=>t) (λs22=>[(0,.own 0),(4,u32 s22.2.1),(5,i64 s22.2.2)]) (λs22=>[(0,.sl 184 1 (List.map u32 s22.1))]) (λt20=>[]) (λt20=>[(0,.sl 184 1 (List.map u32 t20))]) (eR [(0,0)]) ?_ ?_;intro hj21 s22;refine z [4,22,53,33,2] ?_;refine c ?_ ?_;refine z [10,4,12,22] ?_;refine b λy23 h24=>?_;refine z [43,50,63,3,22,1,1] ?_;refine b λy25 h26=>?_;refine z [43,50,66,1,52] ?_;refine b λy27 h28=>?_;refine z [43,48] ?_;refine sbm (C:=λx=>.sl 184 1 (List.map u32 x)) 0 rfl λz29=>?_;refine z [2,21,9,27,26,7,21,29,9,27] ?_;exact sgo (eR [(0,0)]);refine z [35,36] ?_;exact su (sj (hj21 _) (eR [(0,0)]));intro t20;refine z [30] ?_;exact rt [(0,0)]
theorem Qpt{n x0 x1}:∀ r,Qah n x0 x1=some r->FnOk Ub 162 [Uc x0,Uc x1] [] (.tup [Uc r.1,Uc r.2]) []:=by
 unfold Qah
 refine fs func162 λ_ _ _ _=>?_
 refine z [0] ?_
 refine s1 (asg rfl (kLm (k:=1) u32)) ?_
 refine s1 (asg rfl (kLm (k:=1) u32)) ?_
 refine z [2,6,24] ?_
 refine b λy1 h2=>?_
 refine so (mks (y:=100) (f:=u32) h2 Uk K4.h Qcl rfl rfl rfl rfl rfl rfl) ?_
 refine z [3,6,24,29] ?_
 refine b λy3 h4=>?_
 refine so (mks (y:=101) (f:=u32) h4 Uk K4.h Qcl rfl rfl rfl rfl rfl rfl) ?_
 refine z [3,4,6] ?_
 refine cb (ca Qe1) λr5=>?_
 refine z [45,3,12] ?_
 refine sloopE 0 (λt=>t) (λs97=>[(0,Uc x0),(1,Uc x1),(4,Uc ([]:List Nat)),(5,Uc ([]:List Nat)),(6,.own 100),(7,.own 101),(8,i64 s97.2.2)]) (λs97=>[(100,.sl 184 1 (List.map u32 s97.1)),(101,.sl 184 1 (List.map u32 s97.2.1))]) (λt95=>[(4,Uc ([]:List Nat)),(5,Uc ([]:List Nat)),(6,.own 100),(7,.own 101)]) (λt95=>[(100,.sl 184 1 (List.map u32 t95.1)),(101,.sl 184 1 (List.map u32 t95.2))]) (eR (dI [100,101])) ?_ ?_
 . intro hj96 s97
   refine z [4,6,55,2] ?_
   refine c ?_ ?_
   . refine z [10] ?_
     refine sjq (λs120=>[(0,Uc x0),(1,Uc x1),(4,Uc ([]:List Nat)),(5,Uc ([]:List Nat)),(6,.own 100),(7,.own 101),(8,i64 s97.2.2)]) (λs120=>[(100,.sl 184 1 (List.map u32 s120.1)),(101,.sl 184 1 (List.map u32 s120.2))]) ?_ ?_
     . intro j118 hj119
       refine z [12,4] ?_
       refine b λy121 h122=>?_
       refine b λ_ h123=>?_
       refine b λ_ h124=>?_
       refine b λr125 h126=>?_
       refine sd ?_
       refine zd [[],[],[],[],[],[],[],[]] ?_
       refine dx [30] [] (λst mm ⟨a30,_⟩ _=>og (shlU uk32 (ge0 h123) rfl (k32 (x:=1) rfl) (a30.trans rfl))) ?_
       refine zd [[],[],[]] ?_
       refine dd [101] (λ_ _ _ _=>cG (Qgv _ h126) [101] [] []) ?_
       refine de fol ?_
       refine sbn (F:=u32) 31 rfl λz127=>?_
       refine sbn (F:=u32) 32 rfl λz128=>?_
       refine sbn (F:=u32) 33 rfl λz129=>?_
       refine sbn (F:=bl) 34 rfl λz130=>?_
       refine z [7,6] ?_
       refine b λr131 h132=>?_
       refine o (cG (Qgv _ h132) [100] [] []) ?_
       refine z [2,22] ?_
       refine b λr133 h134=>?_
       refine s1 (callL (em:=[]) [101] [] [] [] rfl (Qe0 _ h134) trivial (Q0e) ⟨.inr ⟨101,rfl,.inl ⟨rfl,.inl ⟨_,_,_,rfl,J0 (f:=u32) (λ_=>Vg) r125,rfl⟩⟩⟩,.inl ⟨_,rfl,rn_id Qej⟩,trivial⟩ (λ_ _ h=>by cases h) trivial rfl trivial trivial rfl trivial trivial trivial (rn_id (Wm)) rfl) ?_
       refine z [55,2] ?_
       refine c ?_ ?_
       . refine z [22] ?_
         refine owW 42 (n:=r125.length) rfl rfl (List.length_map _).symm ?_
         refine b λr135 h136=>?_
         refine o (cG (Qh0 _ h136) [101] [] []) ?_
         refine z [2,21] ?_
         refine b λy137 h138=>?_
         refine z [43,50,52] ?_
         refine b λy139 h140=>?_
         refine z [43,48,27,26,7] ?_
         exact sj (hj119 _) (eR (dI [100,101]))
       refine z [41,26,7] ?_
       exact sj (hj119 _) (eR (dI [100,101]))
     intro s120
     refine z [21,45,9,27] ?_
     exact sgo (eR (dI [100,101]))
   refine z [35,36] ?_
   exact su (sj (hj96 _) (eR (dI [100,101])))
 intro t95
 refine z [30,7,6] ?_
 refine b λr141 h142=>?_
 refine so (callL (em:=[(102,.sl 184 1 (List.map u32 r141))]) (res':=.own 102) [100] [] [(102,50)] [(102,50)] rfl (Kg _ h142) ⟨Qbd (f:=u32) (λ_=>Qda) _,trivial⟩ (Qek) ⟨.inr ⟨100,rfl,.inl ⟨rfl,.inl ⟨_,_,_,rfl,J0 (f:=u32) (λ_=>Vg) t95.1,rfl⟩⟩⟩,trivial⟩ (MiF.get (mi:=[]) trivial) trivial rfl ⟨rfl,trivial⟩ ⟨.inl rfl,trivial⟩ rfl ⟨.inl ⟨_,_,rfl,rfl,rc_sl (J0 (f:=u32) (λ_=>Vg) r141)⟩,trivial⟩ trivial ⟨⟨_,rfl⟩,trivial⟩ (K8 rfl) rfl) ?_
 refine z [1] ?_
 refine b λr143 h144=>?_
 refine so (callL (em:=[(103,.sl 184 1 (List.map u32 r143))]) (res':=.own 103) [101] [] [(103,50)] [(103,50)] rfl (Kg _ h144) ⟨Qbd (f:=u32) (λ_=>Qda) _,trivial⟩ (Qek) ⟨.inr ⟨101,rfl,.inl ⟨rfl,.inl ⟨_,_,_,rfl,J0 (f:=u32) (λ_=>Vg) t95.2,rfl⟩⟩⟩,trivial⟩ (MiF.get (mi:=[]) trivial) trivial rfl ⟨rfl,trivial⟩ ⟨.inl rfl,trivial⟩ rfl ⟨.inl ⟨_,_,rfl,rfl,rc_sl (J0 (f:=u32) (λ_=>Vg) r143)⟩,trivial⟩ trivial ⟨⟨_,rfl⟩,trivial⟩ (K8 rfl) rfl) ?_
 refine z [9,11] ?_
 refine fz 102 [4,51] [] ?_
 refine fz 103 [5,53] [] ?_
 exact rt []
theorem Qh1{n x0 x1}:∀ r,Yj n x0 x1=some r->FnOk Ub 88 [Uc x0,Uc x1] [] (Uc r) []:=by
 unfold Yj;refine fs func88 λ_ _ _ _=>?_;refine z [0] ?_;refine s1 (asg rfl (kLm (k:=1) u32)) ?_;refine z [2,4,6] ?_;refine cb (ca Qis) λr1=>?_;refine z [2] ?_;refine c ?_ ?_;refine z [6] ?_;refine b λr3 h4=>?_;refine o (cG (Kg _ h4) [] [(100,50)] []) ?_;refine z [11,8] ?_;refine fz 100 [4,10] [] ?_;exact rt [];refine z [10,22] ?_;refine cb (ca Qpt) λr5=>?_;refine z [1,16,16,9,3,6,11] ?_;exact rt []
theorem Kh{n x0}:∀ r,Jp n x0=some r->FnOk Ub 21 [Qc x0] [] (Qc r) []:=by
 unfold Jp
 refine fs func21 λ_ _ _ _=>?_
 refine z [0] ?_
 refine o (bx' 100) ?_
 refine o (al' 101) ?_
 refine z [2,0,15] ?_
 refine b λr1 h2=>?_
 refine o (cG (Kg _ h2) [] [(102,50)] []) ?_
 refine z [3,0,15] ?_
 refine b λr3 h4=>?_
 refine o (cG (Kg _ h4) [] [(103,50)] []) ?_
 refine z [3,4] ?_
 refine sjq (λs7=>[(1,.own 100),(2,.own 101),(3,.own 102),(4,.own 103),(19,bl s7)]) (λs7=>[(100,.bx 34 (Qc x0)),(101,.bx 34 (Qc (⟨false,[],[]⟩:Qa))),(102,.sl 184 1 (List.map u32 r1)),(103,.sl 184 1 (List.map u32 r3))]) ?_ ?_
 . intro j5 hj6
   refine z [21,53,31,1] ?_
   refine sifd 15 rfl ?_ ?_
   . refine z [5,25,19,2] ?_
     exact sj (hj6 _) (eR (dI [100,101,102,103]))
   refine z [13,28,20,2] ?_
   exact sj (hj6 _) (eR (dI [100,101,102,103]))
 intro s7
 refine c ?_ ?_
 . refine z [0] ?_
   refine so (bsl (y:=104) (ls:=List.map u32 ([]:List Nat)) Uk K4.h rfl rfl rfl rfl rfl trivial rfl rfl) ?_
   refine so (bsl (y:=105) (ls:=List.map u32 ([1]:List Nat)) Uk K4.h rfl rfl rfl rfl rfl ⟨rfl,(k32 (x:=1) rfl),(by rfl),(by rfl),trivial⟩ rfl rfl) ?_
   refine fz 104 [20] [] ?_
   refine fz 105 [21] [] ?_
   refine s1 (bld (l:=[bl false,Uc ([]:List Nat),Uc ([1]:List Nat)]) pl_34.h ti_34.h Qx ⟨_,_,_,rfl,rfl,rfl,rfl,(szk (k:=1) rfl rfl),⟨_,_,_,rfl,rfl,rfl,rfl,(szk (k:=1) rfl rfl),rfl⟩⟩ rfl) ?_
   refine z [18,14,8] ?_
   exact rt []
 refine z [10] ?_
 refine sjq (λs34=>[(1,.own 100),(2,.own 101),(3,Uc s34.1),(4,Uc s34.2)]) (λs34=>[(100,.bx 34 (Qc x0)),(101,.bx 34 (Qc (⟨false,[],[]⟩:Qa)))]) ?_ ?_
 . intro j32 hj33
   refine z [6] ?_
   refine b λr35 h36=>?_
   refine s1 (callL (em:=[]) [102] [] [] [] rfl (Qis _ h36) trivial (pl_bl) ⟨.inr ⟨102,rfl,.inl ⟨rfl,.inl ⟨_,_,_,rfl,J0 (f:=u32) (λ_=>Vg) r1,rfl⟩⟩⟩,trivial⟩ (λ_ _ h=>by cases h) trivial rfl trivial trivial rfl trivial trivial trivial (rn_id (if_bl)) rfl) ?_
   refine z [42,2] ?_
   refine c ?_ ?_
   . refine z [22] ?_
     refine fz 103 [4,26] [] ?_
     refine fz 102 [3,23,27] [] ?_
     refine cb (ca Qpr) λr37=>?_
     refine z [3,22] ?_
     refine cb (ca Qh1) λr39=>?_
     refine z [3,21,1] ?_
     refine cb (ca Qh1) λr41=>?_
     refine z [3] ?_
     exact sj (hj33 _) (eR (dI [100,101]))
   refine z [41] ?_
   refine fz 102 [3,23] [] ?_
   refine fz 103 [4] [] ?_
   refine z [7] ?_
   exact sj (hj33 _) (eR (dI [100,101]))
 intro s34
 refine z [0,15,1,1] ?_
 refine s1 (bld (l:=[bl x0.Neg,Uc s34.2,Uc s34.1]) pl_34.h ti_34.h Qx ⟨_,_,_,rfl,rfl,rfl,rfl,(szk (k:=1) rfl rfl),⟨_,_,_,rfl,rfl,rfl,rfl,(szk (k:=1) rfl rfl),⟨_,_,_,rfl,rfl,rfl,rfl,(szk (k:=1) rfl rfl),rfl⟩⟩⟩ rfl) ?_
 refine z [18,14] ?_
 exact rt []
theorem Qh2{n x0 x1}:∀ r,Yg n x0 x1=some r->FnOk Ub 183 [Uc x0,Uc x1] [] (bl r) []:=by
 unfold Yg;refine fs func183 λ_ _ _ _=>?_;refine z [0,3,4,6,24,1,24,57,2] ?_;refine c ?_ ?_;refine z [0,11,8] ?_;exact rt [];refine z [10,4,0,3,12] ?_;refine sloopE 0 Lp.go (λs13=>[(0,Uc x0),(1,Uc x1),(4,bl false),(5,i64 s13)]) (λs13=>[]) (λt11=>[(4,bl false)]) (λt11=>[]) eI ?_ ?_;intro hj12 s13;refine z [4,22,24,33,2] ?_;refine c ?_ ?_;refine z [10,4,12,4] ?_;refine b λy14 h15=>?_;refine b λy16 h17=>?_;refine sd ?_;refine zd [[],[],[],[],[],[],[],[],[]] ?_;refine de fol ?_;refine z [7] ?_;refine c ?_ ?_;refine z [0,11,23,8] ?_;refine sU ?_;refine z [23,8] ?_;exact rt [];refine z [41,26,7,21,29,9,27] ?_;exact sgo eI;refine z [35,36] ?_;exact su (sj (hj12 _) eI);intro t11;refine slpk ?_;refine z [30,7,0,11] ?_;exact rt []
theorem Xj{n x0 x1}:∀ r,J6 n x0 x1=some r->FnOk Ub 112 [Qc x0,Qc x1] [] (bl r) []:=by
 unfold J6;refine fs func112 λ_ _ _ _=>?_;refine z [0] ?_;refine o (bx' 100) ?_;refine o (bx' 101) ?_;refine z [3] ?_;refine sjq (λs7=>[(4,bl s7)]) (λs7=>[]) ?_ ?_;intro j5 hj6;refine z [39,15,15,74,1] ?_;refine sifd 10 rfl ?_ ?_;refine z [13,13] ?_;refine b λr8 h9=>?_;refine og' (c0 (Qh2 _ h9)) ?_;refine z [19,1] ?_;refine sifd 17 rfl ?_ ?_;refine z [13,13] ?_;refine b λr10 h11=>?_;refine og' (c0 (Qh2 _ h11)) ?_;refine z [19,3] ?_;exact sj (hj6 _) (eR []);refine z [5,5,25,20,3] ?_;exact sj (hj6 _) (eR []);refine z [5,5,25,20,1,5,5,25,20,3] ?_;exact sj (hj6 _) (eR []);intro s7;refine z [14] ?_;exact rt []
theorem Qpu{n x0 x1 x2 x3}:∀ r,Yw n x0 x1 x2 x3=some r->FnOk Ub 154 [Jw x0,i64 x1,i64 x2,i64 x3] [] (bl r) []:=by
 unfold Yw;refine fs func154 λ_ _ _ _=>?_;refine z [0] ?_;refine o (bx' 100) ?_;refine z [3,4,0,15,31,2] ?_;refine c ?_ ?_;refine sjq (λs9=>[(1,i64 x1),(2,i64 x2),(3,i64 x3),(4,.own 100),(8,bl s9)]) (λs9=>[(100,.bx 250 (Jw x0))]) ?_ ?_;intro j7 hj8;refine sif (λhb10=>?_) (λhb10=>?_);refine sif (λhb11=>?_) (λhb11=>?_);refine b λr12 h13=>?_;refine b λr14 h15=>?_;refine sd ?_;refine zd [[100],[100],[]] ?_;refine dd [] (λ_ _ _ _=>obk hb10 ops) ?_;refine zd [[100],[100],[],[]] ?_;refine dd [] (λ_ _ _ _=>obk hb11 ops) ?_;refine zd [[100],[100]] ?_;refine dG [] (λ_ _ _ _=>c0 (Kh _ h13)) ?_;refine zd [[100],[100]] ?_;refine dG [] (λ_ _ _ _=>c0 (Xj _ h15)) ?_;refine zd [[],[]] ?_;refine de fol ?_;refine z [7] ?_;exact sj (hj8 _) (eR [(100,100)]);refine sd ?_;refine zd [[100],[100],[]] ?_;refine dd [] (λ_ _ _ _=>obk hb10 ops) ?_;refine zd [[100],[100],[],[]] ?_;refine dd [] (λ_ _ _ _=>obk hb11 ops) ?_;refine zd [[],[],[],[],[],[],[],[]] ?_;refine de fol ?_;refine z [7] ?_;exact sj (hj8 _) (eR [(100,100)]);refine sd ?_;refine zd [[100],[100],[]] ?_;refine dd [] (λ_ _ _ _=>obk hb10 ops) ?_;refine zd [[],[],[],[],[],[],[],[],[],[],[],[],[]] ?_;refine de fol ?_;refine z [7] ?_;exact sj (hj8 _) (eR [(100,100)]);intro s9;refine z [14,8] ?_;exact rt [];refine z [10,4] ?_;refine sjq (λs18=>[(1,i64 x1),(2,i64 x2),(3,i64 x3),(4,.own 100),(8,bl false),(44,bl s18)]) (λs18=>[(100,.bx 250 (Jw x0))]) ?_ ?_;intro j16 hj17;refine z [39,40,46,47,1] ?_;refine sifd 31 rfl ?_ ?_;refine z [5,5,25,19,1,5,5,25,19,2] ?_;exact sj (hj17 _) (eR [(100,100)]);refine z [13,13,28,20,1] ?_;refine sifd 38 rfl ?_ ?_;refine z [5,5,25,19,2] ?_;exact sj (hj17 _) (eR [(100,100)]);refine z [13,13,28,20,2] ?_;exact sj (hj17 _) (eR [(100,100)]);intro s18;refine c ?_ ?_;refine z [0,11,8] ?_;exact rt [];refine z [10,4,0,15,31,2] ?_;refine c ?_ ?_;refine sjq (λs21=>[(1,i64 x1),(2,i64 x2),(3,i64 x3),(4,.own 100),(8,bl s21)]) (λs21=>[(100,.bx 250 (Jw x0))]) ?_ ?_;intro j19 hj20;refine z [39,15,31,1] ?_;refine sifd 51 rfl ?_ ?_;refine z [13,28,19,3] ?_;exact sj (hj20 _) (eR [(100,100)]);refine z [5,25,20,3] ?_;exact sj (hj20 _) (eR [(100,100)]);intro s21;refine z [14,8] ?_;exact rt [];refine z [10,4,0,15,31,2] ?_;refine c ?_ ?_;refine sjq (λs26=>[(1,i64 x1),(3,i64 x3),(4,.own 100),(8,bl s26)]) (λs26=>[(100,.bx 250 (Jw x0))]) ?_ ?_;intro j24 hj25;refine z [39,15,1,45] ?_;refine cb (ca Ke) λr27=>?_;refine z [1] ?_;refine sifd 64 rfl ?_ ?_;refine z [13,28,19,3] ?_;exact sj (hj25 _) (eR [(100,100)]);refine z [5,25,20,3] ?_;exact sj (hj25 _) (eR [(100,100)]);intro s26;refine z [14,8] ?_;exact rt [];refine z [10,4,0,15,31,2] ?_;refine c ?_ ?_;refine sjq (λs33=>[(1,i64 x1),(4,.own 100),(8,bl s33)]) (λs33=>[(100,.bx 250 (Jw x0))]) ?_ ?_;intro j31 hj32;refine z [39,15,1,45] ?_;refine cb (ca Ke) λr34=>?_;refine z [1] ?_;refine sifd 77 rfl ?_ ?_;refine z [13,28,19,3] ?_;exact sj (hj32 _) (eR [(100,100)])
 refine z [5,25,20,3] ?_;exact sj (hj32 _) (eR [(100,100)]);intro s33;refine z [14,8] ?_;exact rt [];refine z [10,4,0,15,31,2] ?_;refine c ?_ ?_;refine sjq (λs40=>[(1,i64 x1),(4,.own 100),(8,bl s40)]) (λs40=>[(100,.bx 250 (Jw x0))]) ?_ ?_;intro j38 hj39;refine z [39,15,1,45] ?_;refine cb (ca Ke) λr41=>?_;refine z [1] ?_;refine sifd 90 rfl ?_ ?_;refine z [13,28,19,3] ?_;exact sj (hj39 _) (eR [(100,100)]);refine z [5,25,20,3] ?_;exact sj (hj39 _) (eR [(100,100)]);intro s40;refine z [14,8] ?_;exact rt [];refine z [10,4,0,15,31,2] ?_;refine c ?_ ?_;refine sjq (λs49=>[(1,i64 x1),(4,.own 100),(8,bl s49)]) (λs49=>[(100,.bx 250 (Jw x0))]) ?_ ?_;intro j47 hj48;refine z [39,15,1,45] ?_;refine cb (ca Ke) λr50=>?_;refine z [1] ?_;refine sifd 103 rfl ?_ ?_;refine z [13] ?_;refine b λr52 h53=>?_;refine og' (c0 (Ke _ h53)) ?_;refine z [19,3] ?_;exact sj (hj48 _) (eR [(100,100)]);refine z [5,25,20,3] ?_;exact sj (hj48 _) (eR [(100,100)]);intro s49;refine z [14,8] ?_;exact rt [];refine z [10] ?_;refine sjq (λs62=>[(8,bl s62)]) (λs62=>[]) ?_ ?_;intro j60 hj61;refine z [39,15] ?_;refine cb (ca Ke) λr63=>?_;refine z [1] ?_;refine sifd 111 rfl ?_ ?_;refine z [13,13] ?_;refine b λr65 h66=>?_;refine og' (c0 (Ke _ h66)) ?_;refine z [19,1] ?_;refine sifd 118 rfl ?_ ?_;refine z [13,13] ?_;refine b λr67 h68=>?_;refine og' (c0 (Ke _ h68)) ?_;refine z [19,3] ?_;exact sj (hj61 _) (eR []);refine z [5,5,25,20,3] ?_;exact sj (hj61 _) (eR []);refine z [5,5,25,20,1,5,5,25,20,3] ?_;exact sj (hj61 _) (eR []);intro s62;refine z [14] ?_;exact rt []
theorem Qnq{n x0}:∀ r,Zl n x0=some r->FnOk Ub 83 [Ja x0] [] (i64 r) []:=by
 unfold Zl;refine fs func83 λ_ _ _ _=>?_;refine z [0] ?_;refine o (bx' 100) ?_;refine z [3,4] ?_;refine sjq (λs7=>[(1,.own 100),(2,i64 (0:Int)),(28,bl s7)]) (λs7=>[(100,.bx 25 (Ja x0))]) ?_ ?_;intro j5 hj6;refine z [39,15] ?_;refine cb (ca Ke) λr8=>?_;refine z [42,1] ?_;refine sifd 9 rfl ?_ ?_;refine z [5,5,19,1,5,5,5,19,1,5,5,19,2] ?_;exact sj (hj6 _) (eR [(100,100)]);refine z [13] ?_;refine b λr10 h11=>?_;refine og' (c0 (Ke _ h11)) ?_;refine z [28,20,1] ?_;refine sifd 15 rfl ?_ ?_;refine z [5,5,5,19,1,5,5,19,2] ?_;exact sj (hj6 _) (eR [(100,100)]);refine z [13,13,13,20,1] ?_;refine sifd 23 rfl ?_ ?_;refine z [5,5,19,2] ?_;exact sj (hj6 _) (eR [(100,100)]);refine z [13,13,20,2] ?_;exact sj (hj6 _) (eR [(100,100)]);intro s7;refine c ?_ ?_;refine z [0,11,8] ?_;exact rt [];refine z [10,4,0,3,12] ?_;refine sloopE 0 Lp.go (λs24=>[(1,.own 100),(2,i64 (0:Int)),(3,i64 s24)]) (λs24=>[(100,.bx 25 (Ja x0))]) (λt22=>[(1,.own 100),(2,i64 (0:Int))]) (λt22=>[(100,.bx 25 (Ja x0))]) (eR [(100,100)]) ?_ ?_;intro hj23 s24;refine z [4,6,15,24,33,2] ?_;refine c ?_ ?_;refine z [10,4,12,4] ?_;refine b λy25 h26=>?_;refine b λr27 h28=>?_;refine sd ?_;refine zd [[100],[100],[],[],[],[],[100],[100],[100],[100]] ?_;refine dd [] (λ_ _ _ _=>c0 (Qpu _ h28)) ?_;refine zd [[]] ?_;refine de fol ?_;refine z [7] ?_;refine c ?_ ?_;refine z [6,11,23,8] ?_;refine sU ?_;refine z [23,8] ?_;exact rt [];refine z [41,26,7,21,29,9,27] ?_;exact sgo (eR [(100,100)]);refine z [35,36] ?_;exact su (sj (hj23 _) (eR [(100,100)]));intro t22;refine slpk ?_;refine z [30,7,4,0,3,12] ?_;refine sloopE 2 Lp.go (λs41=>[(1,.own 100),(2,i64 (0:Int)),(4,i64 s41)]) (λs41=>[(100,.bx 25 (Ja x0))]) (λt39=>[(2,i64 (0:Int))]) (λt39=>[]) (eR [(100,100)]) ?_ ?_;intro hj40 s41;refine z [4,6,15,24,33,2] ?_;refine c ?_ ?_;refine z [10,4,12,4] ?_;refine b λy42 h43=>?_;refine b λr44 h45=>?_;refine sd ?_;refine zd [[100],[100],[],[],[],[100],[100],[],[]] ?_;refine dd [] (λ_ _ _ _=>c0 (Ke _ h45)) ?_;refine zd [[]] ?_;refine de fol ?_;refine z [7] ?_;refine c ?_ ?_;refine z [0,15,24,11,23,8] ?_;refine sU ?_;refine z [23,8] ?_;exact rt [];refine z [41,26,7,21,29,9,27] ?_;exact sgo (eR [(100,100)]);refine z [35,36] ?_;exact su (sj (hj40 _) (eR []));intro t39;refine slpk ?_;refine z [30,7,0,11] ?_;exact rt []
theorem Qa7{x0}:∀ r,Vy x0=some r->FnOk Ub 331 [u8 x0] [] (bl r) []:=by
 unfold Vy;refine fs func331 λ_ _ _ _=>?_;refine z [0,3] ?_;refine sjq (λs3=>[(2,bl s3)]) (λs3=>[]) ?_ ?_;intro j1 hj2;refine z [21,67,1] ?_;refine sifd 5 rfl ?_ ?_;refine z [13,19,3] ?_;exact sj (hj2 _) eI;refine z [5,20,3] ?_;exact sj (hj2 _) eI;intro s3;refine z [14] ?_;exact rt []
theorem Qcq{x0}:∀ r,Wo x0=some r->FnOk Ub 332 [u8 x0] [] (bl r) []:=by
 unfold Wo;refine fs func332 λ_ _ _ _=>?_;refine z [0,3] ?_;refine sjq (λs3=>[(2,bl s3)]) (λs3=>[]) ?_ ?_;intro j1 hj2;refine z [21,67,1] ?_;refine sifd 5 rfl ?_ ?_;refine z [13,19,1] ?_;refine sifd 9 rfl ?_ ?_;refine z [5,25,34,34,25,19,1,5,19,3] ?_;exact sj (hj2 _) eI;refine z [13,28] ?_;refine sifd 12 rfl ?_ ?_;refine z [13,28,20,1] ?_;refine sifd 17 rfl ?_ ?_;refine z [5,19,3] ?_;exact sj (hj2 _) eI;refine z [13,20,3] ?_;exact sj (hj2 _) eI;refine z [5,28,20,1,13,20,3] ?_;exact sj (hj2 _) eI;refine z [5,20,1,13,28] ?_;refine sifd 12 rfl ?_ ?_;refine z [13,28,20,1] ?_;refine sifd 17 rfl ?_ ?_;refine z [5,19,3] ?_;exact sj (hj2 _) eI;refine z [13,20,3] ?_;exact sj (hj2 _) eI;refine z [5,28,20,1,13,20,3] ?_;exact sj (hj2 _) eI;intro s3;refine z [14] ?_;exact rt []
theorem Qo4{x0 x1}:∀ r,Z1 x0 x1=some r->FnOk Ub 273 [i64 x0,u8 x1] [] (bl r) []:=by
 unfold Z1;refine fs func273 λ_ _ _ _=>?_;refine z [0,3] ?_;refine sjq (λs13=>[(4,bl s13)]) (λs13=>[]) ?_ ?_;intro j11 hj12;refine z [21,31,1] ?_;refine sifd 7 rfl ?_ ?_;refine z [28] ?_;refine b λr14 h15=>?_;refine og' (c0 (Qa7 _ h15)) ?_;refine z [19,1] ?_;refine sifd 11 rfl ?_ ?_;refine z [5,25,34,34,34,34,34,34,25,19,3] ?_;exact sj (hj12 _) eI;refine z [13,28] ?_;refine sifd 14 rfl ?_ ?_;refine z [28] ?_;refine b λr16 h17=>?_;refine og' (c0 (Qa7 _ h17)) ?_;refine z [28] ?_;refine sifd 17 rfl ?_ ?_;refine z [5,13,20,3] ?_;exact sj (hj12 _) eI;refine z [28] ?_;refine b λr18 h19=>?_;refine og' (c0 (Qcq _ h19)) ?_;refine z [13,20,3] ?_;exact sj (hj12 _) eI;refine z [5,25,34,34,25,28,20,3] ?_;exact sj (hj12 _) eI;refine z [5,20,1,13,28] ?_;refine sifd 14 rfl ?_ ?_;refine z [28] ?_;refine b λr20 h21=>?_;refine og' (c0 (Qa7 _ h21)) ?_;refine z [28] ?_;refine sifd 17 rfl ?_ ?_;refine z [5,13,20,3] ?_;exact sj (hj12 _) eI;refine z [28] ?_;refine b λr22 h23=>?_;refine og' (c0 (Qcq _ h23)) ?_;refine z [13,20,3] ?_;exact sj (hj12 _) eI;refine z [5,25,34,34,25,28,20,3] ?_;exact sj (hj12 _) eI;intro s13;refine z [14] ?_;exact rt []
end Go.Proofs.YtlfphifbmoccgaaGreatDoor
