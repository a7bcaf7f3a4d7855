import Derived.Test.YtlihkcaoachkdaaGreatDoorGen0
set_option maxRecDepth 100000
set_option maxHeartbeats 4000000
namespace Go.Proofs.YtlihkcaoachkdaaGreatDoor
open Go Go.RowKit
theorem Qp7:∀ r,Qf0 =some r->FnOk Tryz.prog 160 [] [] (Qfg r) []:=by
 unfold Qf0
 refine fs Tryz.func160 λw S0 γ hγ=>?_;refine z [2] ?_;refine o (al' 100) ?_;refine z [1,2] ?_
 refine s1 (bldA (l:=[str ([101,117,108,101,114,10,48,124,10,98,32,49]:List UInt8),str ([104,101,117,110,10,48,124,10,49,124,49,10,98,32,49,47,50,44,49,47,50,10,101,32,49,44,48]:List UInt8),str ([109,105,100,112,111,105,110,116,10,48,124,10,49,47,50,124,49,47,50,10,98,32,48,44,49,10,101,32,49,44,48]:List UInt8),str ([114,107,52,10,48,124,10,49,47,50,124,49,47,50,10,49,47,50,124,48,44,49,47,50,10,49,124,48,44,48,44,49,10,98,32,49,47,54,44,49,47,51,44,49,47,51,44,49,47,54]:List UInt8),str ([98,115,50,51,10,48,124,10,49,47,50,124,49,47,50,10,51,47,52,124,48,44,51,47,52,10,49,124,50,47,57,44,49,47,51,44,52,47,57,10,98,32,50,47,57,44,49,47,51,44,52,47,57,44,48,10,101,32,55,47,50,52,44,49,47,52,44,49,47,51,44,49,47,56]:List UInt8),str ([100,112,52,53,10,48,124,10,49,47,53,124,49,47,53,10,51,47,49,48,124,51,47,52,48,44,57,47,52,48,10,52,47,53,124,52,52,47,52,53,44,45,53,54,47,49,53,44,51,50,47,57,10,56,47,57,124,49,57,51,55,50,47,54,53,54,49,44,45,50,53,51,54,48,47,50,49,56,55,44,54,52,52,52,56,47,54,53,54,49,44,45,50,49,50,47,55,50,57,10,49,124,57,48,49,55,47,51,49,54,56,44,45,51,53,53,47,51,51,44,52,54,55,51,50,47,53,50,52,55,44,52,57,47,49,55,54,44,45,53,49,48,51,47,49,56,54,53,54,10,49,124,51,53,47,51,56,52,44,48,44,53,48,48,47,49,49,49,51,44,49,50,53,47,49,57,50,44,45,50,49,56,55,47,54,55,56,52,44,49,49,47,56,52,10,98,32,51,53,47,51,56,52,44,48,44,53,48,48,47,49,49,49,51,44,49,50,53,47,49,57,50,44,45,50,49,56,55,47,54,55,56,52,44,49,49,47,56,52,44,48,10,101,32,53,49,55,57,47,53,55,54,48,48,44,48,44,55,53,55,49,47,49,54,54,57,53,44,51,57,51,47,54,52,48,44,45,57,50,48,57,55,47,51,51,57,50,48,48,44,49,56,55,47,50,49,48,48,44,49,47,52,48]:List UInt8)]) Tryz.underlying233 Qrd.h ti_9.h Qkh rfl ⟨_,_,_,(kS (s:=[101,117,108,101,114,10,48,124,10,98,32,49]) rfl),rfl,rfl,rfl,rfl,rfl,⟨_,_,_,(kS (s:=[104,101,117,110,10,48,124,10,49,124,49,10,98,32,49,47,50,44,49,47,50,10,101,32,49,44,48]) rfl),rfl,rfl,rfl,rfl,rfl,⟨_,_,_,(kS (s:=[109,105,100,112,111,105,110,116,10,48,124,10,49,47,50,124,49,47,50,10,98,32,48,44,49,10,101,32,49,44,48]) rfl),rfl,rfl,rfl,rfl,rfl,⟨_,_,_,(kS (s:=[114,107,52,10,48,124,10,49,47,50,124,49,47,50,10,49,47,50,124,48,44,49,47,50,10,49,124,48,44,48,44,49,10,98,32,49,47,54,44,49,47,51,44,49,47,51,44,49,47,54]) rfl),rfl,rfl,rfl,rfl,rfl,⟨_,_,_,(kS (s:=[98,115,50,51,10,48,124,10,49,47,50,124,49,47,50,10,51,47,52,124,48,44,51,47,52,10,49,124,50,47,57,44,49,47,51,44,52,47,57,10,98,32,50,47,57,44,49,47,51,44,52,47,57,44,48,10,101,32,55,47,50,52,44,49,47,52,44,49,47,51,44,49,47,56]) rfl),rfl,rfl,rfl,rfl,rfl,⟨_,_,_,(kS (s:=[100,112,52,53,10,48,124,10,49,47,53,124,49,47,53,10,51,47,49,48,124,51,47,52,48,44,57,47,52,48,10,52,47,53,124,52,52,47,52,53,44,45,53,54,47,49,53,44,51,50,47,57,10,56,47,57,124,49,57,51,55,50,47,54,53,54,49,44,45,50,53,51,54,48,47,50,49,56,55,44,54,52,52,52,56,47,54,53,54,49,44,45,50,49,50,47,55,50,57,10,49,124,57,48,49,55,47,51,49,54,56,44,45,51,53,53,47,51,51,44,52,54,55,51,50,47,53,50,52,55,44,52,57,47,49,55,54,44,45,53,49,48,51,47,49,56,54,53,54,10,49,124,51,53,47,51,56,52,44,48,44,53,48,48,47,49,49,49,51,44,49,50,53,47,49,57,50,44,45,50,49,56,55,47,54,55,56,52,44,49,49,47,56,52,10,98,32,51,53,47,51,56,52,44,48,44,53,48,48,47,49,49,49,51,44,49,50,53,47,49,57,50,44,45,50,49,56,55,47,54,55,56,52,44,49,49,47,56,52,44,48,10,101,32,53,49,55,57,47,53,55,54,48,48,44,48,44,55,53,55,49,47,49,54,54,57,53,44,51,57,51,47,54,52,48,44,45,57,50,48,57,55,47,51,51,57,50,48,48,44,49,56,55,47,50,49,48,48,44,49,47,52,48]) rfl),rfl,rfl,rfl,rfl,rfl,rfl⟩⟩⟩⟩⟩⟩ rfl) ?_
 refine z [34,1,8] ?_;exact rt []
theorem Qrj{x0}:∀ r,Qgv x0=some r->FnOk Tryz.prog 161 [str x0] [] (str r) []:=by
 unfold Qgv
 refine fs Tryz.func161 λw S0 γ hγ=>?_;refine z [2,31,1,2,30] ?_;refine cb (ca Qfz) λr1=>?_;refine z [30,35,35,35,31,31,31,1,2,30,31,1,8] ?_;exact rt []
theorem Zb{x0}:∀ r,Wh x0=some r->FnOk Tryz.prog 253 [.own 0] [(0,.bx 323 (Jf x0))] (.tup [str r.1,i64 r.2.1,bl r.2.2.1]) [(0,.bx 323 (Jf r.2.2.2))]:=by
 unfold Wh
 refine fs Tryz.func253 λw S0 γ hγ=>?_;refine z [2,31,31,31,1,5,2,30,48,33,36,1] ?_;refine c ?_ ?_
 . refine z [5] ?_;refine sd ?_;refine zd [[],[0],[0],[0],[],[],[]] ?_;refine de fol ?_;refine z [4,8,10] ?_;exact rt [(0,0)]
 refine z [9,4,2,30,48,33,36,31,1,2,30,48,33,36] ?_;refine cb (ca Qfz) λr1=>?_;refine z [30,35,35,35,31,31,31,1,2,30,30,30,30,44,48,33] ?_;refine o (stP (Jf (⟨r1.2.1,x0.at_,x0.over⟩:Q2)) [0]) ?_;refine z [48,33] ?_;refine o (stP (Jf (⟨r1.2.1,x0.at_,!r1.2.2⟩:Q2)) [2]) ?_;refine z [1,2,30,48,33,36,30,54,40,48,33] ?_;refine o (stP (Jf (⟨r1.2.1,wrap64 (x0.at_+(r1.1.length:Int)),!r1.2.2⟩:Q2)) [1]) ?_;refine z [1] ?_;refine sjq (λs5=>[(2,str ([]:List UInt8)),(3,i64 (0:Int)),(4,bl false),(5,i64 x0.at_),(6,str r1.1)]) (λs5=>[(0,.bx 323 (Jf s5))]) ?_ ?_
 . intro j3 hj4
   refine z [2,30,1] ?_;refine c ?_ ?_
   . refine z [6,30,48,33,36,40,48,33] ?_;refine o (stP (Jf (⟨r1.2.1,wrap64 ((wrap64 (x0.at_+(r1.1.length:Int)))+(1:Int)),!r1.2.2⟩:Q2)) [1]) ?_;refine z [1] ?_;exact sj (hj4 _) (eR [(0,0)])
   refine z [9,4] ?_;exact sj (hj4 _) (eR [(0,0)])
 intro s5
 refine z [2,30,30,31,31,31,1,8] ?_;exact rt [(0,0)]
theorem Qfj{x0}:∀ r,Yq x0=some r->FnOk Tryz.prog 306 [u8 x0] [] (bl r) []:=by
 unfold Yq
 refine fs Tryz.func306 λw S0 γ hγ=>?_;refine z [2,31,1] ?_;refine sjq (λs3=>[(2,bl s3)]) (λs3=>[]) ?_ ?_
 . intro j1 hj2
   refine z [6,30,71,30] ?_;refine sifd 5 rfl ?_ ?_
   . refine z [22,22,38,31,1] ?_;exact sj (hj2 _) eI
   refine z [23,23,37,31,1] ?_;exact sj (hj2 _) eI
 intro s3
 refine z [8] ?_;exact rt []
theorem Qg2{x0}:∀ r,Yz x0=some r->FnOk Tryz.prog 307 [u8 x0] [] (bl r) []:=by
 unfold Yz
 refine fs Tryz.func307 λw S0 γ hγ=>?_;refine z [2,31,1] ?_;refine sjq (λs3=>[(2,bl s3)]) (λs3=>[]) ?_ ?_
 . intro j1 hj2
   refine z [6,30,71,30] ?_;refine sifd 5 rfl ?_ ?_
   . refine z [22,22,38,30] ?_;refine sifd 9 rfl ?_ ?_
     . refine z [23,23,23,24,24,23,38,30,23,23,38,31,1] ?_;exact sj (hj2 _) eI
     refine z [22,22,22] ?_;refine sifd 12 rfl ?_ ?_
     . refine z [22,22,22,37,30] ?_;refine sifd 17 rfl ?_ ?_
       . refine z [23,23,38,31,1] ?_;exact sj (hj2 _) eI
       refine z [22,22,37,31,1] ?_;exact sj (hj2 _) eI
     refine z [23,23,22,37,30,22,22,37,31,1] ?_;exact sj (hj2 _) eI
   refine z [23,23,37,30,22,22,22] ?_;refine sifd 12 rfl ?_ ?_
   . refine z [22,22,22,37,30] ?_;refine sifd 17 rfl ?_ ?_
     . refine z [23,23,38,31,1] ?_;exact sj (hj2 _) eI
     refine z [22,22,37,31,1] ?_;exact sj (hj2 _) eI
   refine z [23,23,22,37,30,22,22,37,31,1] ?_;exact sj (hj2 _) eI
 intro s3
 refine z [8] ?_;exact rt []
theorem Qt2{n:Nat}{x0}:∀ r,Qd3 n x0=some r->FnOk Tryz.prog 308 [u8 x0] [] (bl r) []:=by
 unfold Qd3
 refine fs Tryz.func308 λw S0 γ hγ=>?_;refine z [2,31,1,5,2] ?_;refine so (rngS (y:=100) Tryz.underlying9 (kS (s:=[43,45,42,47,94,40,41,91,93,44,59,61]) rfl) rfl rfl) ?_;refine z [1,7] ?_;refine sloopE 0 Lp.go (λs9=>[(0,u8 x0),(2,bl false),(5,.own 100)]) (λs9=>[(100,.ob (sIt ([43,45,42,47,94,40,41,91,93,44,59,61]:List UInt8) s9))]) (λt7=>[(2,bl false)]) (λt7=>[]) (eR [(100,100)]) ?_ ?_
 . intro hj8 s9
   refine z [2] ?_;refine sif (λhb10=>?_) (λhb10=>?_)
   . refine so (nxtT hb10 rfl rfl rfl rfl) ?_;refine z [35,1,5] ?_;refine scT rfl ?_;refine z [9,4,7,2,35] ?_;refine sbn (F:=i32) 8 rfl λz11=>?_;refine z [31,1,2,30,83,30,66,1] ?_;refine c ?_ ?_
     . refine z [2,31,1,8,12] ?_;refine sU ?_;refine z [12,10] ?_;exact rt []
     refine z [9,11] ?_;exact sgo (eR [(100,100)])
   . refine s1 (nxtF hb10 rfl rfl rfl) ?_;refine z [35,1,5] ?_;refine scF rfl ?_;refine z [14,15] ?_;exact su (sj (hj8 _) (eR []))
 intro t7
 refine slpk ?_;refine z [13,4,2,31,1,8] ?_;exact rt []
theorem Qt3{n:Nat}{x0}:∀ r,Qd4 n x0=some r->FnOk Tryz.prog 276 [u8 x0] [] (i64 r) []:=by
 unfold Qd4
 refine fs Tryz.func276 λw S0 γ hγ=>?_;refine z [2,31,1,5,7,2,30] ?_;refine cb (ca Qfj) λr1=>?_;refine z [31,1] ?_;refine c ?_ ?_
 . refine z [2,31,1,8,12,10] ?_;exact rt []
 refine z [2,30] ?_;refine cb (ca Qg2) λr3=>?_;refine z [31,1] ?_;refine c ?_ ?_
 . refine z [2,31,1,8,12,10] ?_;exact rt []
 refine z [2,30] ?_;refine cb (ca Qt2) λr5=>?_;refine z [31,1] ?_;refine c ?_ ?_
 . refine z [2,31,1,8,12,10] ?_;exact rt []
 refine z [9,11,4,2,31,1,8] ?_;exact rt []
theorem Qt4{x0}{x1}:∀ r,Qd5 x0 x1=some r->FnOk Tryz.prog 309 [i64 x0,u8 x1] [] (bl r) []:=by
 unfold Qd5
 refine fs Tryz.func309 λw S0 γ hγ=>?_;refine z [2,31,1] ?_;refine sjq (λs13=>[(4,bl s13)]) (λs13=>[]) ?_ ?_
 . intro j11 hj12
   refine z [6,30,41,30] ?_;refine sifd 7 rfl ?_ ?_
   . refine z [22] ?_;refine b λr14 h15=>?_;refine og' (c0 (Qfj _ h15)) ?_;refine z [38,30] ?_;refine sifd 11 rfl ?_ ?_
     . refine z [23,23,23,24,24,24,24,24,24,23,38,31,1] ?_;exact sj (hj12 _) eI
     refine z [22,22,22] ?_;refine sifd 14 rfl ?_ ?_
     . refine z [22] ?_;refine b λr16 h17=>?_;refine og' (c0 (Qg2 _ h17)) ?_;refine z [22] ?_;refine sifd 17 rfl ?_ ?_
       . refine z [23,23,22,22,37,31,1] ?_;exact sj (hj12 _) eI
       refine z [22] ?_;refine b λr18 h19=>?_;refine og' (c0 (Qfj _ h19)) ?_;refine z [22,22,37,31,1] ?_;exact sj (hj12 _) eI
     refine z [23,23,23,24,24,23,22,37,31,1] ?_;exact sj (hj12 _) eI
   refine z [23,23,37,30,22,22,22] ?_;refine sifd 14 rfl ?_ ?_
   . refine z [22] ?_;refine b λr20 h21=>?_;refine og' (c0 (Qg2 _ h21)) ?_;refine z [22] ?_;refine sifd 17 rfl ?_ ?_
     . refine z [23,23,22,22,37,31,1] ?_;exact sj (hj12 _) eI
     refine z [22] ?_;refine b λr22 h23=>?_;refine og' (c0 (Qfj _ h23)) ?_;refine z [22,22,37,31,1] ?_;exact sj (hj12 _) eI
   refine z [23,23,23,24,24,23,22,37,31,1] ?_;exact sj (hj12 _) eI
 intro s13
 refine z [8] ?_;exact rt []
theorem Qlr{n:Nat}{x0}{x1}:∀ r,Qc1 n x0 x1=some r->FnOk Tryz.prog 277 [str x0,i64 x1] [] (i64 r) []:=by
 unfold Qc1
 refine fs Tryz.func277 λw S0 γ hγ=>?_;refine z [2,31,1,2,31,1,5,7] ?_;refine sloopE 0 (λt=>t) (λs27=>[(0,str x0),(1,i64 x1),(4,i64 (0:Int)),(5,i64 s27)]) (λs27=>[]) (λt25=>[(4,i64 (0:Int)),(5,i64 t25)]) (λt25=>[]) eI ?_ ?_
 . intro hj26 s27
   refine z [5] ?_;refine sjq (λs34=>[(0,str x0),(1,i64 x1),(4,i64 (0:Int)),(5,i64 s27),(16,bl s34)]) (λs34=>[]) ?_ ?_
   . intro j32 hj33
     refine z [6,30,30,54,46,30] ?_;refine sifd 10 rfl ?_ ?_
     . refine z [22,22,22] ?_;refine b λy35 h36=>?_;refine z [22] ?_;refine b λr37 h38=>?_;refine og' (c0 (Qt4 _ h38)) ?_;refine z [38,1] ?_;exact sj (hj33 _) eI
     refine z [23,23,23,23,23,37,1] ?_;exact sj (hj33 _) eI
   intro s34
   refine c ?_ ?_
   . refine z [9,4,7,6,30,40,31,3,11] ?_;exact sgo eI
   refine z [14,15] ?_;exact su (sj (hj26 _) eI)
 intro t25
 refine z [13,4,2,30,31,1,8] ?_;exact rt []
theorem Qt5{x0}:∀ r,Qd6 x0=some r->FnOk Tryz.prog 278 [i64 x0] [] (i64 r) []:=by
 unfold Qd6
 refine fs Tryz.func278 λw S0 γ hγ=>?_;refine z [2,31,1,5,2,30,1,7,2,41,31,1] ?_;refine c ?_ ?_
 . refine z [2,31,1,8,12,10] ?_;exact rt []
 refine z [2,41,31,1] ?_;refine c ?_ ?_
 . refine z [2,31,1,8,12,10] ?_;exact rt []
 refine z [9,11,4,2,31,1,8] ?_;exact rt []
theorem Qls{n:Nat}{x0}:∀ r,Qbi n x0=some r->FnOk Tryz.prog 233 [Qi2 x0] [] (bl r) []:=by
 unfold Qbi
 refine fs Tryz.func233 λw S0 γ hγ=>?_;refine z [2] ?_;refine o (bx' 100) ?_;refine z [31,1,5] ?_;refine sjq (λs9=>[(1,.own 100),(2,bl false),(19,bl s9)]) (λs9=>[(100,.bx 313 (Qi2 x0))]) ?_ ?_
 . intro j7 hj8
   refine sif (λhb10=>?_) (λhb10=>?_)
   . refine sd ?_;refine zd [[100],[100],[]] ?_;refine dd [] (λ_ _ _ _=>obk hb10 ops) ?_;refine zd [[],[],[],[],[],[],[],[],[],[],[],[],[]] ?_;refine de fol ?_;refine z [4] ?_;exact sj (hj8 _) (eR [(100,100)])
   refine sif (λhb11=>?_) (λhb11=>?_)
   . refine sd ?_;refine zd [[100],[100],[]] ?_;refine dd [] (λ_ _ _ _=>obk hb10 ops) ?_;refine zd [[100],[100],[],[]] ?_;refine dd [] (λ_ _ _ _=>obk hb11 ops) ?_;refine zd [[],[],[],[],[],[],[],[]] ?_;refine de fol ?_;refine z [4] ?_;exact sj (hj8 _) (eR [(100,100)])
   refine b λy12 h13=>?_;refine b λr14 h15=>?_;refine sd ?_;refine zd [[100],[100],[]] ?_;refine dd [] (λ_ _ _ _=>obk hb10 ops) ?_;refine zd [[100],[100],[],[]] ?_;refine dd [] (λ_ _ _ _=>obk hb11 ops) ?_;refine zd [[100],[100],[]] ?_;refine dG [] (λ_ _ _ _=>c0 (Qt3 _ h15)) ?_;refine zd [[100],[100],[],[]] ?_;refine de fol ?_;refine z [4] ?_;exact sj (hj8 _) (eR [(100,100)])
 intro s9
 refine c ?_ ?_
 . refine z [2,31,1,8,10] ?_;exact rt []
 refine z [9,4] ?_;refine sjq (λs23=>[(2,bl s23)]) (λs23=>[]) ?_ ?_
 . intro j21 hj22
   refine b λr24 h25=>?_;refine sif (λhb26=>?_) (λhb26=>?_)
   . refine b λr27 h28=>?_;refine sd ?_;refine zd [[100],[100],[100],[100]] ?_;refine dd [] (λ_ _ _ _=>c0 (Qlr _ h25)) ?_;refine zd [[100],[100],[],[]] ?_;refine dd [] (λ_ _ _ _=>obk hb26 ops) ?_;refine zd [[100],[100],[],[100],[100]] ?_;refine dG [] (λ_ _ _ _=>c0 (Qt5 _ h28)) ?_;refine zd [[],[],[]] ?_;refine de fol ?_;refine z [4] ?_;exact sj (hj22 _) (eR [])
   refine sd ?_;refine zd [[100],[100],[100],[100]] ?_;refine dd [] (λ_ _ _ _=>c0 (Qlr _ h25)) ?_;refine zd [[100],[100],[],[]] ?_;refine dd [] (λ_ _ _ _=>obk hb26 ops) ?_;refine zd [[],[],[],[],[],[],[],[],[]] ?_;refine de fol ?_;refine z [4] ?_;exact sj (hj22 _) (eR [])
 intro s23
 refine z [8] ?_;exact rt []
theorem Qhg{x0}{x1}{x2}:∀ r,Y9 x0 x1 x2=some r->FnOk Tryz.prog 287 [.own 0,str x1,i64 x2] [(0,.bx 323 (Jf x0))] (.tup []) [(0,.bx 323 (Jf r))]:=by
 unfold Y9
 refine fs Tryz.func287 λw S0 γ hγ=>?_;refine z [6,30,30,30,30,30] ?_;refine b λy1 h2=>?_;refine s1 (slS h2 Tryz.underlying9 rfl rfl (bnd rfl) bnd0) ?_;refine z [30,48,33] ?_;refine o (stP (Jf (⟨y1,x0.at_,x0.over⟩:Q2)) [0]) ?_;refine z [48,33] ?_;refine o (stP (Jf (⟨y1,x2,x0.over⟩:Q2)) [1]) ?_;refine z [48,33] ?_;refine o (stP (Jf (⟨y1,x2,false⟩:Q2)) [2]) ?_;refine z [3] ?_;exact rt [(0,0)]
theorem Y4{x0}{x1}:∀ r,Vt x0 x1=some r->FnOk Tryz.prog 331 [str x0,str x1] [] (bl r) []:=by
 unfold Vt
 refine fs Tryz.func331 λw S0 γ hγ=>?_;refine z [2,31,1] ?_;refine sjq (λs5=>[(4,bl s5)]) (λs5=>[]) ?_ ?_
 . intro j3 hj4
   refine z [6,30,54,30,54,57,30] ?_;refine sifd 10 rfl ?_ ?_
   . refine z [22,22,22] ?_;refine b λy6 h7=>?_;refine sg 10 rfl rfl (slS h7 Tryz.underlying9 rfl rfl bnd0 (bnd rfl)) ?_;refine z [22,22,38,31,1] ?_;exact sj (hj4 _) eI
   refine z [23,23,23,23,23,23,37,31,1] ?_;exact sj (hj4 _) eI
 intro s5
 refine z [8] ?_;exact rt []
theorem Qdf{x0}{x1}:∀ r,W2 x0 x1=some r->FnOk Tryz.prog 316 [str x0,str x1] [] (.tup [str r.1,bl r.2]) []:=by
 unfold W2
 refine fs Tryz.func316 λw S0 γ hγ=>?_;refine z [2,31,31,1,5,2,30,30] ?_;refine cb (ca Y4) λr1=>?_;refine z [44,1] ?_;refine c ?_ ?_
 . refine z [2,30,31,31,1,8,10] ?_;exact rt []
 refine z [9,4,2,30,30,54] ?_;refine b λy3 h4=>?_;refine s1 (slS h4 Tryz.underlying9 rfl rfl (bnd rfl) bnd0) ?_;refine z [31,31,1,8] ?_;exact rt []
theorem Qeu{x0}{x1}:∀ r,Y8 x0 x1=some r->FnOk Tryz.prog 289 [str x0,str x1] [] (.tup [str r.1,bl r.2]) []:=by
 unfold Y8
 refine fs Tryz.func289 λw S0 γ hγ=>?_;refine z [2,31,31,1,2,30,30] ?_;refine cb (ca Qdf) λr1=>?_;refine z [35,35,31,31,1,8] ?_;exact rt []
theorem Qoa{n:Nat}{x0}:∀ r,Qe1 n x0=some r->FnOk Tryz.prog 346 [str x0] [] (i64 r) []:=by
 unfold Qe1
 refine fs Tryz.func346 λw S0 γ hγ=>?_;refine z [2,31,1,5,2,30,54,30,1,7] ?_;refine sloopE 0 Lp.go (λs27=>[(0,str x0),(2,i64 (0:Int)),(5,i64 (x0.length:Int)),(6,i64 s27)]) (λs27=>[]) (λt25=>[(0,str x0),(2,i64 (0:Int))]) (λt25=>[]) eI ?_ ?_
 . intro hj26 s27
   refine z [2,46,1,5] ?_;refine c ?_ ?_
   . refine z [9,4,5,7,2,30,31,1] ?_;refine sjq (λs34=>[(0,str x0),(2,i64 (0:Int)),(3,i64 s27),(5,i64 (x0.length:Int)),(6,i64 s27),(22,bl s34)]) (λs34=>[]) ?_ ?_
     . intro j32 hj33
       refine z [6,30,30] ?_;refine b λy35 h36=>?_;refine z [90,68,30] ?_;refine sifd 13 rfl ?_ ?_
       . refine z [23,23,23,23,38,30,23,23,38,1] ?_;exact sj (hj33 _) eI
       refine z [22,22] ?_;refine b λy37 h38=>?_;refine z [22,22,37,30] ?_;refine sifd 19 rfl ?_ ?_
       . refine z [23,23,38,1] ?_;exact sj (hj33 _) eI
       refine z [22,22,37,1] ?_;exact sj (hj33 _) eI
     intro s34
     refine c ?_ ?_
     . refine z [2,30,31,1,8,12,10] ?_;refine sU ?_;refine z [12,10] ?_;exact rt []
     refine z [9,11,4,6,40,30,3] ?_;exact sgo eI
   refine z [14,15] ?_;exact su (sj (hj26 _) eI)
 intro t25
 refine slpk ?_;refine z [13,4,5,2,30,72,1] ?_;refine c ?_ ?_
 . refine z [2,31,1,8,10] ?_;exact rt []
 refine z [9,4,2,31,1,8] ?_;exact rt []
theorem Qgh{x0}{x1}{x2}{x3}:∀ r,Yh x0 x1 x2 x3=some r->FnOk Tryz.prog 205 [u32 x0,u32 x1,u32 x2,u32 x3] [] (.tup [u32 r.1,u32 r.2]) []:=by
 unfold Yh
 refine fs Tryz.func205 λw S0 γ hγ=>?_;refine z [2,31,31,1,2,30,59,30,59,63,30,59,61,30,59,61] ?_;refine sbn (F:=u64) 21 rfl λz1=>?_;refine z [31,1,2,30] ?_;refine s1 (shrU uk64 rfl rfl rfl (k64 (x:=32) rfl)) ?_;refine z [60,30,60,31,31,1,8] ?_;exact rt []
theorem Qi3{x0}{x1}{x2}{x3}{x4}:∀ r,Zl x0 x1 x2 x3 x4=some r->FnOk Tryz.prog 152 [.own 0,i64 x1,sli 1 (List.map u32 x2),u32 x3,u32 x4] [(0,.sl 189 1 (List.map u32 x0))] (.tup []) [(0,.sl 189 1 (List.map u32 r))]:=by
 unfold Zl
 refine fs Tryz.func152 λw S0 γ hγ=>?_;refine z [5,2,30,39,30,1,7] ?_;refine srN (λs22=>[(0,.own 0),(1,i64 x1),(2,sli 1 (List.map u32 x2)),(3,u32 x3),(4,u32 s22.2),(12,sli 1 (List.map u32 x2))]) (λs22=>[(0,.sl 189 1 (List.map u32 s22.1))]) (rE (eR [(0,0)])) ?_ ?_
 . intro i23 x24 s22 hx25
   refine z [7,2,30,43,42,31,31,1,6,30,30,30,40,30,30,30,30,30,40] ?_;refine b λy26 h27=>?_;refine z [50,51,30] ?_;refine cb (ca Qgh) λr28=>?_;refine z [30,35,35,31] ?_;refine b λy30 h31=>?_;refine z [50,53,3,11] ?_;exact sgo (eR [(0,0)])
 intro s32
 refine z [13,4,6,30,30,30,39,40,30] ?_;refine b λy33 h34=>?_;refine z [50,53,3] ?_;exact rt [(0,0)]
theorem Xj{n:Nat}{x0}:∀ r,Vr n x0=some r->FnOk Tryz.prog 145 [sli 1 (List.map u32 x0)] [] (sli 1 (List.map u32 r)) []:=by
 unfold Vr
 refine fs Tryz.func145 λw S0 γ hγ=>?_;refine z [2] ?_;refine s1 (asg rfl (kLm (k:=1) u32)) ?_;refine z [1,2,30,39,31,1,5,7] ?_;refine sloopE 0 (λt=>t) (λs19=>[(0,sli 1 (List.map u32 x0)),(2,sli 1 (List.map u32 ([]:List Nat))),(3,i64 s19)]) (λs19=>[]) (λt17=>[(0,sli 1 (List.map u32 x0)),(2,sli 1 (List.map u32 ([]:List Nat))),(3,i64 t17)]) (λt17=>[]) eI ?_ ?_
 . intro hj18 s19
   refine z [5] ?_;refine sjq (λs24=>[(0,sli 1 (List.map u32 x0)),(2,sli 1 (List.map u32 ([]:List Nat))),(3,i64 s19),(15,bl s24)]) (λs24=>[]) ?_ ?_
   . intro j22 hj23
     refine z [6,30,47,30] ?_;refine sifd 8 rfl ?_ ?_
     . refine z [22,22,22] ?_;refine b λy25 h26=>?_;refine z [22,22,22,38,1] ?_;exact sj (hj23 _) eI
     refine z [23,23,23,23,23,23,37,1] ?_;exact sj (hj23 _) eI
   intro s24
   refine c ?_ ?_
   . refine z [9,4,7,6,30,49,31,3,11] ?_;exact sgo eI
   refine z [14,15] ?_;exact su (sj (hj18 _) eI)
 intro t17
 refine z [13,4,2,30,30] ?_;refine b λy27 h28=>?_;refine s1 (slR (f:=u32) h28 Tryz.underlying32 Y3.h rfl rfl bnd0 (bnd rfl)) ?_;refine z [31,1,8] ?_;exact rt []
theorem Qh9{x0}{x1}:∀ r,Zz x0 x1=some r->FnOk Tryz.prog 206 [sli 1 (List.map u32 x0),i64 x1] [] (.own 50) [(50,.sl 189 1 (List.map u32 r))]:=by
 unfold Zz
 refine fs Tryz.func206 λw S0 γ hγ=>?_;refine z [2] ?_;refine s1 (asg rfl (kLm (k:=1) u32)) ?_;refine z [1,2,30,39,30,40] ?_;refine b λy1 h2=>?_;refine so (mks (y:=100) (f:=u32) h2 Tryz.underlying32 Y3.h Qdw rfl rfl rfl rfl rfl rfl) ?_;refine z [31,1,2,30,30] ?_;refine so (cpy (f:=u32) rfl Tryz.underlying32 Y3.h rfl rfl (.inl rfl) rfl) ?_;refine z [1,2,30,31,1,8] ?_;exact rt [(50,100)]
theorem Vb{n:Nat}{x0}:∀ r,Ke n x0=some r->FnOk Tryz.prog 153 [sli 1 (List.map u32 x0)] [] (.own 50) [(50,.sl 189 1 (List.map u32 r))]:=by
 unfold Ke
 refine fs Tryz.func153 λw S0 γ hγ=>?_;refine z [2] ?_;refine s1 (asg rfl (kLm (k:=1) u32)) ?_;refine z [1,2,30] ?_;refine cb (ca Xj) λr1=>?_;refine b λr3 h4=>?_;refine o (cG (Qh9 _ h4) [] [(100,50)] []) ?_;refine z [31,1,8] ?_;exact rt [(50,100)]
theorem Qsq{n:Nat}{x0}{x1}{x2}:∀ r,Qh2 n x0 x1 x2=some r->FnOk Tryz.prog 347 [sli 1 (List.map u32 x0),u32 x1,u32 x2] [] (sli 1 (List.map u32 r)) []:=by
 unfold Qh2
 refine fs Tryz.func347 λw S0 γ hγ=>?_;refine z [2] ?_;refine s1 (asg rfl (kLm (k:=1) u32)) ?_;refine z [1,2,30,39,40] ?_;refine b λy1 h2=>?_;refine so (mks (y:=100) (f:=u32) h2 Tryz.underlying32 Y3.h Qdw rfl rfl rfl rfl rfl rfl) ?_;refine z [31,1,2,30,30,30,30] ?_;refine b λr3 h4=>?_;refine o (cG (Qi3 _ h4) [100] [] []) ?_;refine z [1,2,30] ?_;refine b λr5 h6=>?_;refine so (callL (em:=[(101,.sl 189 1 (List.map u32 r5))]) (res':=.own 101) [100] [] [(101,50)] [(101,50)] rfl (Vb _ h6) ⟨Qdj (f:=u32) (λ_=>Qgs) _,trivial⟩ (Qgt) ⟨.inr ⟨100,rfl,.inl ⟨rfl,.inl ⟨_,_,_,rfl,K1 (f:=u32) (λ_=>Ye) r3,rfl⟩⟩⟩,trivial⟩ (MiF.get (mi:=[]) trivial) trivial rfl ⟨rfl,trivial⟩ ⟨.inl rfl,trivial⟩ rfl ⟨.inl ⟨_,_,rfl,rfl,rc_sl (K1 (f:=u32) (λ_=>Ye) r5)⟩,trivial⟩ trivial ⟨⟨_,rfl⟩,trivial⟩ (Vy rfl) rfl) ?_;refine z [31,1,8] ?_;refine fz 101 [6,18] [] ?_;exact rt []
theorem Qjs{n:Nat}{x0}:∀ r,Qc8 n x0=some r->FnOk Tryz.prog 338 [str x0] [] (.tup [sli 1 (List.map u32 r.1),Qi r.2]) []:=by
 unfold Qc8
 refine fs Tryz.func338 λw S0 γ hγ=>?_;refine z [2] ?_;refine s1 (asg rfl (kLm (k:=1) u32)) ?_;refine o (al' 100) ?_;refine z [1,5,2,30] ?_;refine cb (ca Qoa) λr1=>?_;refine z [31,1,2,30,57,1] ?_;refine c ?_ ?_
 . refine z [2,30] ?_;refine s1 (bld (l:=[i64 (1:Int),i64 0,i64 0,i64 r1]) pl_63.h ti_63.h Ql ⟨_,_,_,(kI (x:=1) rfl),rfl,rfl,rfl,(szk (k:=1) rfl rfl),⟨_,_,_,rfl,rfl,rfl,rfl,(szk (k:=1) rfl rfl),rfl⟩⟩ rfl) ?_;refine s1 (asg rfl (kLm (k:=1) u32)) ?_;refine z [34,1,8,10] ?_;exact rt []
 refine z [9,4,2] ?_;refine s1 (asg rfl (kLm (k:=1) u32)) ?_;refine z [1,5,2,31,1,7] ?_;refine sloopE 0 (λt=>t) (λs49=>[(0,str x0),(2,sli 1 (List.map u32 ([]:List Nat))),(3,.own 100),(5,sli 1 (List.map u32 s49.1)),(6,i64 s49.2)]) (λs49=>[(100,.bx 63 (Qi (⟨0,0,0,0⟩:Qc)))]) (λt47=>[(2,sli 1 (List.map u32 ([]:List Nat))),(3,.own 100),(5,sli 1 (List.map u32 t47))]) (λt47=>[(100,.bx 63 (Qi (⟨0,0,0,0⟩:Qc)))]) (eR [(100,100)]) ?_ ?_
 . intro hj48 s49
   refine z [5,2,30,30,54,46,1] ?_;refine c ?_ ?_
   . refine z [9,4,7,2,31,31,1,5,2,31,1,7] ?_;refine sloopE 2 (λt=>t) (λs59=>[(0,str x0),(2,sli 1 (List.map u32 ([]:List Nat))),(3,.own 100),(5,sli 1 (List.map u32 s49.1)),(6,i64 s59.1),(7,u32 s59.2.1),(8,u32 s59.2.2.1),(9,i64 s59.2.2.2)]) (λs59=>[(100,.bx 63 (Qi (⟨0,0,0,0⟩:Qc)))]) (λt57=>[(0,str x0),(2,sli 1 (List.map u32 ([]:List Nat))),(3,.own 100),(5,sli 1 (List.map u32 s49.1)),(6,i64 t57.1),(7,u32 t57.2.1),(8,u32 t57.2.2)]) (λt57=>[(100,.bx 63 (Qi (⟨0,0,0,0⟩:Qc)))]) (eR [(100,100)]) ?_ ?_
     . intro hj58 s59
       refine z [5] ?_;refine sjq (λs62=>[(0,str x0),(2,sli 1 (List.map u32 ([]:List Nat))),(3,.own 100),(5,sli 1 (List.map u32 s49.1)),(6,i64 s59.1),(7,u32 s59.2.1),(8,u32 s59.2.2.1),(9,i64 s59.2.2.2),(27,bl s62)]) (λs62=>[(100,.bx 63 (Qi (⟨0,0,0,0⟩:Qc)))]) ?_ ?_
       . intro j60 hj61
         refine z [6,30,46,30] ?_;refine sifd 22 rfl ?_ ?_
         . refine z [22,22,22,22,38,1] ?_;exact sj (hj61 _) (eR [(100,100)])
         refine z [23,23,23,23,37,1] ?_;exact sj (hj61 _) (eR [(100,100)])
       intro s62
       refine c ?_ ?_
       . refine z [9,4,5,7,2,30,63,30,30] ?_;refine b λy63 h64=>?_;refine z [90,62,59,61] ?_;refine sbn (F:=u32) 37 rfl λz65=>?_;refine z [31,1,2,30,63,31,1,6,30,40,31,3,11,4,6,30,40,31,3] ?_;exact sgo (eR [(100,100)])
       refine z [14,15] ?_;exact su (sj (hj58 _) (eR [(100,100)]))
     intro t57
     refine z [13,4,6,30,30,30] ?_;refine cb (ca Qsq) λr66=>?_;refine z [31,3,11] ?_;exact sgo (eR [(100,100)])
   refine z [14,15] ?_;exact su (sj (hj48 _) (eR [(100,100)]))
 intro t47
 refine z [13,4,2,30] ?_;refine s1 (bld (l:=[i64 0,i64 0,i64 0,i64 0]) pl_63.h ti_63.h Ql rfl rfl) ?_;refine z [31,34,1,8] ?_;exact rt []
theorem Vx{x0}{x1}:∀ r,Kf x0 x1=some r->FnOk Tryz.prog 144 [bl x0,sli 1 (List.map u32 x1)] [] (Qq r) []:=by
 unfold Kf
 refine fs Tryz.func144 λw S0 γ hγ=>?_;refine z [2] ?_;refine o (al' 100) ?_;refine z [1] ?_;refine sjq (λs3=>[(4,.own 100)]) (λs3=>[(100,.bx 51 (Qq s3))]) ?_ ?_
 . intro j1 hj2
   refine z [6,30,30] ?_;refine sifd 6 rfl ?_ ?_
   . refine z [22,22,22,38,30] ?_;refine s1 (bld (l:=[bl (decide ((0:Int)<(x1.length:Int))),sli 1 (List.map u32 x1)]) pl_51.h ti_51.h J4 ⟨_,_,_,rfl,rfl,rfl,rfl,(szk (k:=1) rfl rfl),⟨_,_,_,rfl,rfl,rfl,rfl,(szk (k:=1) rfl rfl),rfl⟩⟩ rfl) ?_;refine z [34,1] ?_;exact sj (hj2 _) (eR [(100,100)])
   refine z [23,23,23,37,30] ?_;refine s1 (bld (l:=[bl false,sli 1 (List.map u32 x1)]) pl_51.h ti_51.h J4 ⟨_,_,_,rfl,rfl,rfl,rfl,(szk (k:=1) rfl rfl),⟨_,_,_,rfl,rfl,rfl,rfl,(szk (k:=1) rfl rfl),rfl⟩⟩ rfl) ?_;refine z [34,1] ?_;exact sj (hj2 _) (eR [(100,100)])
 intro s3
 refine z [8] ?_;exact rt []
theorem Qrk{n:Nat}{x0}:∀ r,Qgw n x0=some r->FnOk Tryz.prog 327 [str x0] [] (.tup [Qq r.1,Qi r.2]) []:=by
 unfold Qgw
 refine fs Tryz.func327 λw S0 γ hγ=>?_;refine z [2] ?_;refine o (al' 100) ?_;refine o (al' 101) ?_;refine z [1,2,30] ?_;refine cb (ca Qeu) λr1=>?_;refine z [30,35,35,31,31,1,2,30] ?_;refine cb (ca Qjs) λr3=>?_;refine z [30,35,35] ?_;refine o (al' 102) ?_;refine z [31,34,1,5,2,32] ?_;refine s1 (bld (l:=[i64 0,i64 0,i64 0,i64 0]) pl_63.h ti_63.h Ql rfl rfl) ?_;refine s1 (neA (p:=(r3.2:Qc)) (q:=((⟨0,0,0,0⟩:Qc):Qc)) J9 rfl eg_63 rfl rfl rfl) ?_;refine z [1] ?_;refine c ?_ ?_
 . refine z [2,33,36,30,54,30,54,49,40,33] ?_;refine o (stP (Qi (⟨r3.2.Kind,r3.2.Step,r3.2.Stage,wrap64 (r3.2.At+(wrap64 ((x0.length:Int) - (r1.1.length:Int))))⟩:Qc)) [3]) ?_;refine z [1,5] ?_;refine sd ?_;refine dx [] [] (λst mm _ _=>og (bld (l:=[bl false,sli 1 (List.map u32 [])]) pl_51.h ti_51.h J4 rfl rfl)) ?_;refine zd [[102],[100],[101]] ?_;refine de fol ?_;refine z [4,8,10] ?_;exact rt []
 refine z [9,4,2,30,30] ?_;refine cb (ca Vx) λr5=>?_;refine s1 (bld (l:=[i64 0,i64 0,i64 0,i64 0]) pl_63.h ti_63.h Ql rfl rfl) ?_;refine z [34,34,1,8] ?_;exact rt []
theorem Y5{n:Nat}{x0}:∀ r,W1 n x0=some r->FnOk Tryz.prog 80 [u64 x0] [] (sli 1 (List.map u32 r)) []:=by
 unfold W1
 refine fs Tryz.func80 λw S0 γ hγ=>?_;refine z [2] ?_;refine s1 (asg rfl (kLm (k:=1) u32)) ?_;refine z [1,2,30,60,30] ?_;refine s1 (shrU uk64 rfl rfl rfl (k64 (x:=32) rfl)) ?_;refine z [60] ?_
 refine so (bsl (y:=100) (ls:=List.map u32 ([(x0%4294967296),((x0 / 2 ^ 32)%4294967296)]:List Nat)) Tryz.underlying32 Y3.h rfl rfl rfl rfl rfl ⟨rfl,rfl,(by exact rfl),(by exact rfl),rfl,rfl,(by exact rfl),(by exact rfl),trivial⟩ rfl rfl) ?_
 refine fz 100 [8] [] ?_;refine cb (ca Xj) λr1=>?_;refine z [31,1,8] ?_;exact rt []
theorem Qi4{n:Nat}{x0}:∀ r,Qaw n x0=some r->FnOk Tryz.prog 79 [i64 x0] [] (Qq r) []:=by
 unfold Qaw
 refine fs Tryz.func79 λw S0 γ hγ=>?_;refine z [2] ?_;refine o (al' 100) ?_;refine z [1,5,2,30,46,1] ?_;refine c ?_ ?_
 . refine z [2,30,83] ?_;refine s1 (negU uk64 rfl rfl) ?_;refine sbn (F:=u64) 7 rfl λz1=>?_;refine cb (ca Y5) λr2=>?_;refine cb (ca Vx) λr4=>?_;refine z [34,1,8,10] ?_;exact rt []
 refine z [9,4,2,30,83] ?_;refine cb (ca Y5) λr6=>?_;refine cb (ca Vx) λr8=>?_;refine z [34,1,8] ?_;exact rt []
theorem J3{n:Nat}{x0}:∀ r,Jm n x0=some r->FnOk Tryz.prog 25 [i64 x0] [] (Qb r) []:=by
 unfold Jm
 refine fs Tryz.func25 λw S0 γ hγ=>?_;refine z [2] ?_;refine o (al' 100) ?_;refine z [1,2,30] ?_;refine cb (ca Qi4) λr1=>?_;refine cb (ca Y5) λr3=>?_;refine s1 (bld (l:=[Qq r1,sli 1 (List.map u32 r3)]) pl_53.h ti_53.h Jb ⟨_,_,_,rfl,rfl,rfl,rfl,(szk (k:=2) rfl rfl),⟨_,_,_,rfl,rfl,rfl,rfl,(szk (k:=1) rfl rfl),rfl⟩⟩ rfl) ?_;refine z [34,1,8] ?_;exact rt []
theorem Qi5{n:Nat}{x0}:∀ r,Qas n x0=some r->FnOk Tryz.prog 146 [sli 1 (List.map u32 x0)] [] (bl r) []:=by
 unfold Qas
 refine fs Tryz.func146 λw S0 γ hγ=>?_;refine z [2,31,1,2,30] ?_;refine cb (ca Xj) λr1=>?_;refine z [39,41,31,1,8] ?_;exact rt []
theorem Qft{n:Nat}{x0}{x1}:∀ r,Zm n x0 x1=some r->FnOk Tryz.prog 203 [sli 1 (List.map u32 x0),sli 1 (List.map u32 x1)] [] (i64 r) []:=by
 unfold Zm
 refine fs Tryz.func203 λw S0 γ hγ=>?_;refine z [2,31,1,2,30] ?_;refine cb (ca Xj) λr1=>?_;refine z [30] ?_;refine cb (ca Xj) λr3=>?_;refine z [31,31,1,5,7,2,30,39,30,39,46,31,1] ?_;refine c ?_ ?_
 . refine z [2,31,1,8,12,10] ?_;exact rt []
 refine z [2,30,39,30,39,47,31,1] ?_;refine c ?_ ?_
 . refine z [2,31,1,8,12,10] ?_;exact rt []
 refine z [9,11,4,5,2,30,39,49,31,1,7] ?_;refine sloopE 1 Lp.go (λs25=>[(0,sli 1 (List.map u32 r1)),(1,sli 1 (List.map u32 r3)),(4,i64 (0:Int)),(5,i64 s25)]) (λs25=>[]) (λt23=>[(4,i64 (0:Int))]) (λt23=>[]) eI ?_ ?_
 . intro hj24 s25
   refine z [5,2,30,57,1] ?_;refine c ?_ ?_
   . refine z [9,4,5,7,7,5] ?_;refine b λy26 h27=>?_;refine b λy28 h29=>?_;refine sd ?_;refine zd [[],[],[],[],[],[],[],[],[],[]] ?_;refine de fol ?_;refine z [4] ?_;refine c ?_ ?_
     . refine z [2,31,1,8,12,12,10] ?_;refine sU ?_;refine z [12,10] ?_;exact rt []
     refine z [5] ?_;refine b λy30 h31=>?_;refine b λy32 h33=>?_;refine sd ?_;refine zd [[],[],[],[],[],[],[],[],[],[]] ?_;refine de fol ?_;refine z [4] ?_;refine c ?_ ?_
     . refine z [2,31,1,8,12,12,10] ?_;refine sU ?_;refine z [12,10] ?_;exact rt []
     refine z [9,11,11,4,6,30,49,31,3] ?_;exact sgo eI
   refine z [14,15] ?_;exact su (sj (hj24 _) eI)
 intro t23
 refine slpk ?_;refine z [13,4,2,31,1,8] ?_;exact rt []
theorem Qmy{x0}{x1}{x2}:∀ r,Zn x0 x1 x2=some r->FnOk Tryz.prog 281 [u32 x0,u32 x1,u32 x2] [] (.tup [u32 r.1,u32 r.2.1,bl r.2.2]) []:=by
 unfold Zn
 refine fs Tryz.func281 λw S0 γ hγ=>?_;refine z [2,31,31,31,1,5,2,30,30,71,1] ?_;refine c ?_ ?_
 . refine z [2,31,31,31,1,8,10] ?_;exact rt []
 refine z [9,4,2,30,59] ?_;refine s1 (shlU uk64 rfl rfl rfl (k64 (x:=32) rfl)) ?_;refine z [30,59,64,31,1,5] ?_;refine b λ_ h1=>?_;refine b λ_ h2=>?_;refine sd ?_;refine zd [[],[],[]] ?_;refine dx [19,21] [] (λst mm ⟨a19,a21,_⟩ _=>og (quoU uk64 (nzU h1) rfl (a19.trans rfl) (a21.trans rfl))) ?_;refine zd [[],[],[],[]] ?_;refine dx [24,26] [] (λst mm ⟨a24,a26,_⟩ _=>og (remU uk64 (nzU h2) rfl (a24.trans rfl) (a26.trans rfl))) ?_;refine zd [[],[],[],[]] ?_;refine de fol ?_;refine z [4,8] ?_;exact rt []
theorem Qsr{n:Nat}{x0}{x1}:∀ r,Qcx n x0 x1=some r->FnOk Tryz.prog 245 [sli 1 (List.map u32 x0),u32 x1] [] (.tup [sli 1 (List.map u32 r.1),u32 r.2.1,bl r.2.2]) []:=by
 unfold Qcx
 refine fs Tryz.func245 λw S0 γ hγ=>?_;refine z [2] ?_;refine s1 (asg rfl (kLm (k:=1) u32)) ?_;refine z [31,31,1,5,2,30,66,1] ?_;refine c ?_ ?_
 . refine z [2] ?_;refine s1 (asg rfl (kLm (k:=1) u32)) ?_;refine z [31,31,1,8,10] ?_;exact rt []
 refine z [9,4,2,30,39] ?_;refine b λy1 h2=>?_;refine so (mks (y:=100) (f:=u32) h2 Tryz.underlying32 Y3.h Qdw rfl rfl rfl rfl rfl rfl) ?_;refine z [31,1,5,2,30,39,49,31,1,7] ?_;refine sloopE 0 (λt=>t) (λs20=>[(0,sli 1 (List.map u32 x0)),(1,u32 x1),(4,.own 100),(5,u32 s20.2.1),(6,bl false),(7,i64 s20.2.2)]) (λs20=>[(100,.sl 189 1 (List.map u32 s20.1))]) (λt18=>[(4,.own 100),(5,u32 t18.2),(6,bl false)]) (λt18=>[(100,.sl 189 1 (List.map u32 t18.1))]) (eR [(100,100)]) ?_ ?_
 . intro hj19 s20
   refine z [5,2,30,57,1] ?_;refine c ?_ ?_
   . refine z [9,4,5,7,6,30,30,30,30,30] ?_;refine b λy21 h22=>?_;refine z [43,42,30] ?_;refine cb (ca Qmy) λr23=>?_;refine z [30,35,35,35] ?_;refine b λy25 h26=>?_;refine z [50,53,31,3,11,4,6,30,49,31,3] ?_;exact sgo (eR [(100,100)])
   refine z [14,15] ?_;exact su (sj (hj19 _) (eR [(100,100)]))
 intro t18
 refine z [13,4,2,30] ?_;refine b λr27 h28=>?_;refine so (callL (em:=[(101,.sl 189 1 (List.map u32 r27))]) (res':=.own 101) [100] [] [(101,50)] [(101,50)] rfl (Vb _ h28) ⟨Qdj (f:=u32) (λ_=>Qgs) _,trivial⟩ (Qgt) ⟨.inr ⟨100,rfl,.inl ⟨rfl,.inl ⟨_,_,_,rfl,K1 (f:=u32) (λ_=>Ye) t18.1,rfl⟩⟩⟩,trivial⟩ (MiF.get (mi:=[]) trivial) trivial rfl ⟨rfl,trivial⟩ ⟨.inl rfl,trivial⟩ rfl ⟨.inl ⟨_,_,rfl,rfl,rc_sl (K1 (f:=u32) (λ_=>Ye) r27)⟩,trivial⟩ trivial ⟨⟨_,rfl⟩,trivial⟩ (Vy rfl) rfl) ?_;refine z [30,31,31,31,1,8] ?_;refine fz 101 [4,35] [] ?_;exact rt []
theorem Qmz{n:Nat}{x0}:∀ r,Qcj n x0=some r->FnOk Tryz.prog 246 [u32 x0] [] (i64 r) []:=by
 unfold Qcj
 refine fs Tryz.func246 λw S0 γ hγ=>?_;refine z [2,31,1,2,31,1,5,2,31,1,7] ?_;refine sloopE 0 (λt=>t) (λs15=>[(0,u32 s15.1),(2,i64 (0:Int)),(3,i64 s15.2.1),(4,i64 s15.2.2)]) (λs15=>[]) (λt13=>[(0,u32 t13.1),(2,i64 (0:Int)),(3,i64 t13.2)]) (λt13=>[]) eI ?_ ?_
 . intro hj14 s15
   refine z [5,2,30,47,1] ?_;refine c ?_ ?_
   . refine z [9,4] ?_;refine sjq (λs20=>[(0,u32 s20.1),(2,i64 (0:Int)),(3,i64 s20.2),(4,i64 s15.2.2)]) (λs20=>[]) ?_ ?_
     . intro j18 hj19
       refine z [7,2,30,30] ?_;refine b λ_ h21=>?_;refine s1 (shrU uk32 (ge0 h21) rfl rfl rfl) ?_;refine z [67,1] ?_;refine c ?_ ?_
       . refine z [2,30,30] ?_;refine b λ_ h22=>?_;refine s1 (shrU uk32 (ge0 h22) rfl rfl rfl) ?_;refine z [31,1,6,30,30,40,31,3,11,4] ?_;exact sj (hj19 _) eI
       refine z [9,11,4] ?_;exact sj (hj19 _) eI
     intro s20
     refine z [6,30,78,31,3] ?_;exact sgo eI
   refine z [14,15] ?_;exact su (sj (hj14 _) eI)
 intro t13
 refine z [13,4,2,30,30,85,40,31,1,8] ?_;exact rt []
theorem Qkk{n:Nat}{x0}{x1}:∀ r,Qb0 n x0 x1=some r->FnOk Tryz.prog 247 [sli 1 (List.map u32 x0),i64 x1] [] (.own 50) [(50,.sl 189 1 (List.map u32 r))]:=by
 unfold Qb0
 refine fs Tryz.func247 λw S0 γ hγ=>?_;refine z [2] ?_;refine s1 (asg rfl (kLm (k:=1) u32)) ?_;refine z [1,2,30,88,89,31,1,2,30,78,30,79,31,31,1,2,30,30,39,40] ?_;refine sbn (F:=i64) 21 rfl λz1=>?_;refine z [40] ?_;refine b λy2 h3=>?_;refine so (mks (y:=100) (f:=u32) h3 Tryz.underlying32 Y3.h Qdw rfl rfl rfl rfl rfl rfl) ?_;refine z [31,1,5,2,30,39,30,1,7] ?_;refine srN (λs35=>[(4,sli 1 (List.map u32 ([]:List Nat))),(5,i64 (wrap64 (Int.tdiv (min (max x1 (0:Int)) (4096:Int)) (32:Int)))),(6,i64 (Int.tmod (min (max x1 (0:Int)) (4096:Int)) (32:Int))),(7,.own 100),(24,sli 1 (List.map u32 x0))]) (λs35=>[(100,.sl 189 1 (List.map u32 s35))]) (rE (eR [(100,100)])) ?_ ?_
 . intro i36 x37 s35 hx38
   refine z [7,2,30,43,42,31,31,1,2,30,59,30] ?_;refine b λ_ h39=>?_;refine s1 (shlU uk64 (ge0 h39) rfl rfl rfl) ?_;refine sbn (F:=u64) 34 rfl λz40=>?_;refine z [31,1,2,30,30,30,40] ?_;refine sbn (F:=i64) 38 rfl λz41=>?_;refine b λy42 h43=>?_;refine z [50,51,30,60,64] ?_;refine b λy44 h45=>?_;refine z [50,53,1,6,30,30,30,40] ?_;refine sbn (F:=i64) 48 rfl λz46=>?_;refine z [40,30] ?_;refine s1 (shrU uk64 rfl rfl rfl (k64 (x:=32) rfl)) ?_;refine z [60] ?_;refine b λy47 h48=>?_;refine z [50,53] ?_;refine sbm (C:=λx=>.sl 189 1 (List.map u32 x)) 100 rfl λz49=>?_;refine z [3,11] ?_;exact sgo (eR [(100,100)])
 intro s50
 refine z [13,4,2,30] ?_;refine b λr51 h52=>?_;refine so (callL (em:=[(101,.sl 189 1 (List.map u32 r51))]) (res':=.own 101) [100] [] [(101,50)] [(101,50)] rfl (Vb _ h52) ⟨Qdj (f:=u32) (λ_=>Qgs) _,trivial⟩ (Qgt) ⟨.inr ⟨100,rfl,.inl ⟨rfl,.inl ⟨_,_,_,rfl,K1 (f:=u32) (λ_=>Ye) s50,rfl⟩⟩⟩,trivial⟩ (MiF.get (mi:=[]) trivial) trivial rfl ⟨rfl,trivial⟩ ⟨.inl rfl,trivial⟩ rfl ⟨.inl ⟨_,_,rfl,rfl,rc_sl (K1 (f:=u32) (λ_=>Ye) r51)⟩,trivial⟩ trivial ⟨⟨_,rfl⟩,trivial⟩ (Vy rfl) rfl) ?_;refine z [31,1,8] ?_;exact rt [(50,101)]
theorem Qgi{x0}{x1}{x2}:∀ r,Wb x0 x1 x2=some r->FnOk Tryz.prog 250 [u32 x0,u32 x1,u32 x2] [] (.tup [u32 r.1,u32 r.2]) []:=by
 unfold Wb
 refine fs Tryz.func250 λw S0 γ hγ=>?_;refine z [2,31,31,1,2,30,30,61,31,1] ?_;refine sjq (λs3=>[(2,u32 x2),(6,u32 ((x0+x1)%4294967296)),(7,u32 s3)]) (λs3=>[]) ?_ ?_
 . intro j1 hj2
   refine z [2,30,30,68,1] ?_;refine c ?_ ?_
   . refine z [6,30,61,31,1] ?_;exact sj (hj2 _) eI
   refine z [9,4] ?_;exact sj (hj2 _) eI
 intro s3
 refine z [2,30,30,61,31,1] ?_;refine sjq (λs6=>[(6,u32 ((((x0+x1)%4294967296)+x2)%4294967296)),(7,u32 s6)]) (λs6=>[]) ?_ ?_
 . intro j4 hj5
   refine z [2,30,30,68,1] ?_;refine c ?_ ?_
   . refine z [6,30,61,31,1] ?_;exact sj (hj5 _) eI
   refine z [9,4] ?_;exact sj (hj5 _) eI
 intro s6
 refine z [2,30,30,31,31,1,8] ?_;exact rt []
theorem Qrl{n:Nat}{x0}{x1}{x2}{x3}{x4}:∀ r,Qab n x0 x1 x2 x3 x4=some r->FnOk Tryz.prog 282 [u32 x0,u32 x1,u32 x2,u32 x3,u32 x4] [] (u32 r) []:=by
 unfold Qab
 refine fs Tryz.func282 λw S0 γ hγ=>?_;refine z [2,31,1,16,2,30,30,30] ?_;refine cb (ca Qmy) λr1=>?_;refine z [30,35,35,35,31,31,31,1] ?_;refine sjq (λs10=>[(2,u32 x2),(3,u32 x3),(4,u32 x4),(10,u32 0),(11,u32 s10.1),(12,u32 s10.2)]) (λs10=>[]) ?_ ?_
 . intro j8 hj9
   refine z [2,30,44,1] ?_;refine c ?_ ?_
   . refine z [2,31,1,2,30,30] ?_;refine cb (ca Qgi) λr11=>?_;refine z [30,35,35,31,31,1,5] ?_;refine sjq (λs15=>[(2,u32 x2),(3,u32 x3),(4,u32 x4),(10,u32 0),(11,u32 4294967295),(12,u32 r1.2.1),(14,u32 r11.1),(42,bl s15)]) (λs15=>[]) ?_ ?_
     . intro j13 hj14
       refine z [6,30,30,69,30] ?_;refine sifd 39 rfl ?_ ?_
       . refine z [23,23,38,1] ?_;exact sj (hj14 _) eI
       refine z [22,22,37,1] ?_;exact sj (hj14 _) eI
     intro s15
     refine c ?_ ?_
     . refine z [2,30,31,1,8,10,10,18] ?_;exact rt []
     refine z [9,4,6,30,31,1] ?_;exact sj (hj9 _) eI
   refine z [9,4] ?_;exact sj (hj9 _) eI
 intro s10
 refine z [5,20,4,5,7] ?_;refine sloopE 0 (λt=>t) (λs34=>[(2,u32 x2),(3,u32 x3),(4,u32 x4),(10,u32 0),(11,u32 s34.1),(12,u32 s34.2)]) (λs34=>[]) (λt32=>[(10,u32 0),(11,u32 t32)]) (λt32=>[]) eI ?_ ?_
 . intro hj33 s34
   refine z [7,2,30,30] ?_;refine cb (ca Qgh) λr35=>?_;refine z [30,35,35,31,31,1,5] ?_;refine sjq (λs39=>[(2,u32 x2),(3,u32 x3),(4,u32 x4),(10,u32 0),(11,u32 s34.1),(12,u32 s34.2),(63,bl s39)]) (λs39=>[]) ?_ ?_
   . intro j37 hj38
     refine z [6,30,30,68,30] ?_;refine sifd 54 rfl ?_ ?_
     . refine z [23,23,23,23,24,24,24,23,38,1] ?_;exact sj (hj38 _) eI
     refine z [22,22,22,22] ?_;refine sifd 58 rfl ?_ ?_
     . refine z [22,22,22,22,37,1] ?_;exact sj (hj38 _) eI
     refine z [23,23,23,22,37,1] ?_;exact sj (hj38 _) eI
   intro s39
   refine c ?_ ?_
   . refine z [14,15,21] ?_;exact su (sj (hj33 _) eI)
   refine z [9,4,2,30,62,31,1,2,30,30] ?_;refine cb (ca Qgi) λr40=>?_;refine z [30,35,35,31,31,1,5,2,30,69,1] ?_;refine c ?_ ?_
   . refine z [14,15,21] ?_;exact su (sj (hj33 _) eI)
   refine z [9,4,6,30,31,3,11] ?_;exact sgo eI
 intro t32
 refine z [13,4,2,30,31,1,8,18] ?_;exact rt []
theorem Qi6{x0}{x1}{x2}:∀ r,Qau x0 x1 x2=some r->FnOk Tryz.prog 251 [u32 x0,u32 x1,u32 x2] [] (.tup [u32 r.1,u32 r.2]) []:=by
 unfold Qau
 refine fs Tryz.func251 λw S0 γ hγ=>?_;refine z [2,31,31,1,2,30,30,62,31,1] ?_;refine sjq (λs3=>[(2,u32 x2),(6,u32 ((x0+4294967296 - x1)%4294967296)),(7,u32 s3)]) (λs3=>[]) ?_ ?_
 . intro j1 hj2
   refine z [2,30,30,68,1] ?_;refine c ?_ ?_
   . refine z [6,30,61,31,1] ?_;exact sj (hj2 _) eI
   refine z [9,4] ?_;exact sj (hj2 _) eI
 intro s3
 refine sjq (λs6=>[(2,u32 x2),(6,u32 ((x0+4294967296 - x1)%4294967296)),(7,u32 s6)]) (λs6=>[]) ?_ ?_
 . intro j4 hj5
   refine z [2,30,30,68,1] ?_;refine c ?_ ?_
   . refine z [6,30,61,31,1] ?_;exact sj (hj5 _) eI
   refine z [9,4] ?_;exact sj (hj5 _) eI
 intro s6
 refine z [2,30,30,62] ?_;refine sbn (F:=u32) 23 rfl λz7=>?_;refine z [30,31,31,1,8] ?_;exact rt []
theorem Qss{x0}{x1}{x2}{x3}:∀ r,Yp x0 x1 x2 x3=some r->FnOk Tryz.prog 283 [.own 0,i64 x1,sli 1 (List.map u32 x2),u32 x3] [(0,.sl 189 1 (List.map u32 x0))] (bl r.1) [(0,.sl 189 1 (List.map u32 r.2))]:=by
 unfold Yp
 refine fs Tryz.func283 λw S0 γ hγ=>?_;refine z [2,31,1,2,31,31,1,5,2,30,39,30,1,7] ?_;refine srN (λs26=>[(0,.own 0),(1,i64 x1),(2,sli 1 (List.map u32 x2)),(3,u32 x3),(8,bl false),(9,u32 s26.2.1),(10,u32 s26.2.2),(15,sli 1 (List.map u32 x2))]) (λs26=>[(0,.sl 189 1 (List.map u32 s26.1))]) (rE (eR [(0,0)])) ?_ ?_
 . intro i27 x28 s26 hx29
   refine z [7,2,30,43,42,31,31,1,2,31,1,2,30,30,30] ?_;refine cb (ca Qgh) λr30=>?_;refine z [30,35,35,31,31,1,6,30,30,30,40,30,30,30,40] ?_;refine b λy32 h33=>?_;refine z [50,51,30,30] ?_;refine cb (ca Qi6) λr34=>?_;refine z [30,35,35] ?_;refine b λy36 h37=>?_;refine z [50,53,31,3,11] ?_;exact sgo (eR [(0,0)])
 intro s38
 refine z [13,4,2,30,30,39,40,31,1,2,30,30,30,30] ?_;refine b λy39 h40=>?_;refine z [50,51,30,30] ?_;refine cb (ca Qi6) λr41=>?_;refine z [30,35,35] ?_;refine b λy43 h44=>?_;refine z [50,53,31,1,2,30,69,31,1,8] ?_;exact rt [(0,0)]
theorem Qst{x0}{x1}{x2}:∀ r,Z2 x0 x1 x2=some r->FnOk Tryz.prog 284 [.own 0,i64 x1,sli 1 (List.map u32 x2)] [(0,.sl 189 1 (List.map u32 x0))] (.tup []) [(0,.sl 189 1 (List.map u32 r))]:=by
 unfold Z2
 refine fs Tryz.func284 λw S0 γ hγ=>?_;refine z [2,31,1,5,2,30,39,30,1,7] ?_;refine srN (λs22=>[(0,.own 0),(1,i64 x1),(2,sli 1 (List.map u32 x2)),(6,u32 s22.2),(9,sli 1 (List.map u32 x2))]) (λs22=>[(0,.sl 189 1 (List.map u32 s22.1))]) (rE (eR [(0,0)])) ?_ ?_
 . intro i23 x24 s22 hx25
   refine z [7,2,30,43,42,31,31,1,6,30,30,30,40,30,30,30,40] ?_;refine b λy26 h27=>?_;refine z [50,51,30,30] ?_;refine cb (ca Qgi) λr28=>?_;refine z [30,35,35] ?_;refine b λy30 h31=>?_;refine z [50,53,31,3,11] ?_;exact sgo (eR [(0,0)])
 intro s32
 refine z [13,4,6,30,30,30,39,40] ?_;refine b λy33 h34=>?_;refine z [50,51,30,61] ?_;refine b λy35 h36=>?_;refine z [50,53] ?_;refine sbm (C:=λx=>.sl 189 1 (List.map u32 x)) 0 rfl λz37=>?_;refine z [3] ?_;exact rt [(0,0)]
theorem Qsu{n:Nat}{x0}{x1}:∀ r,Qcy n x0 x1=some r->FnOk Tryz.prog 248 [.own 0,sli 1 (List.map u32 x1)] [(0,.sl 189 1 (List.map u32 x0))] (sli 1 (List.map u32 r.1)) [(0,.sl 189 1 (List.map u32 r.2))]:=by
 unfold Qcy
 refine fs Tryz.func248 λw S0 γ hγ=>?_;refine z [2] ?_;refine s1 (asg rfl (kLm (k:=1) u32)) ?_;refine z [1,2,30,39,31,1,2,30,55,30,49] ?_;refine b λy1 h2=>?_;refine so (mks (y:=100) (f:=u32) h2 Tryz.underlying32 Y3.h Qdw rfl rfl rfl rfl rfl rfl) ?_;refine z [31,1,5,2,30,55,49,31,1,7] ?_;refine sloopE 0 (λt=>t) (λs60=>[(0,.own 0),(1,sli 1 (List.map u32 x1)),(4,sli 1 (List.map u32 ([]:List Nat))),(5,i64 (x1.length:Int)),(6,.own 100),(7,i64 s60.2.2)]) (λs60=>[(0,.sl 189 1 (List.map u32 s60.1)),(100,.sl 189 1 (List.map u32 s60.2.1))]) (λt58=>[(4,sli 1 (List.map u32 ([]:List Nat))),(6,.own 100)]) (λt58=>[(0,.sl 189 1 (List.map u32 t58.1)),(100,.sl 189 1 (List.map u32 t58.2))]) (eR [(0,0),(100,100)]) ?_ ?_
 . intro hj59 s60
   refine z [5,2,30,57,1] ?_;refine c ?_ ?_
   . refine z [9,4,5,7,5] ?_;refine b λy61 h62=>?_;refine b λy63 h64=>?_;refine b λy65 h66=>?_;refine b λy67 h68=>?_;refine b λy69 h70=>?_;refine b λr71 h72=>?_;refine sd ?_;refine zd [[],[],[],[],[0],[0],[],[],[],[],[],[0],[0],[],[],[],[],[],[0],[0],[],[],[],[],[],[],[],[],[],[]] ?_;refine dd [] (λ_ _ _ _=>c0 (Qrl _ h72)) ?_;refine zd [[]] ?_;refine de fol ?_;refine z [4] ?_;refine sjq (λs79=>[(0,.own 0),(1,sli 1 (List.map u32 x1)),(4,sli 1 (List.map u32 ([]:List Nat))),(5,i64 (x1.length:Int)),(6,.own 100),(7,i64 s60.2.2),(8,u32 s79.2)]) (λs79=>[(0,.sl 189 1 (List.map u32 s79.1)),(100,.sl 189 1 (List.map u32 s60.2.1))]) ?_ ?_
     . intro j77 hj78
       refine z [2,30,30,30,30] ?_;refine b λr80 h81=>?_;refine o (cG (Qss _ h81) [0] [] []) ?_;refine z [1] ?_;refine c ?_ ?_
       . refine z [2,30,62,31,1,6,30,30,30] ?_;refine b λr82 h83=>?_;refine o (cG (Qst _ h83) [0] [] []) ?_;refine z [1] ?_;exact sj (hj78 _) (eR [(0,0),(100,100)])
       refine z [9,4] ?_;exact sj (hj78 _) (eR [(0,0),(100,100)])
     intro s79
     refine z [6,30,30,30] ?_;refine b λy84 h85=>?_;refine z [50,53,3,11,4,6,30,49,31,3] ?_;exact sgo (eR [(0,0),(100,100)])
   refine z [14,15] ?_;exact su (sj (hj59 _) (eR [(0,0),(100,100)]))
 intro t58
 refine z [13,4,2,30,31,1,8] ?_;refine fz 100 [4,6,69] [] ?_;exact rt [(0,0)]
theorem Qsv{n:Nat}{x0}{x1}:∀ r,Qcz n x0 x1=some r->FnOk Tryz.prog 249 [sli 1 (List.map u32 x0),i64 x1] [] (sli 1 (List.map u32 r)) []:=by
 unfold Qcz
 refine fs Tryz.func249 λw S0 γ hγ=>?_;refine z [2] ?_;refine s1 (asg rfl (kLm (k:=1) u32)) ?_;refine z [1,2,30,88,31,1,2,30,78,30,79,31,31,1,5,2,30,30,39,57] ?_;refine sbn (F:=bl) 19 rfl λz1=>?_;refine z [1] ?_;refine c ?_ ?_
 . refine z [2] ?_;refine s1 (asg rfl (kLm (k:=1) u32)) ?_;refine z [1,8,10] ?_;exact rt []
 refine z [9,4,2,30,39,30,49] ?_;refine sbn (F:=i64) 23 rfl λz2=>?_;refine b λy3 h4=>?_;refine so (mks (y:=100) (f:=u32) h4 Tryz.underlying32 Y3.h Qdw rfl rfl rfl rfl rfl rfl) ?_;refine z [31,1,5,2,30,55,30,1,7] ?_;refine srN (λs48=>[(0,sli 1 (List.map u32 x0)),(4,sli 1 (List.map u32 ([]:List Nat))),(5,i64 (wrap64 (Int.tdiv (max x1 (0:Int)) (32:Int)))),(6,i64 (Int.tmod (max x1 (0:Int)) (32:Int))),(7,.own 100)]) (λs48=>[(100,.sl 189 1 (List.map u32 s48))]) (rE (eR [(100,100)])) ?_ ?_
 . intro i49 x50 s48 hx51
   refine z [7,2,30,31,1,2,30,30,30,40] ?_;refine sbn (F:=i64) 33 rfl λz52=>?_;refine b λy53 h54=>?_;refine z [43,42,59,31,1] ?_;refine sjq (λs61=>[(0,sli 1 (List.map u32 x0)),(4,sli 1 (List.map u32 ([]:List Nat))),(5,i64 (wrap64 (Int.tdiv (max x1 (0:Int)) (32:Int)))),(6,i64 (Int.tmod (max x1 (0:Int)) (32:Int))),(7,.own 100),(8,i64 (i49:Int)),(9,u64 s61),(26,i64 (y3.length:Int)),(27,i64 (i49:Int))]) (λs61=>[(100,.sl 189 1 (List.map u32 s48))]) ?_ ?_
   . intro j59 hj60
     refine z [2,30,30,40] ?_;refine sbn (F:=i64) 39 rfl λz62=>?_;refine z [40,30,39,46,1] ?_;refine c ?_ ?_
     . refine z [6,30,30,30,30,40] ?_;refine sbn (F:=i64) 48 rfl λz63=>?_;refine z [40] ?_;refine b λy64 h65=>?_;refine z [43,42,59] ?_;refine s1 (shlU uk64 rfl rfl rfl (k64 (x:=32) rfl)) ?_;refine z [64,31,1] ?_;exact sj (hj60 _) (eR [(100,100)])
     refine z [9,4] ?_;exact sj (hj60 _) (eR [(100,100)])
   intro s61
   refine z [6,30,30,30,30] ?_;refine b λ_ h66=>?_;refine s1 (shrU uk64 (ge0 h66) rfl rfl rfl) ?_;refine sbn (F:=u64) 59 rfl λz67=>?_;refine z [60] ?_;refine b λy68 h69=>?_;refine z [50,53,3,11] ?_;exact sgo (eR [(100,100)])
 intro s70
 refine z [13,4,2,30] ?_;refine b λr71 h72=>?_;refine so (callL (em:=[(101,.sl 189 1 (List.map u32 r71))]) (res':=.own 101) [100] [] [(101,50)] [(101,50)] rfl (Vb _ h72) ⟨Qdj (f:=u32) (λ_=>Qgs) _,trivial⟩ (Qgt) ⟨.inr ⟨100,rfl,.inl ⟨rfl,.inl ⟨_,_,_,rfl,K1 (f:=u32) (λ_=>Ye) s70,rfl⟩⟩⟩,trivial⟩ (MiF.get (mi:=[]) trivial) trivial rfl ⟨rfl,trivial⟩ ⟨.inl rfl,trivial⟩ rfl ⟨.inl ⟨_,_,rfl,rfl,rc_sl (K1 (f:=u32) (λ_=>Ye) r71)⟩,trivial⟩ trivial ⟨⟨_,rfl⟩,trivial⟩ (Vy rfl) rfl) ?_;refine z [31,1,8] ?_;refine fz 101 [4,64] [] ?_;exact rt []
theorem Qek{n:Nat}{x0}{x1}:∀ r,Yi n x0 x1=some r->FnOk Tryz.prog 201 [sli 1 (List.map u32 x0),sli 1 (List.map u32 x1)] [] (.tup [sli 1 (List.map u32 r.1),sli 1 (List.map u32 r.2.1),bl r.2.2]) []:=by
 unfold Yi
 refine fs Tryz.func201 λw S0 γ hγ=>?_;refine z [2] ?_;refine s1 (asg rfl (kLm (k:=1) u32)) ?_;refine s1 (asg rfl (kLm (k:=1) u32)) ?_;refine z [31,1,2,30] ?_;refine b λr1 h2=>?_;refine o (cG (Vb _ h2) [] [(100,50)] []) ?_;refine z [31,1,5,7,2,30,55,41,31,1] ?_;refine c ?_ ?_
 . refine z [2] ?_;refine s1 (asg rfl (kLm (k:=1) u32)) ?_;refine s1 (asg rfl (kLm (k:=1) u32)) ?_;refine z [31,1,8,12,10] ?_;exact rt []
 refine z [2,30,30] ?_;refine b λr3 h4=>?_
 refine s1 (callL (em:=[]) [100] [] [] [] rfl (Qft _ h4) trivial (Qym) ⟨.inl ⟨_,rfl,rn_id Qdt⟩,.inr ⟨100,rfl,.inl ⟨rfl,.inl ⟨_,_,_,rfl,K1 (f:=u32) (λ_=>Ye) r1,rfl⟩⟩⟩,trivial⟩ (λ_ _ h=>by cases h) trivial rfl trivial trivial rfl trivial trivial trivial (rn_id (Qa3)) rfl) ?_
 refine z [46,31,1] ?_;refine c ?_ ?_
 . refine z [2,30] ?_;refine b λr5 h6=>?_;refine o (cG (Vb _ h6) [] [(101,50)] []) ?_;refine s1 (asg rfl (kLm (k:=1) u32)) ?_;refine z [31,31,1,8,12,10] ?_;refine fz 101 [5,24] [] ?_;exact rt []
 refine z [2,30,55,41,31,1] ?_;refine c ?_ ?_
 . refine z [2,30,30] ?_;refine b λy7 h8=>?_;refine z [50,51] ?_;refine cb (ca Qsr) λr9=>?_;refine z [30,35,35,35,31,31,31,1,2,30,30,59] ?_;refine cb (ca Y5) λr11=>?_;refine z [31,31,31,1,8,12,10] ?_;exact rt []
 refine z [9,11,4,2,30,30,55,49] ?_;refine b λy13 h14=>?_;refine z [50,51] ?_;refine cb (ca Qmz) λr15=>?_;refine z [49,31,1,2,30,30] ?_;refine b λr17 h18=>?_;refine o (cG (Qkk _ h18) [] [(101,50)] []) ?_
 refine so (bsl (y:=102) (ls:=List.map u32 ([0]:List Nat)) Tryz.underlying32 Y3.h rfl rfl rfl rfl rfl ⟨rfl,(k32 (x:=0) rfl),(by exact rfl),(by exact rfl),trivial⟩ rfl rfl) ?_
 refine b λy19 h20=>?_;refine o (app' 103) ?_;refine z [31,1,2,30,30,30] ?_;refine b λr21 h22=>?_;refine so (callL (em:=[(104,.sl 189 1 (List.map u32 r21))]) (res':=.own 104) [100] [] [(104,50)] [(104,50)] rfl (Qkk _ h22) ⟨Qdj (f:=u32) (λ_=>Qgs) _,trivial⟩ (Qgt) ⟨.inr ⟨100,rfl,.inl ⟨rfl,.inl ⟨_,_,_,rfl,K1 (f:=u32) (λ_=>Ye) r1,rfl⟩⟩⟩,.inl ⟨_,rfl,rn_id Qa3⟩,trivial⟩ (MiF.get (mi:=[]) trivial) trivial rfl ⟨rfl,trivial⟩ ⟨.inl rfl,trivial⟩ rfl ⟨.inl ⟨_,_,rfl,rfl,rc_sl (K1 (f:=u32) (λ_=>Ye) r21)⟩,trivial⟩ trivial ⟨⟨_,rfl⟩,trivial⟩ (Vy rfl) rfl) ?_;refine fz 104 [58] [] ?_;refine b λr23 h24=>?_;refine o (cG (Qsu _ h24) [103] [] []) ?_;refine z [31,1,2,30] ?_;refine b λr25 h26=>?_;refine o (cG (Vb _ h26) [] [(105,50)] []) ?_;refine z [30,30] ?_;refine fz 103 [11,54,55,62] [] ?_;refine cb (ca Qsv) λr27=>?_;refine z [31,31,31,1,8] ?_;refine fz 105 [4,61] [] ?_;exact rt []
theorem Qlt{n:Nat}{x0}:∀ r,Qbh n x0=some r->FnOk Tryz.prog 243 [sli 1 (List.map u32 x0)] [] (.tup [u64 r.1,bl r.2]) []:=by
 unfold Qbh
 refine fs Tryz.func243 λw S0 γ hγ=>?_;refine z [2,31,31,1,2,30] ?_;refine cb (ca Xj) λr1=>?_;refine z [31,1,5,2,30,39,47,1] ?_;refine c ?_ ?_
 . refine z [2,31,31,1,8,10] ?_;exact rt []
 refine z [9,4,2,31,1,5,2,30,39,30,1,7] ?_;refine srN (λs16=>[(2,u64 0),(3,bl false),(4,u64 s16),(12,sli 1 (List.map u32 r1))]) (λs16=>[]) (rE eI) ?_ ?_
 . intro i17 x18 s16 hx19
   refine z [7,2,30,43,42,31,31,1,6,30,30,59,30,76] ?_;refine b λ_ h20=>?_;refine s1 (shlU uk64 (ge0 h20) rfl rfl rfl) ?_;refine sbn (F:=u64) 24 rfl λz21=>?_;refine z [64,31,3,11] ?_;exact sgo eI
 intro s22
 refine z [13,4,2,30,31,31,1,8] ?_;exact rt []
theorem Qob{n:Nat}{x0}{x1}:∀ r,Qac n x0 x1=some r->FnOk Tryz.prog 244 [u64 x0,u64 x1] [] (u64 r) []:=by
 unfold Qac
 refine fs Tryz.func244 λw S0 γ hγ=>?_;refine z [2,31,1,5,7] ?_;refine sloopE 0 (λt=>t) (λs7=>[(0,u64 s7.1),(1,u64 s7.2),(4,u64 0)]) (λs7=>[]) (λt5=>[(0,u64 t5),(4,u64 0)]) (λt5=>[]) eI ?_ ?_
 . intro hj6 s7
   refine z [5,2,30,67,1] ?_;refine c ?_ ?_
   . refine z [9,4,7] ?_;refine b λ_ h8=>?_;refine sd ?_;refine zd [[],[],[],[],[],[]] ?_;refine de fol ?_;refine z [11] ?_;exact sgo eI
   refine z [14,15] ?_;exact su (sj (hj6 _) eI)
 intro t5
 refine z [13,4,2,30,31,1,8] ?_;exact rt []
theorem Qrm{n:Nat}{x0}{x1}:∀ r,Qb1 n x0 x1=some r->FnOk Tryz.prog 199 [sli 1 (List.map u32 x0),sli 1 (List.map u32 x1)] [] (sli 1 (List.map u32 r)) []:=by
 unfold Qb1
 refine fs Tryz.func199 λw S0 γ hγ=>?_;refine z [2] ?_;refine s1 (asg rfl (kLm (k:=1) u32)) ?_;refine z [1,2,30] ?_;refine b λr1 h2=>?_;refine o (cG (Vb _ h2) [] [(100,50)] []) ?_;refine z [30] ?_;refine b λr3 h4=>?_;refine o (cG (Vb _ h4) [] [(101,50)] []) ?_;refine z [31,31,1,5,7] ?_;refine fz 100 [0,16] [] ?_;refine fz 101 [1,18] [] ?_;refine sloopE 0 (λt=>t) (λs19=>[(0,sli 1 (List.map u32 s19.1)),(1,sli 1 (List.map u32 s19.2)),(4,sli 1 (List.map u32 ([]:List Nat)))]) (λs19=>[]) (λt17=>[(0,sli 1 (List.map u32 t17.1)),(1,sli 1 (List.map u32 t17.2)),(4,sli 1 (List.map u32 ([]:List Nat)))]) (λt17=>[]) (eR []) ?_ ?_
 . intro hj18 s19
   refine z [5,2,30,39,47,1] ?_;refine c ?_ ?_
   . refine z [9,4,7,2,30,30] ?_;refine cb (ca Qek) λr20=>?_;refine z [30,35,35,35,31,31,31,1,6,30,30,31,31,3,11] ?_;exact sgo eI
   refine z [14,15] ?_;exact su (sj (hj18 _) eI)
 intro t17
 refine z [13,4,5,2,30,39,41,1] ?_;refine c ?_ ?_
 . refine z [2,30,31,1,8,10] ?_;exact rt []
 refine z [9,4,2,30,30] ?_;refine cb (ca Qek) λr22=>?_;refine z [30,35,35,35,31,31,31,1,2,30] ?_;refine cb (ca Qlt) λr24=>?_;refine z [30,35,35,31,31,1,2,30] ?_;refine cb (ca Qlt) λr26=>?_;refine z [30,35,35,31,31,1,2,30,30] ?_;refine cb (ca Qob) λr28=>?_;refine cb (ca Y5) λr30=>?_;refine z [31,1,8] ?_;exact rt []
theorem Qrn{x0}:∀ r,Qb2 x0=some r->FnOk Tryz.prog 200 [sli 1 (List.map u32 x0)] [] (bl r) []:=by
 unfold Qb2
 refine fs Tryz.func200 λw S0 γ hγ=>?_;refine z [2,31,1] ?_;refine sjq (λs5=>[(2,bl s5)]) (λs5=>[]) ?_ ?_
 . intro j3 hj4
   refine z [6,30,39,41,30] ?_;refine sifd 6 rfl ?_ ?_
   . refine z [22] ?_;refine b λy6 h7=>?_;refine z [22,22,22,38,31,1] ?_;exact sj (hj4 _) eI
   refine z [23,23,23,23,37,31,1] ?_;exact sj (hj4 _) eI
 intro s5
 refine z [8] ?_;exact rt []
theorem Qm0{n:Nat}{x0}{x1}:∀ r,Zo n x0 x1=some r->FnOk Tryz.prog 147 [sli 1 (List.map u32 x0),sli 1 (List.map u32 x1)] [] (.tup [sli 1 (List.map u32 r.1),sli 1 (List.map u32 r.2)]) []:=by
 unfold Zo
 refine fs Tryz.func147 λw S0 γ hγ=>?_;refine z [2] ?_;refine s1 (asg rfl (kLm (k:=1) u32)) ?_;refine s1 (asg rfl (kLm (k:=1) u32)) ?_;refine z [1,2,30,30] ?_;refine cb (ca Qrm) λr1=>?_;refine z [31,1,5,7,2,30,39,41,31,1] ?_;refine c ?_ ?_
 . refine z [2] ?_;refine s1 (asg rfl (kLm (k:=1) u32)) ?_;refine s1 (asg rfl (kLm (k:=1) u32)) ?_;refine z [1,8,12,10] ?_;exact rt []
 refine z [2,30] ?_;refine cb (ca Qrn) λr3=>?_;refine z [31,1] ?_;refine c ?_ ?_
 . refine z [2,30] ?_;refine b λr5 h6=>?_;refine o (cG (Vb _ h6) [] [(100,50)] []) ?_;refine z [30] ?_;refine b λr7 h8=>?_;refine o (cG (Vb _ h8) [] [(101,50)] []) ?_;refine z [31,31,1,8,12,10] ?_;refine fz 100 [4,18] [] ?_;refine fz 101 [5,20] [] ?_;exact rt []
 refine z [9,11,4,2,30,30] ?_;refine cb (ca Qek) λr9=>?_;refine z [30,35,35,35,31,1,2,30,30] ?_;refine cb (ca Qek) λr11=>?_;refine z [30,35,35,35,31,1,2,30,30,31,31,1,8] ?_;exact rt []
theorem Qg3{n:Nat}{x0}:∀ r,Xb n x0=some r->FnOk Tryz.prog 148 [Qq x0] [] (Qq r) []:=by
 unfold Xb
 refine fs Tryz.func148 λw S0 γ hγ=>?_;refine z [2] ?_;refine o (bx' 100) ?_;refine o (al' 101) ?_;refine z [1,5] ?_;refine b λr3 h4=>?_;refine b λr5 h6=>?_;refine sd ?_;refine zd [[100],[100],[100],[100]] ?_;refine dd [102] (λ_ _ _ _=>tV (cG (Vb _ h4) [] [(102,50)] [])) ?_;refine dd [] (λ_ _ _ _=>c0 (Vx _ h6)) ?_;refine zd [[101]] ?_;refine de fol ?_;refine z [4,8] ?_;exact rt []
theorem Zg{n:Nat}{x0}{x1}:∀ r,V7 n x0 x1=some r->FnOk Tryz.prog 82 [Qq x0,sli 1 (List.map u32 x1)] [] (Qb r) []:=by
 unfold V7
 refine fs Tryz.func82 λw S0 γ hγ=>?_;refine z [2] ?_;refine o (bx' 100) ?_;refine o (al' 101) ?_;refine z [1,2,33,36,30] ?_;refine cb (ca Qm0) λr1=>?_;refine z [30,35,35,31,31,1,2,33,36,30] ?_;refine s1 (bld (l:=[bl x0.Neg,sli 1 (List.map u32 r1.1)]) pl_51.h ti_51.h J4 ⟨_,_,_,rfl,rfl,rfl,rfl,(szk (k:=1) rfl rfl),⟨_,_,_,rfl,rfl,rfl,rfl,(szk (k:=1) rfl rfl),rfl⟩⟩ rfl) ?_;refine cb (ca Qg3) λr3=>?_;refine z [30] ?_;refine s1 (bld (l:=[Qq r3,sli 1 (List.map u32 r1.2)]) pl_53.h ti_53.h Jb ⟨_,_,_,rfl,rfl,rfl,rfl,(szk (k:=2) rfl rfl),⟨_,_,_,rfl,rfl,rfl,rfl,(szk (k:=1) rfl rfl),rfl⟩⟩ rfl) ?_;refine z [34,1,8] ?_;exact rt []
theorem Qgj{n:Nat}{x0}{x1}:∀ r,Zs n x0 x1=some r->FnOk Tryz.prog 268 [Qq x0,sli 1 (List.map u32 x1)] [] (.tup [Qb r.1,bl r.2]) []:=by
 unfold Zs
 refine fs Tryz.func268 λw S0 γ hγ=>?_;refine z [2] ?_;refine o (bx' 100) ?_;refine o (al' 101) ?_;refine z [31,1,5,2,30] ?_;refine cb (ca Qi5) λr1=>?_;refine z [1] ?_;refine c ?_ ?_
 . refine z [2] ?_;refine cb (ca J3) λr3=>?_;refine z [34,31,1,8,10] ?_;exact rt []
 refine z [9,4,2,32,30] ?_;refine cb (ca Zg) λr5=>?_;refine z [34,31,1,8] ?_;exact rt []
theorem Qdm{n:Nat}{x0}{x1}:∀ r,X7 n x0 x1=some r->FnOk Tryz.prog 339 [str x0,i64 x1] [] (.tup [sli 1 (List.map u32 r.1),Qi r.2]) []:=by
 unfold X7
 refine fs Tryz.func339 λw S0 γ hγ=>?_;refine z [2] ?_;refine s1 (asg rfl (kLm (k:=1) u32)) ?_;refine o (al' 100) ?_;refine z [1,2,30,30] ?_;refine b λy1 h2=>?_;refine s1 (slS h2 Tryz.underlying9 rfl rfl (bnd rfl) bnd0) ?_;refine cb (ca Qjs) λr3=>?_;refine z [30,35,35] ?_;refine o (al' 101) ?_;refine z [31,34,1] ?_;refine sjq (λs7=>[(4,sli 1 (List.map u32 ([]:List Nat))),(5,.own 100),(6,sli 1 (List.map u32 r3.1)),(7,.own 101)]) (λs7=>[(100,.bx 63 (Qi (⟨0,0,0,0⟩:Qc))),(101,.bx 63 (Qi s7))]) ?_ ?_
 . intro j5 hj6
   refine z [2,32] ?_;refine s1 (bld (l:=[i64 0,i64 0,i64 0,i64 0]) pl_63.h ti_63.h Ql rfl rfl) ?_;refine s1 (neA (p:=(r3.2:Qc)) (q:=((⟨0,0,0,0⟩:Qc):Qc)) J9 rfl eg_63 rfl rfl rfl) ?_;refine z [1] ?_;refine c ?_ ?_
   . refine z [6,33,36,30,40,33] ?_;refine o (stP (Qi (⟨r3.2.Kind,r3.2.Step,r3.2.Stage,wrap64 (r3.2.At+x1)⟩:Qc)) [3]) ?_;refine z [1] ?_;exact sj (hj6 _) (eR [(100,100),(101,101)])
   refine z [9,4] ?_;exact sj (hj6 _) (eR [(100,100),(101,101)])
 intro s7
 refine z [5] ?_;refine sd ?_;refine zd [[],[101],[],[100]] ?_;refine de fol ?_;refine z [4,8] ?_;exact rt []
theorem Qp8{n:Nat}{x0}{x1}{x2}:∀ r,Qf1 n x0 x1 x2=some r->FnOk Tryz.prog 328 [Qq x0,str x1,i64 x2] [] (.tup [Qb r.1,Qi r.2]) []:=by
 unfold Qf1
 refine fs Tryz.func328 λw S0 γ hγ=>?_;refine z [2] ?_;refine o (bx' 100) ?_;refine o (al' 101) ?_;refine o (al' 102) ?_;refine z [1,2,30,30] ?_;refine cb (ca Qdm) λr1=>?_;refine z [30,35,35] ?_;refine o (al' 103) ?_;refine z [31,34,1,5,2,32] ?_;refine s1 (bld (l:=[i64 0,i64 0,i64 0,i64 0]) pl_63.h ti_63.h Ql rfl rfl) ?_;refine s1 (neA (p:=(r1.2:Qc)) (q:=((⟨0,0,0,0⟩:Qc):Qc)) J9 rfl eg_63 rfl rfl rfl) ?_;refine z [1] ?_;refine c ?_ ?_
 . refine z [5] ?_;refine b λr3 h4=>?_;refine sd ?_;refine dd [] (λ_ _ _ _=>c0 (J3 _ h4)) ?_;refine zd [[103],[101],[102]] ?_;refine de fol ?_;refine z [4,8,10] ?_;exact rt []
 refine z [9,4,2,32,30] ?_;refine cb (ca Qgj) λr5=>?_;refine z [30,35,35] ?_;refine o (al' 104) ?_;refine z [34,31,1,5,2,30,44,1] ?_;refine c ?_ ?_
 . refine z [2,32,30] ?_;refine s1 (bld (l:=[i64 (2:Int),i64 0,i64 0,i64 x2]) pl_63.h ti_63.h Ql ⟨_,_,_,(kI (x:=2) rfl),rfl,rfl,rfl,(szk (k:=1) rfl rfl),⟨_,_,_,rfl,rfl,rfl,rfl,(szk (k:=1) rfl rfl),rfl⟩⟩ rfl) ?_;refine z [34,34,1,8,10] ?_;exact rt []
 refine z [9,4,2,32] ?_;refine s1 (bld (l:=[i64 0,i64 0,i64 0,i64 0]) pl_63.h ti_63.h Ql rfl rfl) ?_;refine z [34,34,1,8] ?_;exact rt []
theorem Qj8{x0}{x1}:∀ r,Qbm x0 x1=some r->FnOk Tryz.prog 330 [str x0,str x1] [] (bl r) []:=by
 unfold Qbm
 refine fs Tryz.func330 λw S0 γ hγ=>?_;refine z [2,31,1,2,30,30] ?_;refine cb (ca Y4) λr1=>?_;refine z [31,1,8] ?_;exact rt []
theorem Qgk{n:Nat}{x0}:∀ r,Zp n x0=some r->FnOk Tryz.prog 279 [sli 1 (List.map u32 x0)] [] (i64 r) []:=by
 unfold Zp
 refine fs Tryz.func279 λw S0 γ hγ=>?_;refine z [2,31,1,2,30] ?_;refine b λr1 h2=>?_;refine o (cG (Vb _ h2) [] [(100,50)] []) ?_;refine z [31,1,2,30,55,31,1,5,2,30,41,1] ?_;refine c ?_ ?_
 . refine z [2,31,1,8,10] ?_;exact rt []
 refine z [9,4,2,30,49,76,30,30,49] ?_;refine b λy3 h4=>?_;refine z [50,51] ?_;refine cb (ca Qmz) λr5=>?_;refine z [40] ?_;refine sbn (F:=i64) 19 rfl λz7=>?_;refine z [31,1,8] ?_;exact rt []
end Go.Proofs.YtlihkcaoachkdaaGreatDoor
