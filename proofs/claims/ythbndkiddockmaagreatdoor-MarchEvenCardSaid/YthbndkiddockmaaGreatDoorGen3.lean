import Derived.Test.YthbndkiddockmaaGreatDoorGen2
set_option maxRecDepth 100000
set_option maxHeartbeats 4000000
namespace Go.Proofs.YthbndkiddockmaaGreatDoor
open Go Go.RowKit
theorem Qpc{n:Nat}{x0}{x1}{x2}{x3}:∀ r,Yx n x0 x1 x2 x3=some r->FnOk Tryz.prog 53 [Qu x0,Qb x1,Qb x2,sli 3 (List.map Qb x3)] [] (.tup [X6 r.1,Qjb r.2]) []:=by
 unfold Yx
 refine fs Tryz.func53 fun w S0 γ hγ=>?_
 refine z [2] ?_
 refine o (bx' 100) ?_
 refine o (bx' 101) ?_
 refine o (bx' 102) ?_
 refine o (al' 103) ?_
 refine o (al' 104) ?_
 refine z [1,2,33,36] ?_
 refine cb (ca Qmd) fun r1=>?_
 refine z [31,1,2] ?_
 refine so (bldO (l:=[.own 105,.own 106,sli 3 (List.map Qb []),sli 3 (List.map Qb [])]) [(105,26,1),(106,26,1)] Qql.h Qlk.h (Qgc (Jx (c1:=[.slice none 0 0]) (Qen rfl) (Jx (c1:=[.slice none 0 0]) (Qen rfl) (Jx (c1:=[.slice none 0 0]) (zo_of (Kd (k:=3))) (Jx (c1:=[.slice none 0 0]) (zo_of (Kd (k:=3))) (Qew)))))) ⟨rfl,rfl,trivial⟩ rfl rfl rfl) ?_
 refine o (al' 107) ?_
 refine z [34,1,2,33,45,36,39,31,1,5,2,31,1,7] ?_
 refine sloopE 0 Lp.go (fun s43=>[(3,sli 3 (List.map Qb x3)),(4,.own 100),(5,.own 101),(6,.own 102),(8,.own 103),(9,.own 104),(10,i64 r1),(11,.own 107),(12,i64 (x0.Scheme.B.length:Int)),(13,i64 s43.2.2)]) (fun s43=>[(100,.bx 31 (Qu x0)),(101,.bx 34 (Qb x1)),(102,.bx 34 (Qb x2)),(103,.bx 121 (X6 (⟨[],[],[],[]⟩:Q7))),(104,.bx 122 (Qjb (⟨0,0,0⟩:X8))),(107,.bx 121 (.agg [.own 105,.own 106,sli 3 (List.map Qb []),sli 3 (List.map Qb [])])),(105,.sl 26 1 (List.map Qh s43.1)),(106,.sl 26 1 (List.map Qh s43.2.1))]) (fun t41=>[(3,sli 3 (List.map Qb x3)),(4,.own 100),(6,.own 102),(8,.own 103),(9,.own 104),(10,i64 r1),(11,.own 107),(12,i64 (x0.Scheme.B.length:Int))]) (fun t41=>[(100,.bx 31 (Qu x0)),(102,.bx 34 (Qb x2)),(103,.bx 121 (X6 (⟨[],[],[],[]⟩:Q7))),(104,.bx 122 (Qjb (⟨0,0,0⟩:X8))),(107,.bx 121 (.agg [.own 105,.own 106,sli 3 (List.map Qb []),sli 3 (List.map Qb [])])),(105,.sl 26 1 (List.map Qh t41.1)),(106,.sl 26 1 (List.map Qh t41.2))]) (eR [(100,100),(101,101),(102,102),(103,103),(104,104),(107,107),(105,105),(106,106)]) ?_ ?_
 · intro hj42 s43
   refine z [5,2,30,30,46,1] ?_
   refine c ?_ ?_
   · refine z [9,4,5,7,5] ?_
     refine b fun y44 h45=>?_
     refine b fun r46 h47=>?_
     refine sd ?_
     refine zd [[],[100],[],[100],[],[],[],[107],[107],[102]] ?_
     refine dd [106] (fun _ _ _ _=>cG (Qbr _ h47) [106] [] [106]) ?_
     refine zd [[]] ?_
     refine de fol ?_
     refine z [4,2,30,30] ?_
     refine cb (ca Qd1) fun r48=>?_
     refine z [31,1,5,2,30,30,39,46,1] ?_
     refine c ?_ ?_
     · refine z [2] ?_
       refine s1 (bld (l:=[sli 1 (List.map Qh []),sli 1 (List.map Qh []),sli 3 (List.map Qb []),sli 3 (List.map Qb [])]) Qql.h Qlk.h Y6 rfl rfl) ?_
       refine z [30,30,40] ?_
       refine s1 (bldA (l:=[i64 (6:Int),i64 s43.2.2,i64 (wrap64 ((300:Int)+r48))]) Tryz.underlying122 Qll.h ti_3.h Qhe rfl ⟨_,_,_,(kI (x:=6) rfl),rfl,rfl,rfl,rfl,rfl,⟨_,_,_,rfl,rfl,rfl,rfl,rfl,rfl,⟨_,_,_,rfl,rfl,rfl,rfl,rfl,rfl,rfl⟩⟩⟩ rfl) ?_
       refine z [34,34,1,8,10,12,10] ?_
       refine sU ?_
       refine z [12,10] ?_
       exact rt []
     refine z [9,4,5] ?_
     refine b fun r50 h51=>?_
     refine b fun r52 h53=>?_
     refine b fun r54 h55=>?_
     refine sd ?_
     refine zd [[100],[100],[100],[100],[101],[102],[]] ?_
     refine dd [] (fun _ _ _ _=>c0 (Qlt _ h51)) ?_
     refine zd [[]] ?_
     refine dd [] (fun _ _ _ _=>c0 (Qme _ h53)) ?_
     refine zd [[]] ?_
     refine dd [] (fun _ _ _ _=>c0 (Qnm _ h55)) ?_
     refine zd [[],[],[],[],[],[],[]] ?_
     refine de fol ?_
     refine z [4,5,2,30,56,1] ?_
     refine c ?_ ?_
     · refine z [2] ?_
       refine s1 (bld (l:=[sli 1 (List.map Qh []),sli 1 (List.map Qh []),sli 3 (List.map Qb []),sli 3 (List.map Qb [])]) Qql.h Qlk.h Y6 rfl rfl) ?_
       refine z [30,30,30] ?_
       refine s1 (bldA (l:=[i64 r54.2.1,i64 s43.2.2,i64 r54.2.2]) Tryz.underlying122 Qll.h ti_3.h Qhe rfl ⟨_,_,_,rfl,rfl,rfl,rfl,rfl,rfl,⟨_,_,_,rfl,rfl,rfl,rfl,rfl,rfl,⟨_,_,_,rfl,rfl,rfl,rfl,rfl,rfl,rfl⟩⟩⟩ rfl) ?_
       refine z [34,34,1,8,10,12,10] ?_
       refine sU ?_
       refine z [12,10] ?_
       exact rt []
     refine z [9,4,2,33,36,30] ?_
     refine so (bsl (y:=108) (ls:=List.map Qh ([r46]:List (List Qa))) Tryz.underlying27 ti_26.h rfl rfl rfl rfl rfl ⟨rfl,rfl,(by exact rfl),(by exact rfl),trivial⟩ rfl rfl) ?_
     refine b fun y56 h57=>?_
     refine o (app' 109) ?_
     refine z [33] ?_
     refine o (stP (.agg [.own 109,.own 106,sli 3 (List.map Qb []),sli 3 (List.map Qb [])]) [0]) ?_
     refine z [1] ?_
     refine b fun r58 h59=>?_
     refine b fun y60 h61=>?_
     refine sd ?_
     refine zd [[107],[107],[100],[100],[]] ?_
     refine dd [] (fun _ _ _ _=>c0 (Qnn _ h59)) ?_
     refine dx [90] [110] (fun st mm ⟨a90,_⟩ ⟨g110,_⟩=>og (bsl (y:=110) (ls:=List.map Qh ([r58]:List (List Qa))) Tryz.underlying27 ti_26.h rfl rfl rfl rfl rfl ⟨rfl,(a90.trans rfl),(by exact rfl),(by exact rfl),trivial⟩ (g110.trans rfl) rfl)) ?_
     refine dd [106,110,111] (fun _ _ _ _=>app' 111) ?_
     refine zd [[107]] ?_
     refine dd [107] (fun _ _ _ _=>stP (.agg [.own 109,.own 111,sli 3 (List.map Qb []),sli 3 (List.map Qb [])]) [1]) ?_
     refine de fol ?_
     refine z [11,4,6,30,40,31,3] ?_
     exact sgo (eR [(100,100),(101,101),(102,102),(103,103),(104,104),(107,107),(105,109),(106,111)])
   refine z [14,15] ?_
   exact su (sj (hj42 _) (eR [(100,100),(102,102),(103,103),(104,104),(107,107),(105,105),(106,106)]))
 intro t41
 refine slpk ?_
 refine z [13,4,2,30,33,45,36,33,36,32] ?_
 refine b fun r62 h63=>?_
 refine o (cG (Qbr _ h63) [106] [] [106]) ?_
 refine z [33] ?_
 refine o (stP (.agg [.own 105,.own 106,sli 3 (List.map Qb r62),sli 3 (List.map Qb [])]) [2]) ?_
 refine z [1,2,33,36,30] ?_
 refine cb (ca Qd1) fun r64=>?_
 refine z [31,1,5,2,30,33,36,39,46,1] ?_
 refine c ?_ ?_
 · refine z [2] ?_
   refine s1 (bld (l:=[sli 1 (List.map Qh []),sli 1 (List.map Qh []),sli 3 (List.map Qb []),sli 3 (List.map Qb [])]) Qql.h Qlk.h Y6 rfl rfl) ?_
   refine z [30,30,40] ?_
   refine s1 (bldA (l:=[i64 (6:Int),i64 (x0.Scheme.B.length:Int),i64 (wrap64 ((300:Int)+r64))]) Tryz.underlying122 Qll.h ti_3.h Qhe rfl ⟨_,_,_,(kI (x:=6) rfl),rfl,rfl,rfl,rfl,rfl,⟨_,_,_,rfl,rfl,rfl,rfl,rfl,rfl,⟨_,_,_,rfl,rfl,rfl,rfl,rfl,rfl,rfl⟩⟩⟩ rfl) ?_
   refine z [34,34,1,8,10] ?_
   exact rt []
 refine z [9,4] ?_
 refine sjq (fun s78=>[(8,.own 103),(9,.own 104),(10,i64 r1),(11,.own 107),(12,i64 (x0.Scheme.B.length:Int))]) (fun s78=>[(103,.bx 121 (X6 (⟨[],[],[],[]⟩:Q7))),(104,.bx 122 (Qjb (⟨0,0,0⟩:X8))),(107,.bx 121 (.agg [.own 105,.own 106,sli 3 (List.map Qb r62),sli 3 (List.map Qb s78)])),(105,.sl 26 1 (List.map Qh t41.1)),(106,.sl 26 1 (List.map Qh t41.2))]) ?_ ?_
 · intro j76 hj77
   refine z [2,33,45,36,39,47,1] ?_
   refine c ?_ ?_
   · refine b fun r79 h80=>?_
     refine b fun r81 h82=>?_
     refine b fun r83 h84=>?_
     refine sd ?_
     refine zd [[],[]] ?_
     refine dd [108] (fun _ _ _ _=>tV (cG (Qno _ h80) [] [(108,50)] [])) ?_
     refine zd [[100],[100]] ?_
     refine dd [] (fun _ _ _ _=>c0 (Qn6 _ h82)) ?_
     refine zd [[107],[107],[102]] ?_
     refine dd [106] (fun _ _ _ _=>cG (Qbr _ h84) [106] [] [106]) ?_
     refine zd [[107]] ?_
     refine dd [107] (fun _ _ _ _=>stP (.agg [.own 105,.own 106,sli 3 (List.map Qb r62),sli 3 (List.map Qb r83)]) [3]) ?_
     refine de fol ?_
     refine z [4] ?_
     exact sj (hj77 _) (eR [(103,103),(104,104),(107,107),(105,105),(106,106)])
   refine z [9,4] ?_
   exact sj (hj77 _) (eR [(103,103),(104,104),(107,107),(105,105),(106,106)])
 intro s78
 refine z [2,33,36,30] ?_
 refine cb (ca Qd1) fun r85=>?_
 refine z [31,1,5,2,30,33,36,39,46,1] ?_
 refine c ?_ ?_
 · refine z [2] ?_
   refine s1 (bld (l:=[sli 1 (List.map Qh []),sli 1 (List.map Qh []),sli 3 (List.map Qb []),sli 3 (List.map Qb [])]) Qql.h Qlk.h Y6 rfl rfl) ?_
   refine z [30,40,30,40] ?_
   refine s1 (bldA (l:=[i64 (6:Int),i64 (wrap64 ((x0.Scheme.B.length:Int)+(1:Int))),i64 (wrap64 ((300:Int)+r85))]) Tryz.underlying122 Qll.h ti_3.h Qhe rfl ⟨_,_,_,(kI (x:=6) rfl),rfl,rfl,rfl,rfl,rfl,⟨_,_,_,rfl,rfl,rfl,rfl,rfl,rfl,⟨_,_,_,rfl,rfl,rfl,rfl,rfl,rfl,rfl⟩⟩⟩ rfl) ?_
   refine z [34,34,1,8,10] ?_
   exact rt []
 refine z [9,4,2,32] ?_
 refine s1 (bldA (l:=[i64 0,i64 0,i64 0]) Tryz.underlying122 Qll.h ti_3.h Qhe rfl rfl rfl) ?_
 refine z [34,34,1,8] ?_
 refine fz 105 [148] [103,107] ?_
 refine fz 106 [148] [103,107] ?_
 exact rt []
theorem Qn7{x0}:∀ r,Zv x0=some r->FnOk Tryz.prog 109 [Qb x0] [] (Qb r) []:=by
 unfold Zv
 refine fs Tryz.func109 fun w S0 γ hγ=>?_
 refine z [2] ?_
 refine o (bx' 100) ?_
 refine o (al' 101) ?_
 refine z [1,2,33,36,33,36] ?_
 refine s1 (bld (l:=[bl false,sli 1 (List.map u32 x0.N),sli 1 (List.map u32 x0.D)]) pl_34.h ti_34.h Q2 ⟨_,_,_,rfl,rfl,rfl,rfl,(szk (k:=1) rfl rfl),⟨_,_,_,rfl,rfl,rfl,rfl,(szk (k:=1) rfl rfl),rfl⟩⟩ rfl) ?_
 refine z [34,1,8] ?_
 exact rt []
theorem Qn8{n:Nat}{x0}{x1}:∀ r,Zw n x0 x1=some r->FnOk Tryz.prog 110 [Qb x0,Qb x1] [] (i64 r) []:=by
 unfold Zw
 refine fs Tryz.func110 fun w S0 γ hγ=>?_
 refine z [2] ?_
 refine o (bx' 100) ?_
 refine o (bx' 101) ?_
 refine z [31,1,2,32,32] ?_
 refine cb (ca Qbd) fun r1=>?_
 refine cb (ca Qc7) fun r3=>?_
 refine z [31,1,8] ?_
 exact rt []
theorem Qn9{n:Nat}{x0}:∀ r,W6 n x0=some r->FnOk Tryz.prog 54 [sli 3 (List.map Qb x0)] [] (Qb r) []:=by
 unfold W6
 refine fs Tryz.func54 fun w S0 γ hγ=>?_
 refine z [2] ?_
 refine o (al' 100) ?_
 refine z [1,2] ?_
 refine cb (ca Wf) fun r1=>?_
 refine o (al' 101) ?_
 refine z [34,1,5,2,31,1,7] ?_
 refine sloopE 0 (fun t=>t) (fun s37=>[(0,sli 3 (List.map Qb x0)),(2,.own 100),(3,.own 101),(4,i64 s37.2)]) (fun s37=>[(100,.bx 34 (Qb (⟨false,[],[]⟩:Qa))),(101,.bx 34 (Qb s37.1))]) (fun t35=>[(2,.own 100),(3,.own 101)]) (fun t35=>[(100,.bx 34 (Qb (⟨false,[],[]⟩:Qa))),(101,.bx 34 (Qb t35))]) (eR [(100,100),(101,101)]) ?_ ?_
 · intro hj36 s37
   refine z [5,2,30,30,39,46,1] ?_
   refine c ?_ ?_
   · refine z [9,4] ?_
     refine sjq (fun s46=>[(0,sli 3 (List.map Qb x0)),(2,.own 100),(3,.own 101),(4,i64 s37.2)]) (fun s46=>[(100,.bx 34 (Qb (⟨false,[],[]⟩:Qa))),(101,.bx 34 (Qb s46))]) ?_ ?_
     · intro j44 hj45
       refine z [7,2,30,30] ?_
       refine b fun y47 h48=>?_
       refine z [43,42] ?_
       refine cb (ca Qn7) fun r49=>?_
       refine o (al' 102) ?_
       refine z [34,1,2,32,32] ?_
       refine cb (ca Qn8) fun r51=>?_
       refine z [47,1] ?_
       refine c ?_ ?_
       · refine z [6,32,34,3,11,4] ?_
         exact sj (hj45 _) (eR [(100,100),(101,101)])
       refine z [9,11,4] ?_
       exact sj (hj45 _) (eR [(100,100),(101,101)])
     intro s46
     refine z [6,30,40,31,3] ?_
     exact sgo (eR [(100,100),(101,101)])
   refine z [14,15] ?_
   exact su (sj (hj36 _) (eR [(100,100),(101,101)]))
 intro t35
 refine z [13,4,2,32,34,1,8] ?_
 exact rt []
theorem Qga{n:Nat}{x0}{x1}{x2}{x3}:∀ r,Xg n x0 x1 x2 x3=some r->FnOk Tryz.prog 16 [Qu x0,Qb x1,sli 3 (List.map Qb x2),sli 3 (List.map Qb x3)] [] (.tup [Q8 r.1,Qja r.2]) []:=by
 unfold Xg
 refine fs Tryz.func16 fun w S0 γ hγ=>?_
 refine z [2] ?_
 refine o (bx' 100) ?_
 refine o (bx' 101) ?_
 refine o (al' 102) ?_
 refine o (al' 103) ?_
 refine z [1,2,32,30] ?_
 refine so (bldO (l:=[.own 104,Qb x1,sli 3 (List.map Qb x2)]) [(104,127,14)] pl_68.h ti_68.h (Qgc (Jx (c1:=[.slice none 0 0]) (Qen rfl) (Jx (c1:=[.bool false,.slice none 0 0,.slice none 0 0]) (zo_of Q2) (Jx (c1:=[.slice none 0 0]) (zo_of (Kd (k:=3))) (Qew))))) ⟨rfl,trivial⟩ rfl ⟨_,_,_,rfl,rfl,rfl,rfl,(szk (k:=3) rfl rfl),⟨_,_,_,rfl,rfl,rfl,rfl,(szk (k:=1) rfl rfl),rfl⟩⟩ rfl) ?_
 refine o (al' 105) ?_
 refine z [34,1,5,2,31,1,7] ?_
 refine sloopE 0 Lp.go (fun s37=>[(3,sli 3 (List.map Qb x3)),(4,.own 100),(8,.own 102),(9,.own 103),(10,.own 105),(11,i64 s37.2.2.2)]) (fun s37=>[(100,.bx 31 (Qu x0)),(102,.bx 68 (Q8 (⟨[],(⟨false,[],[]⟩:Qa),[]⟩:Qt))),(103,.bx 69 (Qja (⟨0,0,0,0⟩:Qb2))),(105,.bx 68 (.agg [.own 104,Qb s37.2.1,sli 3 (List.map Qb s37.2.2.1)])),(104,.sl 127 14 (List.map J0 s37.1))]) (fun t35=>[(8,.own 102),(9,.own 103),(10,.own 105)]) (fun t35=>[(102,.bx 68 (Q8 (⟨[],(⟨false,[],[]⟩:Qa),[]⟩:Qt))),(103,.bx 69 (Qja (⟨0,0,0,0⟩:Qb2))),(105,.bx 68 (.agg [.own 104,Qb t35.2.1,sli 3 (List.map Qb t35.2.2)])),(104,.sl 127 14 (List.map J0 t35.1))]) (eR [(100,100),(102,102),(103,103),(105,105),(104,104)]) ?_ ?_
 · intro hj36 s37
   refine z [5,2,30,30,39,46,1] ?_
   refine c ?_ ?_
   · refine z [9,4,5,7,5] ?_
     refine b fun y38 h39=>?_
     refine b fun r40 h41=>?_
     refine sd ?_
     refine zd [[100],[105],[105],[],[],[],[],[105],[105]] ?_
     refine dd [] (fun _ _ _ _=>c0 (Qpc _ h41)) ?_
     refine zd [[],[],[]] ?_
     refine dd [106] (fun _ _ _ _=>al' 106) ?_
     refine dd [107] (fun _ _ _ _=>al' 107) ?_
     refine zd [[106],[107]] ?_
     refine de fol ?_
     refine z [4,5,2] ?_
     refine s1 (ixAO Tryz.underlying122 ti_3.h rfl (.inr ⟨rfl,rfl,_,_,rfl⟩) rfl rfl (kI (x:=0) rfl)) ?_
     refine z [36,56,1] ?_
     refine c ?_ ?_
     · refine z [5] ?_
       refine sd ?_
       refine dx [] [] (fun st mm _ _=>og (bld (l:=[sli 14 (List.map J0 []),Qb (⟨false,[],[]⟩:Qa),sli 3 (List.map Qb [])]) pl_68.h ti_68.h Zm rfl rfl)) ?_
       refine dx [13] [107] (fun st mm ⟨a13,_⟩ ⟨g107,_⟩=>og (ixAO (id:=107) (k:=1) (off:=0) (p:=0) Tryz.underlying122 ti_3.h rfl (.inr ⟨rfl,rfl,_,_,(g107.trans rfl)⟩) rfl (a13.trans rfl) (kI (x:=0) rfl))) ?_
       refine zd [[107],[],[]] ?_
       refine dx [13] [107] (fun st mm ⟨a13,_⟩ ⟨g107,_⟩=>og (ixAO (id:=107) (k:=1) (off:=0) (p:=1) Tryz.underlying122 ti_3.h rfl (.inr ⟨rfl,rfl,_,_,(g107.trans rfl)⟩) rfl (a13.trans rfl) (kI (x:=1) rfl))) ?_
       refine zd [[107]] ?_
       refine dx [13] [107] (fun st mm ⟨a13,_⟩ ⟨g107,_⟩=>og (ixAO (id:=107) (k:=1) (off:=0) (p:=2) Tryz.underlying122 ti_3.h rfl (.inr ⟨rfl,rfl,_,_,(g107.trans rfl)⟩) rfl (a13.trans rfl) (kI (x:=2) rfl))) ?_
       refine zd [[107]] ?_
       refine dx [41,43,45,47] [] (fun st mm ⟨a41,a43,a45,a47,_⟩ _=>og (bldA (l:=[i64 r40.2.a0,i64 (wrap64 (s37.2.2.2+(1:Int))),i64 r40.2.a1,i64 r40.2.a2]) Tryz.underlying69 ti_69.h ti_3.h Qqk rfl ⟨_,_,_,(a41.trans rfl),rfl,rfl,rfl,rfl,rfl,⟨_,_,_,(a43.trans rfl),rfl,rfl,rfl,rfl,rfl,⟨_,_,_,(a45.trans rfl),rfl,rfl,rfl,rfl,rfl,⟨_,_,_,(a47.trans rfl),rfl,rfl,rfl,rfl,rfl,rfl⟩⟩⟩⟩ rfl)) ?_
       refine zd [[102],[103]] ?_
       refine de fol ?_
       refine z [4,8,10,12,10] ?_
       refine sU ?_
       refine z [12,10] ?_
       exact rt []
     refine z [9,4,5] ?_
     refine b fun y42 h43=>?_
     refine b fun y44 h45=>?_
     refine b fun r46 h47=>?_
     refine b fun y48 h49=>?_
     refine sd ?_
     refine zd [[105],[105],[105],[105],[],[]] ?_
     refine dx [53,54] [] (fun st mm ⟨a53,a54,_⟩ _=>og (ixR (f:=Qb) Tryz.underlying26 ti_34.h h43 rfl (a53.trans rfl) (a54.trans rfl))) ?_
     refine zd [[],[],[]] ?_
     refine dx [57,58] [] (fun st mm ⟨a57,a58,_⟩ _=>og (ixR (f:=Qb) Tryz.underlying26 ti_34.h h45 rfl (a57.trans rfl) (a58.trans rfl))) ?_
     refine zd [[],[106],[106]] ?_
     refine dd [] (fun _ _ _ _=>c0 (Qn9 _ h47)) ?_
     refine zd [[105],[105]] ?_
     refine dx [52,56,60,63,65] [] (fun st mm ⟨a52,a56,a60,a63,a65,_⟩ _=>og (bld (l:=[Qb s37.2.1,Qb y42,Qb y44,Qb r46,sli 3 (List.map Qb s37.2.2.1),bl true]) Q2p.h Qnv.h Qc6 ⟨_,_,_,(a52.trans rfl),rfl,rfl,rfl,(szk (k:=3) rfl rfl),⟨_,_,_,(a56.trans rfl),rfl,rfl,rfl,(szk (k:=3) rfl rfl),⟨_,_,_,(a60.trans rfl),rfl,rfl,rfl,(szk (k:=3) rfl rfl),⟨_,_,_,(a63.trans rfl),rfl,rfl,rfl,(szk (k:=3) rfl rfl),⟨_,_,_,(a65.trans rfl),rfl,rfl,rfl,(szk (k:=1) rfl rfl),⟨_,_,_,kB,rfl,rfl,rfl,(szk (k:=1) rfl rfl),rfl⟩⟩⟩⟩⟩⟩ rfl)) ?_
     refine dx [66] [108] (fun st mm ⟨a66,_⟩ ⟨g108,_⟩=>og (bsl (y:=108) (ls:=List.map J0 ([(⟨s37.2.1,y42,y44,r46,s37.2.2.1,true⟩:Qv)]:List Qv)) Tryz.underlying66 Qnv.h rfl rfl rfl rfl rfl ⟨rfl,(a66.trans rfl),(by exact rfl),(by exact rfl),trivial⟩ (g108.trans rfl) rfl)) ?_
     refine dd [104,108,109] (fun _ _ _ _=>app' 109) ?_
     refine zd [[105]] ?_
     refine dd [105] (fun _ _ _ _=>stP (.agg [.own 109,Qb s37.2.1,sli 3 (List.map Qb s37.2.2.1)]) [0]) ?_
     refine de fol ?_
     refine z [4,5] ?_
     refine b fun y50 h51=>?_
     refine b fun r52 h53=>?_
     refine sd ?_
     refine zd [[105],[105],[],[],[],[]] ?_
     refine dd [] (fun _ _ _ _=>c0 (W9 _ h53)) ?_
     refine zd [[105]] ?_
     refine dd [105] (fun _ _ _ _=>stP (.agg [.own 109,Qb r52,sli 3 (List.map Qb s37.2.2.1)]) [1]) ?_
     refine de fol ?_
     refine z [4,6,33,36,33] ?_
     refine o (stP (.agg [.own 109,Qb r52,sli 3 (List.map Qb r40.1.Next)]) [2]) ?_
     refine z [3,11,4,6,30,40,31,3] ?_
     exact sgo (eR [(100,100),(102,102),(103,103),(105,105),(104,109)])
   refine z [14,15] ?_
   exact su (sj (hj36 _) (eR [(102,102),(103,103),(105,105),(104,104)]))
 intro t35
 refine slpk ?_
 refine z [13,4,2,32] ?_
 refine s1 (bldA (l:=[i64 0,i64 0,i64 0,i64 0]) Tryz.underlying69 ti_69.h ti_3.h Qqk rfl rfl rfl) ?_
 refine z [34,34,1,8] ?_
 refine fz 104 [81] [102,105] ?_
 exact rt []
theorem Qao{x0}:∀ r,Xh x0=some r->FnOk Tryz.prog 19 [Qja x0] [] (Qn r) []:=by
 unfold Xh
 refine fs Tryz.func19 fun w S0 γ hγ=>?_
 refine z [2] ?_
 refine o (bx' 100) ?_
 refine o (al' 101) ?_
 refine z [1,2] ?_
 refine s1 (ixAO Tryz.underlying69 ti_3.h rfl (.inr ⟨rfl,rfl,_,_,rfl⟩) rfl rfl (kI (x:=0) rfl)) ?_
 refine z [36] ?_
 refine s1 (ixAO Tryz.underlying69 ti_3.h rfl (.inr ⟨rfl,rfl,_,_,rfl⟩) rfl rfl (kI (x:=1) rfl)) ?_
 refine z [36] ?_
 refine s1 (ixAO Tryz.underlying69 ti_3.h rfl (.inr ⟨rfl,rfl,_,_,rfl⟩) rfl rfl (kI (x:=2) rfl)) ?_
 refine z [36] ?_
 refine s1 (ixAO Tryz.underlying69 ti_3.h rfl (.inr ⟨rfl,rfl,_,_,rfl⟩) rfl rfl (kI (x:=3) rfl)) ?_
 refine z [36] ?_
 refine s1 (bld (l:=[i64 x0.a0,i64 x0.a1,i64 x0.a2,i64 x0.a3]) pl_50.h ti_50.h Qq ⟨_,_,_,rfl,rfl,rfl,rfl,(szk (k:=1) rfl rfl),⟨_,_,_,rfl,rfl,rfl,rfl,(szk (k:=1) rfl rfl),⟨_,_,_,rfl,rfl,rfl,rfl,(szk (k:=1) rfl rfl),⟨_,_,_,rfl,rfl,rfl,rfl,(szk (k:=1) rfl rfl),rfl⟩⟩⟩⟩ rfl) ?_
 refine z [34,1,8] ?_
 exact rt []
theorem Qjd{n:Nat}{x0}{x1}{x2}:∀ r,W8 n x0 x1 x2=some r->FnOk Tryz.prog 3 [Qu x0,Kf x1,sli 3 (List.map Qb x2)] [] (bl r) []:=by
 unfold W8
 refine fs Tryz.func3 fun w S0 γ hγ=>?_
 refine z [2] ?_
 refine o (bx' 100) ?_
 refine o (bx' 101) ?_
 refine z [31,1,5] ?_
 refine sjq (fun s9=>[(2,sli 3 (List.map Qb x2)),(3,.own 100),(4,.own 101),(6,bl false),(25,bl s9)]) (fun s9=>[(100,.bx 31 (Qu x0)),(101,.bx 36 (Kf x1))]) ?_ ?_
 · intro j7 hj8
   refine z [6,32] ?_
   refine cb (ca Qgl) fun r10=>?_
   refine z [30] ?_
   refine sifd 13 rfl ?_ ?_
   · refine z [23,23,38,30,23,23,38,30,23,23,23,38,1] ?_
     exact sj (hj8 _) (eR [(100,100),(101,101)])
   refine z [22] ?_
   refine b fun r12 h13=>?_
   refine og' (c0 (Qgm _ h13)) ?_
   refine z [37,30] ?_
   refine sifd 17 rfl ?_ ?_
   · refine z [23,23,38,30,23,23,23,38,1] ?_
     exact sj (hj8 _) (eR [(100,100),(101,101)])
   refine z [22] ?_
   refine b fun r14 h15=>?_
   refine og' (c0 (Wx _ h15)) ?_
   refine z [37,30] ?_
   refine sifd 21 rfl ?_ ?_
   · refine z [23,23,23,38,1] ?_
     exact sj (hj8 _) (eR [(100,100),(101,101)])
   refine z [22,22,22,37,1] ?_
   exact sj (hj8 _) (eR [(100,100),(101,101)])
 intro s9
 refine c ?_ ?_
 · refine z [2] ?_
   refine cb (ca Xk) fun r16=>?_
   refine z [31,1,8,10] ?_
   exact rt []
 refine z [9,4,5] ?_
 refine b fun r18 h19=>?_
 refine b fun r20 h21=>?_
 refine b fun r22 h23=>?_
 refine b fun r24 h25=>?_
 refine b fun r26 h27=>?_
 refine sd ?_
 refine zd [[100]] ?_
 refine dd [] (fun _ _ _ _=>c0 (Qig _ h19)) ?_
 refine zd [[101],[101]] ?_
 refine dd [] (fun _ _ _ _=>c0 (Qad _ h21)) ?_
 refine zd [[101],[101]] ?_
 refine dd [] (fun _ _ _ _=>c0 (Wq _ h23)) ?_
 refine zd [[]] ?_
 refine dd [] (fun _ _ _ _=>c0 (Wq _ h25)) ?_
 refine dd [] (fun _ _ _ _=>c0 (Qpq _ h27)) ?_
 refine zd [[],[],[]] ?_
 refine dd [102] (fun _ _ _ _=>al' 102) ?_
 refine dd [103] (fun _ _ _ _=>al' 103) ?_
 refine zd [[102],[103]] ?_
 refine de fol ?_
 refine z [4,5,2,32,33,36,30] ?_
 refine cb (ca Qhl) fun r28=>?_
 refine z [44,1] ?_
 refine c ?_ ?_
 · refine sjq (fun s36=>[(2,sli 3 (List.map Qb x2)),(3,.own 100),(4,.own 101),(6,bl s36),(7,.own 102),(8,.own 103)]) (fun s36=>[(100,.bx 31 (Qu x0)),(101,.bx 36 (Kf x1)),(102,.bx 48 (Jw r26.1)),(103,.bx 50 (Qn r26.2))]) ?_ ?_
   · intro j34 hj35
     refine z [6,32] ?_
     refine s1 (bld (l:=[sli 14 (List.map J0 []),Qb (⟨false,[],[]⟩:Qa),sli 3 (List.map Qb [])]) pl_68.h ti_68.h Zm rfl rfl) ?_
     refine cb (ca Wr) fun r37=>?_
     refine z [30] ?_
     refine sifd 50 rfl ?_ ?_
     · refine z [22] ?_
       refine sg 50 rfl rfl (bld (l:=[i64 (2:Int),i64 0,i64 0,i64 0]) pl_50.h ti_50.h Qq ⟨_,_,_,(kI (x:=2) rfl),rfl,rfl,rfl,(szk (k:=1) rfl rfl),rfl⟩ rfl) ?_
       refine sg 50 rfl rfl (eqA (p:=(r26.2:Qe)) (q:=((⟨(2:Int),0,0,0⟩:Qe):Qe)) K7 rfl eg_50 rfl rfl rfl) ?_
       refine z [38,30] ?_
       refine sifd 55 rfl ?_ ?_
       · refine b fun r39 h40=>?_
         refine og' (c0 (Xk _ h40)) ?_
         refine z [38,31,1] ?_
         exact sj (hj35 _) (eR [(100,100),(101,101),(102,102),(103,103)])
       refine z [23,37,31,1] ?_
       exact sj (hj35 _) (eR [(100,100),(101,101),(102,102),(103,103)])
     refine z [23,23,23,37,30,23,37,31,1] ?_
     exact sj (hj35 _) (eR [(100,100),(101,101),(102,102),(103,103)])
   intro s36
   refine z [8,10] ?_
   exact rt []
 refine z [9,4,5] ?_
 refine b fun r41 h42=>?_
 refine b fun r43 h44=>?_
 refine b fun r45 h46=>?_
 refine b fun r47 h48=>?_
 refine sd ?_
 refine zd [[100],[101],[101]] ?_
 refine dd [] (fun _ _ _ _=>c0 (Js _ h42)) ?_
 refine zd [[101],[101]] ?_
 refine dd [] (fun _ _ _ _=>c0 (Qan _ h44)) ?_
 refine zd [[]] ?_
 refine dd [] (fun _ _ _ _=>c0 (Qan _ h46)) ?_
 refine dd [] (fun _ _ _ _=>c0 (Qga _ h48)) ?_
 refine zd [[],[],[]] ?_
 refine dd [104] (fun _ _ _ _=>al' 104) ?_
 refine dd [105] (fun _ _ _ _=>al' 105) ?_
 refine zd [[104],[105]] ?_
 refine de fol ?_
 refine z [4] ?_
 refine sjq (fun s59=>[(6,bl s59)]) (fun s59=>[]) ?_ ?_
 · intro j57 hj58
   refine b fun r60 h61=>?_
   refine sif (fun hb62=>?_) (fun hb62=>?_)
   · refine b fun r63 h64=>?_
     refine sif (fun hb65=>?_) (fun hb65=>?_)
     · refine b fun r66 h67=>?_
       refine sd ?_
       refine zd [[102],[104]] ?_
       refine dd [] (fun _ _ _ _=>c0 (Wr _ h61)) ?_
       refine dd [] (fun _ _ _ _=>obk hb62 ops) ?_
       refine zd [[103],[105]] ?_
       refine dG [] (fun _ _ _ _=>c0 (Qao _ h64)) ?_
       refine dx [74,75,77] [] (fun st mm ⟨a74,a75,a77,_⟩ _=>ogG 74 rfl (a74.trans rfl) (eqA (p:=(r26.2:Qe)) (q:=(r63:Qe)) K7 rfl eg_50 rfl (a75.trans rfl) (a77.trans rfl))) ?_
       refine zd [[]] ?_
       refine dd [] (fun _ _ _ _=>obk hb65 ops) ?_
       refine dG [] (fun _ _ _ _=>c0 (Xk _ h67)) ?_
       refine zd [[],[]] ?_
       refine de fol ?_
       refine z [4] ?_
       exact sj (hj58 _) (eR [])
     refine sd ?_
     refine zd [[102],[104]] ?_
     refine dd [] (fun _ _ _ _=>c0 (Wr _ h61)) ?_
     refine dd [] (fun _ _ _ _=>obk hb62 ops) ?_
     refine zd [[103],[105]] ?_
     refine dG [] (fun _ _ _ _=>c0 (Qao _ h64)) ?_
     refine dx [74,75,77] [] (fun st mm ⟨a74,a75,a77,_⟩ _=>ogG 74 rfl (a74.trans rfl) (eqA (p:=(r26.2:Qe)) (q:=(r63:Qe)) K7 rfl eg_50 rfl (a75.trans rfl) (a77.trans rfl))) ?_
     refine zd [[]] ?_
     refine dd [] (fun _ _ _ _=>obk hb65 ops) ?_
     refine zd [[],[],[]] ?_
     refine de fol ?_
     refine z [4] ?_
     exact sj (hj58 _) (eR [])
   refine sd ?_
   refine zd [[102],[104]] ?_
   refine dd [] (fun _ _ _ _=>c0 (Wr _ h61)) ?_
   refine dd [] (fun _ _ _ _=>obk hb62 ops) ?_
   refine zd [[],[],[],[],[],[],[],[],[]] ?_
   refine de fol ?_
   refine z [4] ?_
   exact sj (hj58 _) (eR [])
 intro s59
 refine z [8] ?_
 exact rt []
theorem Qsk{n:Nat}{x0}{x1}{x2}{x3}:∀ r,Qei n x0 x1 x2 x3=some r->FnOk Tryz.prog 10 [Qz x0,Qd x1,sli 3 (List.map Qd x2),.own 0] [(0,.sl 45 3 (List.map Qd x3))] (.tup [Jw r.1,Qn r.2]) [(0,.sl 45 3 (List.map Qd x3))]:=by
 unfold Qei
 refine fs Tryz.func10 fun w S0 γ hγ=>?_
 refine z [2] ?_
 refine o (bx' 100) ?_
 refine o (bx' 101) ?_
 refine o (al' 102) ?_
 refine o (al' 103) ?_
 refine z [1,5] ?_
 refine sjq (fun s7=>[(2,sli 3 (List.map Qd x2)),(3,.own 0),(4,.own 100),(5,.own 101),(8,.own 102),(9,.own 103),(30,bl s7)]) (fun s7=>[(0,.sl 45 3 (List.map Qd x3)),(100,.bx 60 (Qz x0)),(101,.bx 45 (Qd x1)),(102,.bx 48 (Jw (⟨[],(⟨(⟨false,[]⟩:Qf),[]⟩:Qc),[]⟩:Jd))),(103,.bx 50 (Qn (⟨0,0,0,0⟩:Qe)))]) ?_ ?_
 · intro j5 hj6
   refine z [6,32] ?_
   refine cb (ca Qlr) fun r8=>?_
   refine z [44,30] ?_
   refine sifd 18 rfl ?_ ?_
   · refine z [23,23,23,23,23,23,38,30,23,23,23,38,1] ?_
     exact sj (hj6 _) (eR [(0,0),(100,100),(101,101),(102,102),(103,103)])
   refine z [22,22,22,22,22,22,37,30] ?_
   refine sifd 26 rfl ?_ ?_
   · refine z [23,23,23,38,1] ?_
     exact sj (hj6 _) (eR [(0,0),(100,100),(101,101),(102,102),(103,103)])
   refine z [22] ?_
   refine b fun r10 h11=>?_
   refine sg 26 rfl rfl (callL (em:=[]) [0] [] [] [] rfl (Qr7 _ h11) trivial (pl_bl) ⟨.inr ⟨0,rfl,.inl ⟨rfl,.inl ⟨_,_,_,rfl,Jk (f:=Qd) (fun _=>Jr) x3,rfl⟩⟩⟩,trivial⟩ (fun _ _ h=>by cases h) trivial rfl trivial trivial rfl trivial trivial trivial (rn_id (if_bl)) rfl) ?_
   refine z [22,37,1] ?_
   exact sj (hj6 _) (eR [(0,0),(100,100),(101,101),(102,102),(103,103)])
 intro s7
 refine c ?_ ?_
 · refine z [2] ?_
   refine s1 (bld (l:=[sli 14 (List.map Zl []),Qd (⟨(⟨false,[]⟩:Qf),[]⟩:Qc),sli 3 (List.map Qd [])]) pl_48.h ti_48.h Qbb rfl rfl) ?_
   refine s1 (bld (l:=[i64 (2:Int),i64 0,i64 0,i64 0]) pl_50.h ti_50.h Qq ⟨_,_,_,(kI (x:=2) rfl),rfl,rfl,rfl,(szk (k:=1) rfl rfl),rfl⟩ rfl) ?_
   refine z [34,34,1,8,10] ?_
   exact rt [(0,0)]
 refine z [9,4,2,32] ?_
 refine cb (ca Wh) fun r12=>?_
 refine cb (ca Vv) fun r14=>?_
 refine z [30] ?_
 refine cb (ca Qju) fun r16=>?_
 refine so (bldO (l:=[.own 104,Qd r12,sli 3 (List.map Qd r16)]) [(104,113,14)] pl_48.h ti_48.h (Qgc (Jx (c1:=[.slice none 0 0]) (Qen rfl) (Jx (c1:=[.bool false,.slice none 0 0,.slice none 0 0]) (zo_of K2) (Jx (c1:=[.slice none 0 0]) (zo_of (Kd (k:=3))) (Qew))))) ⟨rfl,trivial⟩ rfl ⟨_,_,_,rfl,rfl,rfl,rfl,(szk (k:=3) rfl rfl),⟨_,_,_,rfl,rfl,rfl,rfl,(szk (k:=1) rfl rfl),rfl⟩⟩ rfl) ?_
 refine o (al' 105) ?_
 refine z [34,1,5,2,30,55,30,1,7] ?_
 refine srN (fun s47=>[(4,.own 100),(8,.own 102),(9,.own 103),(10,.own 105),(39,.own 0)]) (fun s47=>[(0,.sl 45 3 (List.map Qd x3)),(100,.bx 60 (Qz x0)),(102,.bx 48 (Jw (⟨[],(⟨(⟨false,[]⟩:Qf),[]⟩:Qc),[]⟩:Jd))),(103,.bx 50 (Qn (⟨0,0,0,0⟩:Qe))),(105,.bx 48 (.agg [.own 104,Qd s47.2.1,sli 3 (List.map Qd s47.2.2)])),(104,.sl 113 14 (List.map Zl s47.1))]) (rE (eR [(0,0),(100,100),(102,102),(103,103),(105,105),(104,104)])) ?_ ?_
 · intro i48 x49 s47 hx50
   refine z [7,2,30,50,51] ?_
   refine o (al' 106) ?_
   refine z [31,34,1,2,32] ?_
   refine cb (ca Wh) fun r51=>?_
   refine z [34,1,2,32,33,36,32,33,36] ?_
   refine cb (ca Qwc) fun r53=>?_
   refine z [30,35,35] ?_
   refine o (al' 107) ?_
   refine o (al' 108) ?_
   refine z [34,34,1,5,2,32] ?_
   refine s1 (bld (l:=[i64 0,i64 0,i64 0,i64 0]) pl_50.h ti_50.h Qq rfl rfl) ?_
   refine s1 (neA (p:=(r53.2:Qe)) (q:=((⟨0,0,0,0⟩:Qe):Qe)) K7 rfl eg_50 rfl rfl rfl) ?_
   refine z [1] ?_
   refine c ?_ ?_
   · refine z [2,30,40,33] ?_
     refine o (stP (Qn (⟨r53.2.Kind,wrap64 ((i48:Int)+(1:Int)),r53.2.Stage,r53.2.At⟩:Qe)) [1]) ?_
     refine z [1,5] ?_
     refine sd ?_
     refine dx [] [] (fun st mm _ _=>og (bld (l:=[sli 14 (List.map Zl []),Qd (⟨(⟨false,[]⟩:Qf),[]⟩:Qc),sli 3 (List.map Qd [])]) pl_48.h ti_48.h Qbb rfl rfl)) ?_
     refine zd [[108],[102],[103]] ?_
     refine de fol ?_
     refine z [4,8,10,12] ?_
     refine sU ?_
     refine z [12,10] ?_
     exact rt [(0,0)]
   refine z [9,4,5] ?_
   refine b fun r55 h56=>?_
   refine b fun y57 h58=>?_
   refine sd ?_
   refine zd [[105],[105],[105],[105],[106],[106],[107],[107]] ?_
   refine dd [] (fun _ _ _ _=>c0 (Qtn _ h56)) ?_
   refine zd [[105],[105]] ?_
   refine dx [69,70,71,74,76] [] (fun st mm ⟨a69,a70,a71,a74,a76,_⟩ _=>og (bld (l:=[Qd s47.2.1,Qd r51,Qd r51,Qd r55,sli 3 (List.map Qd s47.2.2),bl true]) Q2n.h Qnu.h Qna ⟨_,_,_,(a69.trans rfl),rfl,rfl,rfl,(szk (k:=3) rfl rfl),⟨_,_,_,(a70.trans rfl),rfl,rfl,rfl,(szk (k:=3) rfl rfl),⟨_,_,_,(a71.trans rfl),rfl,rfl,rfl,(szk (k:=3) rfl rfl),⟨_,_,_,(a74.trans rfl),rfl,rfl,rfl,(szk (k:=3) rfl rfl),⟨_,_,_,(a76.trans rfl),rfl,rfl,rfl,(szk (k:=1) rfl rfl),⟨_,_,_,kB,rfl,rfl,rfl,(szk (k:=1) rfl rfl),rfl⟩⟩⟩⟩⟩⟩ rfl)) ?_
   refine dx [77] [109] (fun st mm ⟨a77,_⟩ ⟨g109,_⟩=>og (bsl (y:=109) (ls:=List.map Zl ([(⟨s47.2.1,r51,r51,r55,s47.2.2,true⟩:J5)]:List J5)) Tryz.underlying41 Qnu.h rfl rfl rfl rfl rfl ⟨rfl,(a77.trans rfl),(by exact rfl),(by exact rfl),trivial⟩ (g109.trans rfl) rfl)) ?_
   refine dd [104,109,110] (fun _ _ _ _=>app' 110) ?_
   refine zd [[105]] ?_
   refine dd [105] (fun _ _ _ _=>stP (.agg [.own 110,Qd s47.2.1,sli 3 (List.map Qd s47.2.2)]) [0]) ?_
   refine de fol ?_
   refine z [4] ?_
   refine b fun r59 h60=>?_
   refine sd ?_
   refine zd [[105],[105],[106]] ?_
   refine dd [] (fun _ _ _ _=>c0 (Qej _ h60)) ?_
   refine zd [[107],[107],[105]] ?_
   refine dd [105] (fun _ _ _ _=>stP (.agg [.own 110,Qd r59,sli 3 (List.map Qd s47.2.2)]) [1]) ?_
   refine zd [[105]] ?_
   refine dd [105] (fun _ _ _ _=>stP (.agg [.own 110,Qd r59,sli 3 (List.map Qd r53.1.Next)]) [2]) ?_
   refine de fol ?_
   refine z [11] ?_
   exact sgo (eR [(0,0),(100,100),(102,102),(103,103),(105,105),(104,110)])
 intro s61
 refine z [13,4,2,32] ?_
 refine s1 (bld (l:=[i64 0,i64 0,i64 0,i64 0]) pl_50.h ti_50.h Qq rfl rfl) ?_
 refine z [34,34,1,8] ?_
 refine fz 104 [90] [102,105] ?_
 exact rt [(0,0)]
theorem Qys{n:Nat}{x0}{x1}{x2}{x3}{x4}:∀ r,Qb6 n x0 x1 x2 x3 x4=some r->FnOk Tryz.prog 20 [Qz x0,Qd x1,Qd x2,i64 x3,sli 3 (List.map Qd x4)] [] (.tup [Jw r.1,Qn r.2]) []:=by
 unfold Qb6
 refine fs Tryz.func20 fun w S0 γ hγ=>?_
 refine z [2] ?_
 refine o (bx' 100) ?_
 refine o (bx' 101) ?_
 refine o (bx' 102) ?_
 refine o (al' 103) ?_
 refine o (al' 104) ?_
 refine z [1,5] ?_
 refine sjq (fun s5=>[(3,i64 x3),(4,sli 3 (List.map Qd x4)),(5,.own 100),(6,.own 101),(7,.own 102),(10,.own 103),(11,.own 104),(26,bl s5)]) (fun s5=>[(100,.bx 60 (Qz x0)),(101,.bx 45 (Qd x1)),(102,.bx 45 (Qd x2)),(103,.bx 48 (Jw (⟨[],(⟨(⟨false,[]⟩:Qf),[]⟩:Qc),[]⟩:Jd))),(104,.bx 50 (Qn (⟨0,0,0,0⟩:Qe)))]) ?_ ?_
 · intro j3 hj4
   refine z [6,30,46,30] ?_
   refine sifd 17 rfl ?_ ?_
   · refine z [23,23,38,30,23,23,23,23,38,1] ?_
     exact sj (hj4 _) (eR [(100,100),(101,101),(102,102),(103,103),(104,104)])
   refine z [22,22,37,30] ?_
   refine sifd 21 rfl ?_ ?_
   · refine z [23,23,23,23,38,1] ?_
     exact sj (hj4 _) (eR [(100,100),(101,101),(102,102),(103,103),(104,104)])
   refine z [22,22] ?_
   refine b fun r6 h7=>?_
   refine og' (c0 (Qo5 _ h7)) ?_
   refine z [22,37,1] ?_
   exact sj (hj4 _) (eR [(100,100),(101,101),(102,102),(103,103),(104,104)])
 intro s5
 refine c ?_ ?_
 · refine z [2] ?_
   refine s1 (bld (l:=[sli 14 (List.map Zl []),Qd (⟨(⟨false,[]⟩:Qf),[]⟩:Qc),sli 3 (List.map Qd [])]) pl_48.h ti_48.h Qbb rfl rfl) ?_
   refine s1 (bld (l:=[i64 (2:Int),i64 0,i64 0,i64 0]) pl_50.h ti_50.h Qq ⟨_,_,_,(kI (x:=2) rfl),rfl,rfl,rfl,(szk (k:=1) rfl rfl),rfl⟩ rfl) ?_
   refine z [34,34,1,8,10] ?_
   exact rt []
 refine z [9,4,2,32,32] ?_
 refine cb (ca Qtm) fun r8=>?_
 refine z [30] ?_
 refine cb (ca Vv) fun r10=>?_
 refine cb (ca Qo6) fun r12=>?_
 refine z [30,35,35] ?_
 refine o (al' 105) ?_
 refine z [34,31,1,2] ?_
 refine so (asgN (y:=106) (E:=45) (k:=3) rfl rfl) ?_
 refine z [1,5,2,30,30,1,7] ?_
 refine sloopE 0 (fun t=>t) (fun s22=>[(4,sli 3 (List.map Qd x4)),(5,.own 100),(6,.own 101),(10,.own 103),(11,.own 104),(12,.own 105),(14,.own 106),(38,i64 x3),(39,i64 s22.2)]) (fun s22=>[(100,.bx 60 (Qz x0)),(101,.bx 45 (Qd x1)),(103,.bx 48 (Jw (⟨[],(⟨(⟨false,[]⟩:Qf),[]⟩:Qc),[]⟩:Jd))),(104,.bx 50 (Qn (⟨0,0,0,0⟩:Qe))),(105,.bx 45 (Qd r12.1)),(106,.sl 45 3 (List.map Qd s22.1))]) (fun t20=>[(4,sli 3 (List.map Qd x4)),(5,.own 100),(6,.own 101),(10,.own 103),(11,.own 104),(14,.own 106)]) (fun t20=>[(100,.bx 60 (Qz x0)),(101,.bx 45 (Qd x1)),(103,.bx 48 (Jw (⟨[],(⟨(⟨false,[]⟩:Qf),[]⟩:Qc),[]⟩:Jd))),(104,.bx 50 (Qn (⟨0,0,0,0⟩:Qe))),(106,.sl 45 3 (List.map Qd t20))]) (eR [(100,100),(101,101),(103,103),(104,104),(105,105),(106,106)]) ?_ ?_
 · intro hj21 s22
   refine z [2,46,1,5] ?_
   refine c ?_ ?_
   · refine z [9,4,5,7,6,30,32] ?_
     refine so (bsl (y:=107) (ls:=List.map Qd ([r12.1]:List Qc)) Tryz.underlying46 ti_45.h rfl rfl rfl rfl rfl ⟨rfl,rfl,(by exact rfl),(by exact rfl),trivial⟩ rfl rfl) ?_
     refine b fun y23 h24=>?_
     refine o (app' 108) ?_
     refine z [31,3,11,4,6,40,30,3] ?_
     exact sgo (eR [(100,100),(101,101),(103,103),(104,104),(105,105),(106,108)])
   refine z [14,15] ?_
   exact su (sj (hj21 _) (eR [(100,100),(101,101),(103,103),(104,104),(106,106)]))
 intro t20
 refine z [13,4,2,32,32,30,30] ?_
 refine b fun r25 h26=>?_
 refine o (cG (Qsk _ h26) [106] [] [106]) ?_
 refine z [35,35,34,34,1,8] ?_
 exact rt []
theorem Qj0{n:Nat}{x0}{x1}{x2}:∀ r,Xc n x0 x1 x2=some r->FnOk Tryz.prog 4 [Qu x0,Kf x1,i64 x2] [] (bl r) []:=by
 unfold Xc
 refine fs Tryz.func4 fun w S0 γ hγ=>?_
 refine z [2] ?_
 refine o (bx' 100) ?_
 refine o (bx' 101) ?_
 refine z [31,1,5] ?_
 refine sjq (fun s7=>[(2,i64 x2),(3,.own 100),(4,.own 101),(6,bl false),(33,bl s7)]) (fun s7=>[(100,.bx 31 (Qu x0)),(101,.bx 36 (Kf x1))]) ?_ ?_
 · intro j5 hj6
   refine z [6,32] ?_
   refine cb (ca Qgl) fun r8=>?_
   refine z [30] ?_
   refine sifd 17 rfl ?_ ?_
   · refine z [23,23,38,30,23,23,23,24,24,23,38,30,23,23,23,38,1] ?_
     exact sj (hj6 _) (eR [(100,100),(101,101)])
   refine z [22] ?_
   refine b fun r10 h11=>?_
   refine og' (c0 (Qgm _ h11)) ?_
   refine z [37,30] ?_
   refine sifd 21 rfl ?_ ?_
   · refine z [23,23,23,24,24,23,38,30,23,23,23,38,1] ?_
     exact sj (hj6 _) (eR [(100,100),(101,101)])
   refine z [22,22,22] ?_
   refine sifd 24 rfl ?_ ?_
   · refine z [22,22,22,37,30] ?_
     refine sifd 29 rfl ?_ ?_
     · refine z [23,23,23,38,1] ?_
       exact sj (hj6 _) (eR [(100,100),(101,101)])
     refine z [22,22,22,37,1] ?_
     exact sj (hj6 _) (eR [(100,100),(101,101)])
   refine z [23,23,22,37,30,22,22,22,37,1] ?_
   exact sj (hj6 _) (eR [(100,100),(101,101)])
 intro s7
 refine c ?_ ?_
 · refine z [2] ?_
   refine cb (ca Xk) fun r12=>?_
   refine z [31,1,8,10] ?_
   exact rt []
 refine z [9,4,5] ?_
 refine b fun r14 h15=>?_
 refine b fun r16 h17=>?_
 refine b fun r18 h19=>?_
 refine b fun r20 h21=>?_
 refine b fun r22 h23=>?_
 refine sd ?_
 refine zd [[100]] ?_
 refine dd [] (fun _ _ _ _=>c0 (Qig _ h15)) ?_
 refine zd [[101],[101]] ?_
 refine dd [] (fun _ _ _ _=>c0 (Qad _ h17)) ?_
 refine zd [[101],[101]] ?_
 refine dd [] (fun _ _ _ _=>c0 (Qad _ h19)) ?_
 refine zd [[],[101],[101]] ?_
 refine dd [] (fun _ _ _ _=>c0 (Wq _ h21)) ?_
 refine dd [] (fun _ _ _ _=>c0 (Qys _ h23)) ?_
 refine zd [[],[],[]] ?_
 refine dd [102] (fun _ _ _ _=>al' 102) ?_
 refine dd [103] (fun _ _ _ _=>al' 103) ?_
 refine zd [[102],[103]] ?_
 refine de fol ?_
 refine z [4,2,33,36] ?_
 refine cb (ca Js) fun r24=>?_
 refine o (al' 104) ?_
 refine z [34,1,5] ?_
 refine b fun r26 h27=>?_
 refine b fun r28 h29=>?_
 refine sd ?_
 refine zd [[101],[101]] ?_
 refine dd [] (fun _ _ _ _=>c0 (Js _ h27)) ?_
 refine zd [[104]] ?_
 refine dd [] (fun _ _ _ _=>c0 (Qbd _ h29)) ?_
 refine dd [105] (fun _ _ _ _=>al' 105) ?_
 refine zd [[105]] ?_
 refine de fol ?_
 refine z [4,2] ?_
 refine so (asgN (y:=106) (E:=34) (k:=3) rfl rfl) ?_
 refine z [1,5,2,31,1,7] ?_
 refine sloopE 0 (fun t=>t) (fun s52=>[(2,i64 x2),(3,.own 100),(4,.own 101),(6,bl false),(7,.own 102),(8,.own 103),(9,.own 104),(10,.own 105),(11,.own 106),(12,i64 s52.2)]) (fun s52=>[(100,.bx 31 (Qu x0)),(101,.bx 36 (Kf x1)),(102,.bx 48 (Jw r22.1)),(103,.bx 50 (Qn r22.2)),(104,.bx 34 (Qb r24)),(105,.bx 34 (Qb r28)),(106,.sl 34 3 (List.map Qb s52.1))]) (fun t50=>[(2,i64 x2),(3,.own 100),(4,.own 101),(6,bl false),(7,.own 102),(8,.own 103),(9,.own 104),(10,.own 105),(11,.own 106)]) (fun t50=>[(100,.bx 31 (Qu x0)),(101,.bx 36 (Kf x1)),(102,.bx 48 (Jw r22.1)),(103,.bx 50 (Qn r22.2)),(104,.bx 34 (Qb r24)),(105,.bx 34 (Qb r28)),(106,.sl 34 3 (List.map Qb t50))]) (eR [(100,100),(101,101),(102,102),(103,103),(104,104),(105,105),(106,106)]) ?_ ?_
 · intro hj51 s52
   refine z [5] ?_
   refine sjq (fun s55=>[(2,i64 x2),(3,.own 100),(4,.own 101),(6,bl false),(7,.own 102),(8,.own 103),(9,.own 104),(10,.own 105),(11,.own 106),(12,i64 s52.2),(65,bl s55)]) (fun s55=>[(100,.bx 31 (Qu x0)),(101,.bx 36 (Kf x1)),(102,.bx 48 (Jw r22.1)),(103,.bx 50 (Qn r22.2)),(104,.bx 34 (Qb r24)),(105,.bx 34 (Qb r28)),(106,.sl 34 3 (List.map Qb s52.1))]) ?_ ?_
   · intro j53 hj54
     refine z [6,30,30,46,30] ?_
     refine sifd 62 rfl ?_ ?_
     · refine z [22,22,38,1] ?_
       exact sj (hj54 _) (eR [(100,100),(101,101),(102,102),(103,103),(104,104),(105,105),(106,106)])
     refine z [23,23,37,1] ?_
     exact sj (hj54 _) (eR [(100,100),(101,101),(102,102),(103,103),(104,104),(105,105),(106,106)])
   intro s55
   refine c ?_ ?_
   · refine z [9,4,5,7] ?_
     refine b fun r56 h57=>?_
     refine b fun r58 h59=>?_
     refine b fun y60 h61=>?_
     refine sd ?_
     refine zd [[],[105],[]] ?_
     refine dd [] (fun _ _ _ _=>c0 (Wf _ h57)) ?_
     refine dd [] (fun _ _ _ _=>c0 (Qd2 _ h59)) ?_
     refine dx [72] [107] (fun st mm ⟨a72,_⟩ ⟨g107,_⟩=>og (bsl (y:=107) (ls:=List.map Qb ([r58]:List Qa)) Tryz.underlying26 ti_34.h rfl rfl rfl rfl rfl ⟨rfl,(a72.trans rfl),(by exact rfl),(by exact rfl),trivial⟩ (g107.trans rfl) rfl)) ?_
     refine dd [106,107,108] (fun _ _ _ _=>app' 108) ?_
     refine zd [[]] ?_
     refine de fol ?_
     refine z [11,4,6,30,40,31,3] ?_
     exact sgo (eR [(100,100),(101,101),(102,102),(103,103),(104,104),(105,105),(106,108)])
   refine z [14,15] ?_
   exact su (sj (hj51 _) (eR [(100,100),(101,101),(102,102),(103,103),(104,104),(105,105),(106,106)]))
 intro t50
 refine z [13,4,5] ?_
 refine sjq (fun s68=>[(3,.own 100),(4,.own 101),(6,bl false),(7,.own 102),(8,.own 103),(9,.own 104),(11,.own 106),(93,bl s68)]) (fun s68=>[(100,.bx 31 (Qu x0)),(101,.bx 36 (Kf x1)),(102,.bx 48 (Jw r22.1)),(103,.bx 50 (Qn r22.2)),(104,.bx 34 (Qb r24)),(106,.sl 34 3 (List.map Qb t50))]) ?_ ?_
 · intro j66 hj67
   refine z [6,30,46,30] ?_
   refine sifd 77 rfl ?_ ?_
   · refine z [23,23,38,30,23,23,23,38,30,23,23,23,23,23,23,38,1] ?_
     exact sj (hj67 _) (eR [(100,100),(101,101),(102,102),(103,103),(104,104),(106,106)])
   refine z [22,22,37,30] ?_
   refine sifd 81 rfl ?_ ?_
   · refine z [23,23,23,38,30,23,23,23,23,23,23,38,1] ?_
     exact sj (hj67 _) (eR [(100,100),(101,101),(102,102),(103,103),(104,104),(106,106)])
   refine z [22] ?_
   refine b fun r69 h70=>?_
   refine og' (c0 (Qc7 _ h70)) ?_
   refine z [22,37,30] ?_
   refine sifd 86 rfl ?_ ?_
   · refine z [23,23,23,23,23,23,38,1] ?_
     exact sj (hj67 _) (eR [(100,100),(101,101),(102,102),(103,103),(104,104),(106,106)])
   refine z [22,22,22,22] ?_
   refine b fun r71 h72=>?_
   refine sg 86 rfl rfl (callL (em:=[]) [106] [] [] [] rfl (Qhl _ h72) trivial (pl_bl) ⟨.inl ⟨_,rfl,rn_id Qi8⟩,.inl ⟨_,rfl,rn_id Qap⟩,.inr ⟨106,rfl,.inl ⟨rfl,.inl ⟨_,_,_,rfl,Jk (f:=Qb) (fun _=>Qkt) t50,rfl⟩⟩⟩,trivial⟩ (fun _ _ h=>by cases h) trivial rfl trivial trivial rfl trivial trivial trivial (rn_id (if_bl)) rfl) ?_
   refine z [22,37,1] ?_
   exact sj (hj67 _) (eR [(100,100),(101,101),(102,102),(103,103),(104,104),(106,106)])
 intro s68
 refine c ?_ ?_
 · refine sjq (fun s79=>[(3,.own 100),(4,.own 101),(6,bl s79),(7,.own 102),(8,.own 103),(9,.own 104),(11,.own 106)]) (fun s79=>[(100,.bx 31 (Qu x0)),(101,.bx 36 (Kf x1)),(102,.bx 48 (Jw r22.1)),(103,.bx 50 (Qn r22.2)),(104,.bx 34 (Qb r24)),(106,.sl 34 3 (List.map Qb t50))]) ?_ ?_
   · intro j77 hj78
     refine z [6,32] ?_
     refine s1 (bld (l:=[sli 14 (List.map J0 []),Qb (⟨false,[],[]⟩:Qa),sli 3 (List.map Qb [])]) pl_68.h ti_68.h Zm rfl rfl) ?_
     refine cb (ca Wr) fun r80=>?_
     refine z [30] ?_
     refine sifd 97 rfl ?_ ?_
     · refine z [22] ?_
       refine sg 97 rfl rfl (bld (l:=[i64 (2:Int),i64 0,i64 0,i64 0]) pl_50.h ti_50.h Qq ⟨_,_,_,(kI (x:=2) rfl),rfl,rfl,rfl,(szk (k:=1) rfl rfl),rfl⟩ rfl) ?_
       refine sg 97 rfl rfl (eqA (p:=(r22.2:Qe)) (q:=((⟨(2:Int),0,0,0⟩:Qe):Qe)) K7 rfl eg_50 rfl rfl rfl) ?_
       refine z [38,30] ?_
       refine sifd 102 rfl ?_ ?_
       · refine b fun r82 h83=>?_
         refine og' (c0 (Xk _ h83)) ?_
         refine z [38,31,1] ?_
         exact sj (hj78 _) (eR [(100,100),(101,101),(102,102),(103,103),(104,104),(106,106)])
       refine z [23,37,31,1] ?_
       exact sj (hj78 _) (eR [(100,100),(101,101),(102,102),(103,103),(104,104),(106,106)])
     refine z [23,23,23,37,30,23,37,31,1] ?_
     exact sj (hj78 _) (eR [(100,100),(101,101),(102,102),(103,103),(104,104),(106,106)])
   intro s79
   refine z [8,10] ?_
   exact rt []
 refine z [9,4,5] ?_
 refine fz 106 [11] [] ?_
 refine b fun r86 h87=>?_
 refine b fun r88 h89=>?_
 refine sd ?_
 refine zd [[100],[104],[101],[101]] ?_
 refine dd [] (fun _ _ _ _=>c0 (Qan _ h87)) ?_
 refine zd [[]] ?_
 refine dd [] (fun _ _ _ _=>c0 (Qga _ h89)) ?_
 refine zd [[],[],[]] ?_
 refine dd [107] (fun _ _ _ _=>al' 107) ?_
 refine dd [108] (fun _ _ _ _=>al' 108) ?_
 refine zd [[107],[108]] ?_
 refine de fol ?_
 refine z [4] ?_
 refine sjq (fun s100=>[(6,bl s100)]) (fun s100=>[]) ?_ ?_
 · intro j98 hj99
   refine b fun r101 h102=>?_
   refine sif (fun hb103=>?_) (fun hb103=>?_)
   · refine b fun r104 h105=>?_
     refine sif (fun hb106=>?_) (fun hb106=>?_)
     · refine b fun r107 h108=>?_
       refine sd ?_
       refine zd [[102],[107]] ?_
       refine dd [] (fun _ _ _ _=>c0 (Wr _ h102)) ?_
       refine dd [] (fun _ _ _ _=>obk hb103 ops) ?_
       refine zd [[103],[108]] ?_
       refine dG [] (fun _ _ _ _=>c0 (Qao _ h105)) ?_
       refine dx [118,119,121] [] (fun st mm ⟨a118,a119,a121,_⟩ _=>ogG 118 rfl (a118.trans rfl) (eqA (p:=(r22.2:Qe)) (q:=(r104:Qe)) K7 rfl eg_50 rfl (a119.trans rfl) (a121.trans rfl))) ?_
       refine zd [[]] ?_
       refine dd [] (fun _ _ _ _=>obk hb106 ops) ?_
       refine dG [] (fun _ _ _ _=>c0 (Xk _ h108)) ?_
       refine zd [[],[]] ?_
       refine de fol ?_
       refine z [4] ?_
       exact sj (hj99 _) (eR [])
     refine sd ?_
     refine zd [[102],[107]] ?_
     refine dd [] (fun _ _ _ _=>c0 (Wr _ h102)) ?_
     refine dd [] (fun _ _ _ _=>obk hb103 ops) ?_
     refine zd [[103],[108]] ?_
     refine dG [] (fun _ _ _ _=>c0 (Qao _ h105)) ?_
     refine dx [118,119,121] [] (fun st mm ⟨a118,a119,a121,_⟩ _=>ogG 118 rfl (a118.trans rfl) (eqA (p:=(r22.2:Qe)) (q:=(r104:Qe)) K7 rfl eg_50 rfl (a119.trans rfl) (a121.trans rfl))) ?_
     refine zd [[]] ?_
     refine dd [] (fun _ _ _ _=>obk hb106 ops) ?_
     refine zd [[],[],[]] ?_
     refine de fol ?_
     refine z [4] ?_
     exact sj (hj99 _) (eR [])
   refine sd ?_
   refine zd [[102],[107]] ?_
   refine dd [] (fun _ _ _ _=>c0 (Wr _ h102)) ?_
   refine dd [] (fun _ _ _ _=>obk hb103 ops) ?_
   refine zd [[],[],[],[],[],[],[],[],[]] ?_
   refine de fol ?_
   refine z [4] ?_
   exact sj (hj99 _) (eR [])
 intro s100
 refine z [8] ?_
 exact rt []
end Go.Proofs.YthbndkiddockmaaGreatDoor
