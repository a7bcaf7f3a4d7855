import Derived.Test.YtlfphifbmoccgaaGreatDoorChecked
import Derived.Test.YtlfphifbmoccgaaGreatDoorSC
import Derived.Test.YtlfphifbmoccgaaGreatDoorBld
import Derived.Test.YtlfphifbmoccgaaGreatDoorLib
import Derived.Test.YtlfphifbmoccgaaGreatDoorMod
import Derived.Test.YtlfphifbmoccgaaGreatDoorModc
import Derived.Test.YtlfphifbmoccgaaGreatDoorGen0
set_option maxRecDepth 100000
set_option maxHeartbeats 4000000
namespace Go.Proofs.YtlfphifbmoccgaaGreatDoor
open Go Go.RowKit
theorem K4{n:Nat}{x0}:∀ r,Ka n x0=some r->FnOk Tryz.prog 85 [sli 1 (List.map u32 x0)] [] (.own 50) [(50,.sl 184 1 (List.map u32 r))]:=by
 unfold Ka;refine fs Tryz.func85 λw S0 γ hγ=>?_;refine z [2] ?_;refine s1 (asg rfl (kLm (k:=1) u32)) ?_;refine z [1,2,30,39,31,1,5,7] ?_;refine sloopE 0 (λt=>t) (λs19=>[(0,sli 1 (List.map u32 x0)),(2,sli 1 (List.map u32 ([]:List Nat))),(3,i64 s19)]) (λs19=>[]) (λt17=>[(0,sli 1 (List.map u32 x0)),(2,sli 1 (List.map u32 ([]:List Nat))),(3,i64 t17)]) (λt17=>[]) eI ?_ ?_;intro hj18 s19;refine z [5] ?_;refine sjq (λs24=>[(0,sli 1 (List.map u32 x0)),(2,sli 1 (List.map u32 ([]:List Nat))),(3,i64 s19),(15,bl s24)]) (λs24=>[]) ?_ ?_;intro j22 hj23;refine z [6,30,47,30] ?_;refine sifd 8 rfl ?_ ?_;refine z [22,22,22] ?_;refine b λy25 h26=>?_;refine z [22,22,22,38,1] ?_;exact sj (hj23 _) eI;refine z [23,23,23,23,23,23,37,1] ?_;exact sj (hj23 _) eI;intro s24;refine c ?_ ?_;refine z [9,4,7,6,30,49,31,3,11] ?_;exact sgo eI;refine z [14,15] ?_;exact su (sj (hj18 _) eI);intro t17;refine z [13,4,2] ?_;refine so (bsl (y:=100) (ls:=List.map u32 ([]:List Nat)) Tryz.underlying32 Vz.h rfl rfl rfl rfl rfl trivial rfl rfl) ?_;refine z [30,30] ?_;refine b λy27 h28=>?_;refine s1 (slR (f:=u32) h28 Tryz.underlying32 Vz.h rfl rfl bnd0 (bnd rfl)) ?_;refine b λy29 h30=>?_;refine o (app' 101) ?_;refine z [31,1,8] ?_;exact rt [(50,101)]
theorem Qkl{x0}:∀ r,Zw x0=some r->FnOk Tryz.prog 86 [sli 1 (List.map u32 x0)] [] (bl r) []:=by
 unfold Zw;refine fs Tryz.func86 λw S0 γ hγ=>?_;refine z [2,31,1] ?_;refine sjq (λs5=>[(2,bl s5)]) (λs5=>[]) ?_ ?_;intro j3 hj4;refine z [6,30,39,41,30] ?_;refine sifd 6 rfl ?_ ?_;refine z [22] ?_;refine b λy6 h7=>?_;refine z [22,22,22,38,31,1] ?_;exact sj (hj4 _) eI;refine z [23,23,23,23,37,31,1] ?_;exact sj (hj4 _) eI;intro s5;refine z [8] ?_;exact rt []
theorem Qp1{n:Nat}{x0}:∀ r,Y5 n x0=some r->FnOk Tryz.prog 222 [u32 x0] [] (i64 r) []:=by
 unfold Y5;refine fs Tryz.func222 λw S0 γ hγ=>?_;refine z [2,31,1,5,2,30,66,1] ?_;refine c ?_ ?_;refine z [2,31,1,8,10] ?_;exact rt [];refine z [9,4,2,31,1,5,7] ?_;refine sloopE 0 (λt=>t) (λs5=>[(0,u32 s5.1),(2,i64 (0:Int)),(3,i64 s5.2)]) (λs5=>[]) (λt3=>[(2,i64 (0:Int)),(3,i64 t3)]) (λt3=>[]) eI ?_ ?_;intro hj4 s5;refine z [5,2,30,81,66,1] ?_;refine c ?_ ?_;refine z [9,4,7,2,30,80,31,1,6,30,40,31,3,11] ?_;exact sgo eI;refine z [14,15] ?_;exact su (sj (hj4 _) eI);intro t3;refine z [13,4,2,30,31,1,8] ?_;exact rt []
theorem Qq4{n:Nat}{x0}{x0o}{x0l}{x1}:∀ r,Zm n x0 x0o x0l x1=some r->FnOk Tryz.prog 223 [.win 0 x0o x0l,i64 x1] [(0,.sl 184 1 (List.map u32 x0))] (.win 0 r.1 r.2.1) [(0,.sl 184 1 (List.map u32 r.2.2))]:=by
 unfold Zm;refine fs Tryz.func223 λw S0 γ hγ=>?_;refine z [2] ?_;refine s1 (asg rfl (kLm (k:=1) u32)) ?_;refine z [1,5,2,31,1,7] ?_;refine sloopE 0 (λt=>t) (λs41=>[(0,.win 0 x0o x0l),(1,i64 x1),(4,sli 1 (List.map u32 ([]:List Nat))),(5,i64 s41.2)]) (λs41=>[(0,.sl 184 1 (List.map u32 s41.1))]) (λt39=>[(0,.win 0 x0o x0l),(4,sli 1 (List.map u32 ([]:List Nat)))]) (λt39=>[(0,.sl 184 1 (List.map u32 t39))]) (eR [(0,0)]) ?_ ?_;intro hj40 s41;refine z [5,2,30,30,87,46,1] ?_;refine c ?_ ?_;refine z [9,4,5,7,2,31,1] ?_;refine sjq (λs47=>[(0,.win 0 x0o x0l),(1,i64 x1),(4,sli 1 (List.map u32 ([]:List Nat))),(5,i64 s41.2),(6,u64 s47)]) (λs47=>[(0,.sl 184 1 (List.map u32 s41.1))]) ?_ ?_;intro j45 hj46;refine z [2,30,40,30,87,46,1] ?_;refine c ?_ ?_;refine z [6,30,30,40] ?_;refine b λ_ h50=>?_;refine b λy48 h49=>?_;refine s1 (ixW (f:=u32) (Qcb h50) rfl Tryz.underlying32 Vz.h h49 rfl rfl rfl) ?_;refine z [51,59,31,1] ?_;exact sj (hj46 _) (eR [(0,0)]);refine z [9,4] ?_;exact sj (hj46 _) (eR [(0,0)]);intro s47;refine z [6,30,30,30,63,30,30] ?_;refine b λ_ h53=>?_;refine b λy51 h52=>?_;refine s1 (ixW (f:=u32) (Qcb h53) rfl Tryz.underlying32 Vz.h h52 rfl rfl rfl) ?_;refine z [51,59,61] ?_;refine sbn (F:=u64) 33 rfl λz54=>?_;refine z [30] ?_;refine b λ_ h55=>?_;refine s1 (shrU uk64 (ge0 h55) rfl rfl rfl) ?_;refine z [60] ?_;refine b λ_ h58=>?_;refine b λy56 h57=>?_;refine s1 (ixW (f:=u32) (Qcb h58) rfl Tryz.underlying32 Vz.h h57 rfl rfl rfl) ?_;refine z [53] ?_;refine sbm (C:=λx=>.sl 184 1 (List.map u32 x)) 0 rfl λz59=>?_;refine z [3,11,4,6,30,40,31,3] ?_;exact sgo (eR [(0,0)]);refine z [14,15] ?_;exact su (sj (hj40 _) (eR [(0,0)]));intro t39;refine z [13,4,5,7] ?_;refine sloopE 2 (λt=>t) (λs84=>[(0,.win 0 s84.1 s84.2),(4,sli 1 (List.map u32 ([]:List Nat)))]) (λs84=>[(0,.sl 184 1 (List.map u32 t39))]) (λt82=>[(0,.win 0 t82.1 t82.2),(4,sli 1 (List.map u32 ([]:List Nat)))]) (λt82=>[(0,.sl 184 1 (List.map u32 t39))]) (eR [(0,0)]) ?_ ?_;intro hj83 s84;refine z [5] ?_;refine sjq (λs90=>[(0,.win 0 s84.1 s84.2),(4,sli 1 (List.map u32 ([]:List Nat))),(49,bl s90)]) (λs90=>[(0,.sl 184 1 (List.map u32 t39))]) ?_ ?_;intro j88 hj89;refine z [6,30,87,47,30] ?_;refine sifd 41 rfl ?_ ?_;refine z [22,22,22,22] ?_;refine b λ_ h93=>?_;refine b λy91 h92=>?_;refine sg 41 rfl rfl (ixW (f:=u32) (Qcb h93) rfl Tryz.underlying32 Vz.h h92 rfl rfl rfl) ?_;refine z [22,22,38,1] ?_;exact sj (hj89 _) (eR [(0,0)]);refine z [23,23,23,23,23,23,23,37,1] ?_;exact sj (hj89 _) (eR [(0,0)]);intro s90;refine c ?_ ?_;refine z [9,4,7,6,30,30,87,49] ?_;refine b λ_ h94=>?_;refine s1 (slW (Qcb h94) rfl Tryz.underlying32 Vz.h rfl rfl bnd0 (bnd rfl)) ?_;refine z [31,3,11] ?_;exact sgo (eR [(0,0)]);refine z [14,15] ?_;exact su (sj (hj83 _) (eR [(0,0)]));intro t82;refine z [13,4,2,30,31,1,8] ?_;exact rt [(0,0)]
theorem Qgd{n:Nat}{x0}{x0o}{x0l}:∀ r,Wz n x0 x0o x0l=some r->FnOk Tryz.prog 158 [.win 0 x0o x0l] [(0,.sl 184 1 (List.map u32 x0))] (.tup [.win 0 r.1 r.2.1,i64 r.2.2.1]) [(0,.sl 184 1 (List.map u32 r.2.2.2))]:=by
 unfold Wz;refine fs Tryz.func158 λw S0 γ hγ=>?_;refine z [2] ?_;refine s1 (asg rfl (kLm (k:=1) u32)) ?_;refine z [31,1,2,31,1,5,7] ?_;refine sloopE 0 (λt=>t) (λs13=>[(0,.win 0 s13.1 s13.2.1),(2,sli 1 (List.map u32 ([]:List Nat))),(3,i64 (0:Int)),(4,i64 s13.2.2)]) (λs13=>[(0,.sl 184 1 (List.map u32 x0))]) (λt11=>[(0,.win 0 t11.1 t11.2.1),(2,sli 1 (List.map u32 ([]:List Nat))),(3,i64 (0:Int)),(4,i64 t11.2.2)]) (λt11=>[(0,.sl 184 1 (List.map u32 x0))]) (eR [(0,0)]) ?_ ?_;intro hj12 s13;refine z [5,2,30] ?_;refine b λ_ h16=>?_;refine b λy14 h15=>?_;refine s1 (ixW (f:=u32) (Qcb h16) rfl Tryz.underlying32 Vz.h h15 rfl rfl (kI (x:=0) rfl)) ?_;refine z [51,66,1] ?_;refine c ?_ ?_;refine z [9,4,7,2,30] ?_;refine b λ_ h17=>?_;refine s1 (slW (Qcb h17) rfl Tryz.underlying32 Vz.h rfl rfl (bnd (kI (x:=1) rfl)) bnd0) ?_;refine z [31,1,6,30,40,31,3,11] ?_;exact sgo (eR [(0,0)]);refine z [14,15] ?_;exact su (sj (hj12 _) (eR [(0,0)]));intro t11;refine z [13,4,2,30] ?_;refine b λ_ h20=>?_;refine b λy18 h19=>?_;refine s1 (ixW (f:=u32) (Qcb h20) rfl Tryz.underlying32 Vz.h h19 rfl rfl (kI (x:=0) rfl)) ?_;refine z [51] ?_;refine cb (ca Qp1) λr21=>?_;refine z [31,1,2,30,30] ?_;refine b λr23 h24=>?_;refine o (cG (Qq4 _ h24) [0] [] []) ?_;refine z [30,30,40,31,31,1,8] ?_;exact rt [(0,0)]
theorem Zc{x0}{x1}:∀ r,V6 x0 x1=some r->FnOk Tryz.prog 180 [sli 1 (List.map u32 x0),i64 x1] [] (u32 r) []:=by
 unfold V6;refine fs Tryz.func180 λw S0 γ hγ=>?_;refine z [2,31,1,5,2,30,30,39,46,1] ?_;refine c ?_ ?_;refine z [2,30,30] ?_;refine b λy1 h2=>?_;refine z [43,42,31,1,8,10] ?_;exact rt [];refine z [9,4,2,31,1,8] ?_;exact rt []
theorem Qge{n:Nat}{x0}{x1}:∀ r,Yr n x0 x1=some r->FnOk Tryz.prog 159 [sli 1 (List.map u32 x0),sli 1 (List.map u32 x1)] [] (i64 r) []:=by
 unfold Yr;refine fs Tryz.func159 λw S0 γ hγ=>?_;refine z [2,31,1,5,2,30,39,30,39,88,49,31,1,7] ?_;refine sloopE 0 Lp.go (λs15=>[(0,sli 1 (List.map u32 x0)),(1,sli 1 (List.map u32 x1)),(4,i64 (0:Int)),(5,i64 s15)]) (λs15=>[]) (λt13=>[(4,i64 (0:Int))]) (λt13=>[]) eI ?_ ?_;intro hj14 s15;refine z [5,2,30,57,1] ?_;refine c ?_ ?_;refine z [9,4,5,7,2,30,30] ?_;refine cb (ca Zc) λr16=>?_;refine z [31,1,2,30,30] ?_;refine cb (ca Zc) λr18=>?_;refine z [31,1,5,2,30,30,68,1] ?_;refine c ?_ ?_;refine z [2,31,1,8,10,12,10] ?_;refine sU ?_;refine z [12,10] ?_;exact rt [];refine z [9,4,2,30,30,69,1] ?_;refine c ?_ ?_;refine z [2,31,1,8,12,10] ?_;refine sU ?_;refine z [12,10] ?_;exact rt [];refine z [9,11,4,6,30,49,31,3] ?_;exact sgo eI;refine z [14,15] ?_;exact su (sj (hj14 _) eI);intro t13;refine slpk ?_;refine z [13,4,2,31,1,8] ?_;exact rt []
theorem Qjq{n:Nat}{x0}{x0o}{x0l}{x1}:∀ r,Xe n x0 x0o x0l x1=some r->FnOk Tryz.prog 160 [.win 0 x0o x0l,sli 1 (List.map u32 x1)] [(0,.sl 184 1 (List.map u32 x0))] (.tup []) [(0,.sl 184 1 (List.map u32 r))]:=by
 unfold Xe;refine fs Tryz.func160 λw S0 γ hγ=>?_;refine z [2,31,1,2,31,1,7] ?_;refine sloopE 0 (λt=>t) (λs30=>[(0,.win 0 x0o x0l),(1,sli 1 (List.map u32 x1)),(4,u64 s30.2.1),(5,i64 s30.2.2)]) (λs30=>[(0,.sl 184 1 (List.map u32 s30.1))]) (λt28=>[]) (λt28=>[(0,.sl 184 1 (List.map u32 t28))]) (eR [(0,0)]) ?_ ?_;intro hj29 s30;refine z [5,2,30,30,87,46,1] ?_;refine c ?_ ?_;refine z [9,4,5,7,2,30,30] ?_;refine b λ_ h33=>?_;refine b λy31 h32=>?_;refine s1 (ixW (f:=u32) (Qcb h33) rfl Tryz.underlying32 Vz.h h32 rfl rfl rfl) ?_;refine z [51,59,31,1,2,30,30] ?_;refine cb (ca Zc) λr34=>?_;refine z [59,30,61,31,1,2,31,1] ?_;refine sjq (λs38=>[(0,.win 0 x0o x0l),(1,sli 1 (List.map u32 x1)),(4,u64 s38.1),(5,i64 s30.2.2),(6,u64 s38.2),(7,u64 ((r34+s30.2.1)%18446744073709551616))]) (λs38=>[(0,.sl 184 1 (List.map u32 s30.1))]) ?_ ?_;intro j36 hj37;refine z [2,30,30,68,1] ?_;refine c ?_ ?_;refine z [2,30,61,31,1,6,31,1] ?_;exact sj (hj37 _) (eR [(0,0)]);refine z [9,4] ?_;exact sj (hj37 _) (eR [(0,0)]);intro s38;refine z [6,30,30,30,30,62] ?_;refine sbn (F:=u64) 34 rfl λz39=>?_;refine z [60] ?_;refine b λ_ h42=>?_;refine b λy40 h41=>?_;refine s1 (ixW (f:=u32) (Qcb h42) rfl Tryz.underlying32 Vz.h h41 rfl rfl rfl) ?_;refine z [53] ?_;refine sbm (C:=λx=>.sl 184 1 (List.map u32 x)) 0 rfl λz43=>?_;refine z [3,11,4,6,30,40,31,3] ?_;exact sgo (eR [(0,0)]);refine z [14,15] ?_;exact su (sj (hj29 _) (eR [(0,0)]));intro t28;refine z [13] ?_;exact rt [(0,0)]
theorem Z0{n:Nat}{x0}{x1}:∀ r,We n x0 x1=some r->FnOk Tryz.prog 110 [sli 1 (List.map u32 x0),sli 1 (List.map u32 x1)] [] (sli 1 (List.map u32 r)) []:=by
 unfold We;refine fs Tryz.func110 λw S0 γ hγ=>?_;refine z [2] ?_;refine s1 (asg rfl (kLm (k:=1) u32)) ?_;refine z [1,2,30,39,30,39,40] ?_;refine b λy1 h2=>?_;refine so (mks (y:=100) (f:=u32) h2 Tryz.underlying32 Vz.h Qdo rfl rfl rfl rfl rfl rfl) ?_;refine z [31,1,5,2,31,1,7] ?_;refine sloopE 0 (λt=>t) (λs77=>[(0,sli 1 (List.map u32 x0)),(1,sli 1 (List.map u32 x1)),(4,sli 1 (List.map u32 ([]:List Nat))),(5,.own 100),(6,i64 s77.2)]) (λs77=>[(100,.sl 184 1 (List.map u32 s77.1))]) (λt75=>[(4,sli 1 (List.map u32 ([]:List Nat))),(5,.own 100)]) (λt75=>[(100,.sl 184 1 (List.map u32 t75))]) (eR [(100,100)]) ?_ ?_;intro hj76 s77;refine z [5,2,30,30,39,46,1] ?_;refine c ?_ ?_;refine z [9,4,5,7,2,31,1,5,2,31,1,7] ?_;refine sloopE 2 (λt=>t) (λs92=>[(0,sli 1 (List.map u32 x0)),(1,sli 1 (List.map u32 x1)),(4,sli 1 (List.map u32 ([]:List Nat))),(5,.own 100),(6,i64 s77.2),(7,u64 s92.2.1),(8,i64 s92.2.2)]) (λs92=>[(100,.sl 184 1 (List.map u32 s92.1))]) (λt90=>[(0,sli 1 (List.map u32 x0)),(1,sli 1 (List.map u32 x1)),(4,sli 1 (List.map u32 ([]:List Nat))),(5,.own 100),(6,i64 s77.2),(7,u64 t90.2)]) (λt90=>[(100,.sl 184 1 (List.map u32 t90.1))]) (eR [(100,100)]) ?_ ?_;intro hj91 s92;refine z [5,2,30,30,39,46,1] ?_;refine c ?_ ?_;refine z [9,4,5,7,5] ?_;refine b λy93 h94=>?_;refine b λy95 h96=>?_;refine b λy97 h98=>?_;refine sd ?_;refine zd [[],[],[],[],[],[],[],[],[],[],[],[],[],[],[],[],[100],[100],[],[],[],[]] ?_;refine de fol ?_;refine sbn (F:=u64) 7 rfl λz99=>?_;refine sbn (F:=u64) 47 rfl λz100=>?_;refine z [4,2,30,30,30,40,30,81,60] ?_;refine b λy101 h102=>?_;refine z [50,53] ?_;refine sbm (C:=λx=>.sl 184 1 (List.map u32 x)) 100 rfl λz103=>?_;refine z [1,6,30,80,31,3,11,4,6,30,40,31,3] ?_;exact sgo (eR [(100,100)]);refine z [14,15] ?_;exact su (sj (hj91 _) (eR [(100,100)]));intro t90;refine z [13,4,6,30,30,30,39,40,30,60] ?_;refine b λy104 h105=>?_;refine z [50,53] ?_;refine sbm (C:=λx=>.sl 184 1 (List.map u32 x)) 100 rfl λz106=>?_;refine z [3,11,4,6,30,40,31,3] ?_;exact sgo (eR [(100,100)]);refine z [14,15] ?_;exact su (sj (hj76 _) (eR [(100,100)]));intro t75;refine z [13,4,2,30] ?_;refine b λr107 h108=>?_;refine so (callL (em:=[(101,.sl 184 1 (List.map u32 r107))]) (res':=.own 101) [100] [] [(101,50)] [(101,50)] rfl (K4 _ h108) ⟨Qcc (f:=u32) (λ_=>Qeb) _,trivial⟩ (Qfx) ⟨.inr ⟨100,rfl,.inl ⟨rfl,.inl ⟨_,_,_,rfl,Jq (f:=u32) (λ_=>Wi) t75,rfl⟩⟩⟩,trivial⟩ (MiF.get (mi:=[]) trivial) trivial rfl ⟨rfl,trivial⟩ ⟨.inl rfl,trivial⟩ rfl ⟨.inl ⟨_,_,rfl,rfl,rc_sl (Jq (f:=u32) (λ_=>Wi) r107)⟩,trivial⟩ trivial ⟨⟨_,rfl⟩,trivial⟩ (Vn rfl) rfl) ?_;refine z [31,1,8] ?_;refine fz 101 [4,67] [] ?_;exact rt []
theorem Qpd{n:Nat}{x0}{x1}:∀ r,Qaa n x0 x1=some r->FnOk Tryz.prog 161 [sli 1 (List.map u32 x0),i64 x1] [] (sli 1 (List.map u32 r)) []:=by
 unfold Qaa;refine fs Tryz.func161 λw S0 γ hγ=>?_;refine z [2] ?_;refine s1 (asg rfl (kLm (k:=1) u32)) ?_;refine z [1,2,30,78] ?_;refine b λy1 h2=>?_;refine so (mks (y:=100) (f:=u32) h2 Tryz.underlying32 Vz.h Qdo rfl rfl rfl rfl rfl rfl) ?_;refine z [30] ?_;refine b λy3 h4=>?_;refine o (app' 101) ?_;refine z [31,1,2,30,30,79] ?_;refine b λ_ h5=>?_;refine s1 (shlU uk32 (ge0 h5) rfl (k32 (x:=1) rfl) rfl) ?_;refine so (bsl (y:=102) (ls:=List.map u32 ([((1*2 ^ (min (Int.toNat (Int.tmod x1 (32:Int))) 32))%4294967296)]:List Nat)) Tryz.underlying32 Vz.h rfl rfl rfl rfl rfl ⟨rfl,rfl,(by exact rfl),(by exact rfl),trivial⟩ rfl rfl) ?_;refine sbm (C:=λx=>.sl 184 1 (List.map u32 x)) 102 rfl λz6=>?_;refine fz 101 [5,10,11] [] ?_;refine fz 102 [15] [] ?_;refine cb (ca Z0) λr7=>?_;refine z [31,1,8] ?_;exact rt []
theorem Qri{n:Nat}{x0}{x1}:∀ r,Qbc n x0 x1=some r->FnOk Tryz.prog 87 [sli 1 (List.map u32 x0),sli 1 (List.map u32 x1)] [] (sli 1 (List.map u32 r)) []:=by
 unfold Qbc
 refine fs Tryz.func87 λw S0 γ hγ=>?_
 refine z [2] ?_
 refine s1 (asg rfl (kLm (k:=1) u32)) ?_
 refine z [1,2,30] ?_
 refine b λr1 h2=>?_
 refine o (cG (K4 _ h2) [] [(100,50)] []) ?_
 refine z [31,1,2,30] ?_
 refine b λr3 h4=>?_
 refine o (cG (K4 _ h4) [] [(101,50)] []) ?_
 refine z [31,1,5,2,30,55,41,1] ?_
 refine c ?_ ?_
 . refine z [2,30,31,1,8,10] ?_
   refine fz 101 [4,6,14,18] [] ?_
   exact rt []
 refine z [9,4,5,2,30,55,41,1] ?_
 refine c ?_ ?_
 . refine z [2,30,31,1,8,10] ?_
   refine fz 100 [4,5,12,15,22] [] ?_
   exact rt []
 refine z [9,4,2,30] ?_
 refine owW 24 (n:=r1.length) rfl rfl (List.length_map _).symm ?_
 refine b λr5 h6=>?_
 refine o (cG (Qgd _ h6) [100] [] []) ?_
 refine z [30,35,35,31,31,1,2,30] ?_
 refine owW 29 (n:=r3.length) rfl rfl (List.length_map _).symm ?_
 refine b λr7 h8=>?_
 refine o (cG (Qgd _ h8) [101] [] []) ?_
 refine z [30,35,35,31,31,1,5,7] ?_
 refine sloopE 0 (λt=>t) (λs43=>[(4,sli 1 (List.map u32 ([]:List Nat))),(5,.win 100 s43.2.1 s43.2.2.1),(6,.win 101 s43.2.2.2.2.1 s43.2.2.2.2.2),(7,i64 r5.2.2.1),(8,i64 r7.2.2.1)]) (λs43=>[(100,.sl 184 1 (List.map u32 s43.1)),(101,.sl 184 1 (List.map u32 s43.2.2.2.1))]) (λt41=>[(4,sli 1 (List.map u32 ([]:List Nat))),(5,.win 100 t41.2.1 t41.2.2),(7,i64 r5.2.2.1),(8,i64 r7.2.2.1)]) (λt41=>[(100,.sl 184 1 (List.map u32 t41.1))]) (eR [(100,100),(101,101)]) ?_ ?_
 . intro hj42 s43
   refine z [7,2,30,30] ?_
   refine b λy44 h45=>?_
   refine b λy46 h47=>?_
   refine b λr48 h49=>?_
   refine s1 (callL (em:=[]) [100,101] [] [] [] rfl (Qge _ h49) trivial (Q2r) ⟨.inr ⟨100,rfl,.inr ⟨_,_,_,_,rfl,rfl,Jq (f:=u32) (λ_=>Wi) s43.1,Qsd h45,Qse h45⟩⟩,.inr ⟨101,rfl,.inr ⟨_,_,_,_,rfl,rfl,Jq (f:=u32) (λ_=>Wi) s43.2.2.2.1,Qsd h47,Qse h47⟩⟩,trivial⟩ (λ_ _ h=>by cases h) trivial rfl trivial trivial rfl trivial trivial trivial (rn_id (Xl)) rfl) ?_
   refine z [31,1,5,2,30,41,1] ?_
   refine c ?_ ?_
   . refine z [14,15,21] ?_
     exact su (sj (hj42 _) (eR [(100,100)]))
   refine z [9,4] ?_
   refine sjq (λs52=>[(4,sli 1 (List.map u32 ([]:List Nat))),(5,.win 101 s52.2.1 s52.2.2.1),(6,.win 100 s52.2.2.2.2.1 s52.2.2.2.2.2),(7,i64 r5.2.2.1),(8,i64 r7.2.2.1)]) (λs52=>[(101,.sl 184 1 (List.map u32 s52.1)),(100,.sl 184 1 (List.map u32 s52.2.2.2.1))]) ?_ ?_
   . intro j50 hj51
     refine z [2,30,46,1] ?_
     refine c ?_ ?_
     . refine z [2,30,31,1,2,30,31,1,6,30,31,1] ?_
       exact sj (hj51 _) (eR [(101,101),(100,100)])
     refine z [9,4] ?_
     exact sj (hj51 _) (eR [(101,100),(100,101)])
   intro s52
   refine z [2,30,30] ?_
   refine b λy53 h54=>?_
   refine b λr55 h56=>?_
   refine so (callL (em:=[(101,.sl 184 1 (List.map u32 r55))]) (res':=.tup []) [100] [(0,101)] [] [(101,0)] rfl (Qjq _ h56) ⟨Qcc (f:=u32) (λ_=>Qeb) _,trivial⟩ (Jct (Q5m)) ⟨.inl ⟨_,rfl,Qja rfl⟩,.inr ⟨100,rfl,.inr ⟨_,_,_,_,rfl,rfl,Jq (f:=u32) (λ_=>Wi) s52.2.2.2.1,Qsd h54,Qse h54⟩⟩,trivial⟩ (MiF.get (mi:=[(0,_)]) ⟨⟨_,_,rfl,rfl,rc_sl (Jq (f:=u32) (λ_=>Wi) s52.1)⟩,trivial⟩) ⟨⟨_,rfl⟩,trivial⟩ rfl trivial ⟨.inr rfl,trivial⟩ rfl ⟨.inl ⟨_,_,rfl,rfl,rc_sl (Jq (f:=u32) (λ_=>Wi) r55)⟩,trivial⟩ ⟨⟨_,rfl⟩,trivial⟩ trivial (Qc2 (Vm)) rfl) ?_
   refine z [1,6,30] ?_
   refine b λr57 h58=>?_
   refine o (cG (Qgd _ h58) [101] [] []) ?_
   refine z [30,35,35,31,3,11] ?_
   exact sgo (eR [(100,101),(101,100)])
 intro t41
 refine z [13,4,2,30,30,30,89] ?_
 refine b λy59 h60=>?_
 refine frzW 51 (f:=u32) h60 rfl rfl (Jq (f:=u32) (λ_=>Wi) t41.1) ?_
 refine cb (ca Qpd) λr61=>?_
 refine z [31,1,8] ?_
 exact rt []
theorem Qrj{n:Nat}{x0}{x1}:∀ r,Qbd n x0 x1=some r->FnOk Tryz.prog 276 [sli 1 (List.map u32 x0),i64 x1] [] (bl r) []:=by
 unfold Qbd;refine fs Tryz.func276 λw S0 γ hγ=>?_;refine z [2,31,1,5] ?_;refine sjq (λs3=>[(0,sli 1 (List.map u32 x0)),(1,i64 x1),(4,bl false),(15,bl s3)]) (λs3=>[]) ?_ ?_;intro j1 hj2;refine z [6,30,46,30] ?_;refine sifd 9 rfl ?_ ?_;refine z [23,23,23,23,23,38,1] ?_;exact sj (hj2 _) eI;refine z [22,22,22,22,22,37,1] ?_;exact sj (hj2 _) eI;intro s3;refine c ?_ ?_;refine z [2,31,1,8,10] ?_;exact rt [];refine z [9,4,2,30,30,78] ?_;refine b λy4 h5=>?_;refine z [43,42,31,1,5,2,31,1,7] ?_;refine sloopE 0 (λt=>t) (λs10=>[(1,i64 x1),(4,bl false),(5,u32 s10.1),(6,i64 s10.2)]) (λs10=>[]) (λt8=>[(4,bl false),(5,u32 t8)]) (λt8=>[]) eI ?_ ?_;intro hj9 s10;refine z [5,2,30,30,79,46,1] ?_;refine c ?_ ?_;refine z [9,4,5,7,6,30,80,31,3,11,4,6,30,40,31,3] ?_;exact sgo eI;refine z [14,15] ?_;exact su (sj (hj9 _) eI);intro t8;refine z [13,4,2,30,81,66,31,1,8] ?_;exact rt []
theorem Qrk{n:Nat}{x0}:∀ r,Qbe n x0=some r->FnOk Tryz.prog 224 [sli 1 (List.map u32 x0)] [] (i64 r) []:=by
 unfold Qbe;refine fs Tryz.func224 λw S0 γ hγ=>?_;refine z [2,31,1,2,30,39,76,31,1,5,7] ?_;refine sloopE 0 (λt=>t) (λs19=>[(0,sli 1 (List.map u32 x0)),(2,i64 (0:Int)),(3,i64 s19)]) (λs19=>[]) (λt17=>[(2,i64 (0:Int)),(3,i64 t17)]) (λt17=>[]) eI ?_ ?_;intro hj18 s19;refine z [5] ?_;refine sjq (λs24=>[(0,sli 1 (List.map u32 x0)),(2,i64 (0:Int)),(3,i64 s19),(15,bl s24)]) (λs24=>[]) ?_ ?_;intro j22 hj23;refine z [6,30,47,30] ?_;refine sifd 9 rfl ?_ ?_;refine z [22,22,22] ?_;refine b λr25 h26=>?_;refine og' (c0 (Qrj _ h26)) ?_;refine z [22,38,1] ?_;exact sj (hj23 _) eI;refine z [23,23,23,23,23,37,1] ?_;exact sj (hj23 _) eI;intro s24;refine c ?_ ?_;refine z [9,4,7,6,30,49,31,3,11] ?_;exact sgo eI;refine z [14,15] ?_;exact su (sj (hj18 _) eI);intro t17;refine z [13,4,2,30,31,1,8] ?_;exact rt []
theorem Qii{n:Nat}{x0}{x1}:∀ r,Xm n x0 x1=some r->FnOk Tryz.prog 225 [.own 0,bl x1] [(0,.sl 184 1 (List.map u32 x0))] (.tup []) [(0,.sl 184 1 (List.map u32 r))]:=by
 unfold Xm;refine fs Tryz.func225 λw S0 γ hγ=>?_;refine z [2,31,1] ?_;refine sjq (λs3=>[(0,.own 0),(4,u32 s3)]) (λs3=>[(0,.sl 184 1 (List.map u32 x0))]) ?_ ?_;intro j1 hj2;refine z [2,30,1] ?_;refine c ?_ ?_;refine z [6,31,1] ?_;exact sj (hj2 _) (eR [(0,0)]);refine z [9,4] ?_;exact sj (hj2 _) (eR [(0,0)]);intro s3;refine z [2,31,1,7] ?_;refine sloopE 0 (λt=>t) (λs22=>[(0,.own 0),(4,u32 s22.2.1),(5,i64 s22.2.2)]) (λs22=>[(0,.sl 184 1 (List.map u32 s22.1))]) (λt20=>[]) (λt20=>[(0,.sl 184 1 (List.map u32 t20))]) (eR [(0,0)]) ?_ ?_;intro hj21 s22;refine z [5,2,30,30,55,46,1] ?_;refine c ?_ ?_;refine z [9,4,5,7,2,30,30] ?_;refine b λy23 h24=>?_;refine z [50,51,80,31,1,2,30,30,30,30] ?_;refine b λy25 h26=>?_;refine z [50,51,63,30,61] ?_;refine b λy27 h28=>?_;refine z [50,53] ?_;refine sbm (C:=λx=>.sl 184 1 (List.map u32 x)) 0 rfl λz29=>?_;refine z [1,6,30,31,3,11,4,6,30,40,31,3] ?_;exact sgo (eR [(0,0)]);refine z [14,15] ?_;exact su (sj (hj21 _) (eR [(0,0)]));intro t20;refine z [13] ?_;exact rt [(0,0)]
theorem Qrl{n:Nat}{x0}{x1}:∀ r,Qbf n x0 x1=some r->FnOk Tryz.prog 162 [sli 1 (List.map u32 x0),sli 1 (List.map u32 x1)] [] (.tup [sli 1 (List.map u32 r.1),sli 1 (List.map u32 r.2)]) []:=by
 unfold Qbf
 refine fs Tryz.func162 λw S0 γ hγ=>?_
 refine z [2] ?_
 refine s1 (asg rfl (kLm (k:=1) u32)) ?_
 refine s1 (asg rfl (kLm (k:=1) u32)) ?_
 refine z [1,2,30,39] ?_
 refine b λy1 h2=>?_
 refine so (mks (y:=100) (f:=u32) h2 Tryz.underlying32 Vz.h Qdo rfl rfl rfl rfl rfl rfl) ?_
 refine z [31,1,2,30,39,40] ?_
 refine b λy3 h4=>?_
 refine so (mks (y:=101) (f:=u32) h4 Tryz.underlying32 Vz.h Qdo rfl rfl rfl rfl rfl rfl) ?_
 refine z [31,1,5,2,30] ?_
 refine cb (ca Qrk) λr5=>?_
 refine z [49,31,1,7] ?_
 refine sloopE 0 (λt=>t) (λs97=>[(0,sli 1 (List.map u32 x0)),(1,sli 1 (List.map u32 x1)),(4,sli 1 (List.map u32 ([]:List Nat))),(5,sli 1 (List.map u32 ([]:List Nat))),(6,.own 100),(7,.own 101),(8,i64 s97.2.2)]) (λs97=>[(100,.sl 184 1 (List.map u32 s97.1)),(101,.sl 184 1 (List.map u32 s97.2.1))]) (λt95=>[(4,sli 1 (List.map u32 ([]:List Nat))),(5,sli 1 (List.map u32 ([]:List Nat))),(6,.own 100),(7,.own 101)]) (λt95=>[(100,.sl 184 1 (List.map u32 t95.1)),(101,.sl 184 1 (List.map u32 t95.2))]) (eR [(100,100),(101,101)]) ?_ ?_
 . intro hj96 s97
   refine z [5,2,30,57,1] ?_
   refine c ?_ ?_
   . refine z [9,4] ?_
     refine sjq (λs120=>[(0,sli 1 (List.map u32 x0)),(1,sli 1 (List.map u32 x1)),(4,sli 1 (List.map u32 ([]:List Nat))),(5,sli 1 (List.map u32 ([]:List Nat))),(6,.own 100),(7,.own 101),(8,i64 s97.2.2)]) (λs120=>[(100,.sl 184 1 (List.map u32 s120.1)),(101,.sl 184 1 (List.map u32 s120.2))]) ?_ ?_
     . intro j118 hj119
       refine z [7,5] ?_
       refine b λy121 h122=>?_
       refine b λ_ h123=>?_
       refine b λ_ h124=>?_
       refine b λr125 h126=>?_
       refine sd ?_
       refine zd [[],[],[],[],[],[],[],[]] ?_
       refine dx [30] [] (λst mm ⟨a30,_⟩ _=>og (shlU uk32 (ge0 h123) rfl (k32 (x:=1) rfl) (a30.trans rfl))) ?_
       refine zd [[],[],[]] ?_
       refine dd [101] (λ_ _ _ _=>cG (Qii _ h126) [101] [] []) ?_
       refine de fol ?_
       refine sbn (F:=u32) 31 rfl λz127=>?_
       refine sbn (F:=u32) 32 rfl λz128=>?_
       refine sbn (F:=u32) 33 rfl λz129=>?_
       refine sbn (F:=bl) 34 rfl λz130=>?_
       refine z [4,2,30] ?_
       refine b λr131 h132=>?_
       refine o (cG (Qii _ h132) [100] [] []) ?_
       refine z [1,2,30,30] ?_
       refine b λr133 h134=>?_
       refine s1 (callL (em:=[]) [101] [] [] [] rfl (Qge _ h134) trivial (Q2r) ⟨.inr ⟨101,rfl,.inl ⟨rfl,.inl ⟨_,_,_,rfl,Jq (f:=u32) (λ_=>Wi) r125,rfl⟩⟩⟩,.inl ⟨_,rfl,rn_id Qap⟩,trivial⟩ (λ_ _ h=>by cases h) trivial rfl trivial trivial rfl trivial trivial trivial (rn_id (Xl)) rfl) ?_
       refine z [57,1] ?_
       refine c ?_ ?_
       . refine z [2,30,30] ?_
         refine owW 42 (n:=r125.length) rfl rfl (List.length_map _).symm ?_
         refine b λr135 h136=>?_
         refine o (cG (Qjq _ h136) [101] [] []) ?_
         refine z [1,6,30] ?_
         refine b λy137 h138=>?_
         refine z [50,51,61] ?_
         refine b λy139 h140=>?_
         refine z [50,53,3,11,4] ?_
         exact sj (hj119 _) (eR [(100,100),(101,101)])
       refine z [9,11,4] ?_
       exact sj (hj119 _) (eR [(100,100),(101,101)])
     intro s120
     refine z [6,30,49,31,3] ?_
     exact sgo (eR [(100,100),(101,101)])
   refine z [14,15] ?_
   exact su (sj (hj96 _) (eR [(100,100),(101,101)]))
 intro t95
 refine z [13,4,2,30] ?_
 refine b λr141 h142=>?_
 refine so (callL (em:=[(102,.sl 184 1 (List.map u32 r141))]) (res':=.own 102) [100] [] [(102,50)] [(102,50)] rfl (K4 _ h142) ⟨Qcc (f:=u32) (λ_=>Qeb) _,trivial⟩ (Qfx) ⟨.inr ⟨100,rfl,.inl ⟨rfl,.inl ⟨_,_,_,rfl,Jq (f:=u32) (λ_=>Wi) t95.1,rfl⟩⟩⟩,trivial⟩ (MiF.get (mi:=[]) trivial) trivial rfl ⟨rfl,trivial⟩ ⟨.inl rfl,trivial⟩ rfl ⟨.inl ⟨_,_,rfl,rfl,rc_sl (Jq (f:=u32) (λ_=>Wi) r141)⟩,trivial⟩ trivial ⟨⟨_,rfl⟩,trivial⟩ (Vn rfl) rfl) ?_
 refine z [30] ?_
 refine b λr143 h144=>?_
 refine so (callL (em:=[(103,.sl 184 1 (List.map u32 r143))]) (res':=.own 103) [101] [] [(103,50)] [(103,50)] rfl (K4 _ h144) ⟨Qcc (f:=u32) (λ_=>Qeb) _,trivial⟩ (Qfx) ⟨.inr ⟨101,rfl,.inl ⟨rfl,.inl ⟨_,_,_,rfl,Jq (f:=u32) (λ_=>Wi) t95.2,rfl⟩⟩⟩,trivial⟩ (MiF.get (mi:=[]) trivial) trivial rfl ⟨rfl,trivial⟩ ⟨.inl rfl,trivial⟩ rfl ⟨.inl ⟨_,_,rfl,rfl,rc_sl (Jq (f:=u32) (λ_=>Wi) r143)⟩,trivial⟩ trivial ⟨⟨_,rfl⟩,trivial⟩ (Vn rfl) rfl) ?_
 refine z [31,31,1,8] ?_
 refine fz 102 [4,51] [] ?_
 refine fz 103 [5,53] [] ?_
 exact rt []
theorem Qjr{n:Nat}{x0}{x1}:∀ r,Zn n x0 x1=some r->FnOk Tryz.prog 88 [sli 1 (List.map u32 x0),sli 1 (List.map u32 x1)] [] (sli 1 (List.map u32 r)) []:=by
 unfold Zn;refine fs Tryz.func88 λw S0 γ hγ=>?_;refine z [2] ?_;refine s1 (asg rfl (kLm (k:=1) u32)) ?_;refine z [1,5,2,30] ?_;refine cb (ca Qkl) λr1=>?_;refine z [1] ?_;refine c ?_ ?_;refine z [2,30] ?_;refine b λr3 h4=>?_;refine o (cG (K4 _ h4) [] [(100,50)] []) ?_;refine z [31,1,8,10] ?_;refine fz 100 [4,10] [] ?_;exact rt [];refine z [9,4,2,30,30] ?_;refine cb (ca Qrl) λr5=>?_;refine z [30,35,35,31,31,1,2,30,31,1,8] ?_;exact rt []
theorem Qa4{n:Nat}{x0}:∀ r,Wo n x0=some r->FnOk Tryz.prog 21 [Qe x0] [] (Qe r) []:=by
 unfold Wo
 refine fs Tryz.func21 λw S0 γ hγ=>?_
 refine z [2] ?_
 refine o (bx' 100) ?_
 refine o (al' 101) ?_
 refine z [1,2,33,36] ?_
 refine b λr1 h2=>?_
 refine o (cG (K4 _ h2) [] [(102,50)] []) ?_
 refine z [31,1,2,33,36] ?_
 refine b λr3 h4=>?_
 refine o (cG (K4 _ h4) [] [(103,50)] []) ?_
 refine z [31,1,5] ?_
 refine sjq (λs7=>[(1,.own 100),(2,.own 101),(3,.own 102),(4,.own 103),(19,bl s7)]) (λs7=>[(100,.bx 34 (Qe x0)),(101,.bx 34 (Qe (⟨false,[],[]⟩:Qc))),(102,.sl 184 1 (List.map u32 r1)),(103,.sl 184 1 (List.map u32 r3))]) ?_ ?_
 . intro j5 hj6
   refine z [6,30,55,41,30] ?_
   refine sifd 15 rfl ?_ ?_
   . refine z [23,23,23,38,1] ?_
     exact sj (hj6 _) (eR [(100,100),(101,101),(102,102),(103,103)])
   refine z [22,22,22,37,1] ?_
   exact sj (hj6 _) (eR [(100,100),(101,101),(102,102),(103,103)])
 intro s7
 refine c ?_ ?_
 . refine z [2] ?_
   refine so (bsl (y:=104) (ls:=List.map u32 ([]:List Nat)) Tryz.underlying32 Vz.h rfl rfl rfl rfl rfl trivial rfl rfl) ?_
   refine so (bsl (y:=105) (ls:=List.map u32 ([1]:List Nat)) Tryz.underlying32 Vz.h rfl rfl rfl rfl rfl ⟨rfl,(k32 (x:=1) rfl),(by exact rfl),(by exact rfl),trivial⟩ rfl rfl) ?_
   refine fz 104 [20] [] ?_
   refine fz 105 [21] [] ?_
   refine s1 (bld (l:=[bl false,sli 1 (List.map u32 ([]:List Nat)),sli 1 (List.map u32 ([1]:List Nat))]) pl_34.h ti_34.h Q4 ⟨_,_,_,rfl,rfl,rfl,rfl,(szk (k:=1) rfl rfl),⟨_,_,_,rfl,rfl,rfl,rfl,(szk (k:=1) rfl rfl),rfl⟩⟩ rfl) ?_
   refine z [34,1,8,10] ?_
   exact rt []
 refine z [9,4] ?_
 refine sjq (λs34=>[(1,.own 100),(2,.own 101),(3,sli 1 (List.map u32 s34.1)),(4,sli 1 (List.map u32 s34.2))]) (λs34=>[(100,.bx 34 (Qe x0)),(101,.bx 34 (Qe (⟨false,[],[]⟩:Qc)))]) ?_ ?_
 . intro j32 hj33
   refine z [2,30] ?_
   refine b λr35 h36=>?_
   refine s1 (callL (em:=[]) [102] [] [] [] rfl (Qkl _ h36) trivial (pl_bl) ⟨.inr ⟨102,rfl,.inl ⟨rfl,.inl ⟨_,_,_,rfl,Jq (f:=u32) (λ_=>Wi) r1,rfl⟩⟩⟩,trivial⟩ (λ_ _ h=>by cases h) trivial rfl trivial trivial rfl trivial trivial trivial (rn_id (if_bl)) rfl) ?_
   refine z [44,1] ?_
   refine c ?_ ?_
   . refine z [2,30,30] ?_
     refine fz 103 [4,26] [] ?_
     refine fz 102 [3,23,27] [] ?_
     refine cb (ca Qri) λr37=>?_
     refine z [31,1,2,30,30] ?_
     refine cb (ca Qjr) λr39=>?_
     refine z [31,1,6,30,30] ?_
     refine cb (ca Qjr) λr41=>?_
     refine z [31,1] ?_
     exact sj (hj33 _) (eR [(100,100),(101,101)])
   refine z [9] ?_
   refine fz 102 [3,23] [] ?_
   refine fz 103 [4] [] ?_
   refine z [4] ?_
   exact sj (hj33 _) (eR [(100,100),(101,101)])
 intro s34
 refine z [2,33,36,30,30] ?_
 refine s1 (bld (l:=[bl x0.Neg,sli 1 (List.map u32 s34.2),sli 1 (List.map u32 s34.1)]) pl_34.h ti_34.h Q4 ⟨_,_,_,rfl,rfl,rfl,rfl,(szk (k:=1) rfl rfl),⟨_,_,_,rfl,rfl,rfl,rfl,(szk (k:=1) rfl rfl),⟨_,_,_,rfl,rfl,rfl,rfl,(szk (k:=1) rfl rfl),rfl⟩⟩⟩ rfl) ?_
 refine z [34,1,8] ?_
 exact rt []
theorem Qjs{n:Nat}{x0}{x1}:∀ r,Zl n x0 x1=some r->FnOk Tryz.prog 183 [sli 1 (List.map u32 x0),sli 1 (List.map u32 x1)] [] (bl r) []:=by
 unfold Zl;refine fs Tryz.func183 λw S0 γ hγ=>?_;refine z [2,31,1,5,2,30,39,30,39,56,1] ?_;refine c ?_ ?_;refine z [2,31,1,8,10] ?_;exact rt [];refine z [9,4,5,2,31,1,7] ?_;refine sloopE 0 Lp.go (λs13=>[(0,sli 1 (List.map u32 x0)),(1,sli 1 (List.map u32 x1)),(4,bl false),(5,i64 s13)]) (λs13=>[]) (λt11=>[(4,bl false)]) (λt11=>[]) eI ?_ ?_;intro hj12 s13;refine z [5,2,30,30,39,46,1] ?_;refine c ?_ ?_;refine z [9,4,5,7,5] ?_;refine b λy14 h15=>?_;refine b λy16 h17=>?_;refine sd ?_;refine zd [[],[],[],[],[],[],[],[],[]] ?_;refine de fol ?_;refine z [4] ?_;refine c ?_ ?_;refine z [2,31,1,8,12,10] ?_;refine sU ?_;refine z [12,10] ?_;exact rt [];refine z [9,11,4,6,30,40,31,3] ?_;exact sgo eI;refine z [14,15] ?_;exact su (sj (hj12 _) eI);intro t11;refine slpk ?_;refine z [13,4,2,31,1,8] ?_;exact rt []
theorem Qjt{n:Nat}{x0}{x1}:∀ r,Ya n x0 x1=some r->FnOk Tryz.prog 112 [Qe x0,Qe x1] [] (bl r) []:=by
 unfold Ya;refine fs Tryz.func112 λw S0 γ hγ=>?_;refine z [2] ?_;refine o (bx' 100) ?_;refine o (bx' 101) ?_;refine z [31,1] ?_;refine sjq (λs7=>[(4,bl s7)]) (λs7=>[]) ?_ ?_;intro j5 hj6;refine z [6,33,36,33,36,74,30] ?_;refine sifd 10 rfl ?_ ?_;refine z [22,22,22,22] ?_;refine b λr8 h9=>?_;refine og' (c0 (Qjs _ h9)) ?_;refine z [38,30] ?_;refine sifd 17 rfl ?_ ?_;refine z [22,22,22,22] ?_;refine b λr10 h11=>?_;refine og' (c0 (Qjs _ h11)) ?_;refine z [38,31,1] ?_;exact sj (hj6 _) (eR []);refine z [23,23,23,23,23,37,31,1] ?_;exact sj (hj6 _) (eR []);refine z [23,23,23,23,23,37,30,23,23,23,23,23,37,31,1] ?_;exact sj (hj6 _) (eR []);intro s7;refine z [8] ?_;exact rt []
theorem Qls{n:Nat}{x0}:∀ r,Qam n x0=some r->FnOk Tryz.prog 109 [u64 x0] [] (sli 1 (List.map u32 r)) []:=by
 unfold Qam;refine fs Tryz.func109 λw S0 γ hγ=>?_;refine z [2] ?_;refine s1 (asg rfl (kLm (k:=1) u32)) ?_;refine z [1,2,30,81,60,30,80,60] ?_;refine so (bsl (y:=100) (ls:=List.map u32 ([((x0%4294967296)%4294967296),((x0 / 4294967296)%4294967296)]:List Nat)) Tryz.underlying32 Vz.h rfl rfl rfl rfl rfl ⟨rfl,rfl,(by exact rfl),(by exact rfl),rfl,rfl,(by exact rfl),(by exact rfl),trivial⟩ rfl rfl) ?_;refine sbm (C:=λx=>.sl 184 1 (List.map u32 x)) 100 rfl λz1=>?_;refine b λr2 h3=>?_;refine so (callL (em:=[(101,.sl 184 1 (List.map u32 r2))]) (res':=.own 101) [100] [] [(101,50)] [(101,50)] rfl (K4 _ h3) ⟨Qcc (f:=u32) (λ_=>Qeb) _,trivial⟩ (Qfx) ⟨.inr ⟨100,rfl,.inl ⟨rfl,.inl ⟨_,_,_,rfl,Jq (f:=u32) (λ_=>Wi) z1,rfl⟩⟩⟩,trivial⟩ (MiF.get (mi:=[]) trivial) trivial rfl ⟨rfl,trivial⟩ ⟨.inl rfl,trivial⟩ rfl ⟨.inl ⟨_,_,rfl,rfl,rc_sl (Jq (f:=u32) (λ_=>Wi) r2)⟩,trivial⟩ trivial ⟨⟨_,rfl⟩,trivial⟩ (Vn rfl) rfl) ?_;refine z [31,1,8] ?_;refine fz 101 [2,10] [] ?_;exact rt []
theorem Qkm{n:Nat}{x0}{x1}:∀ r,Zx n x0 x1=some r->FnOk Tryz.prog 108 [sli 1 (List.map u32 x0),sli 1 (List.map u32 x1)] [] (sli 1 (List.map u32 r)) []:=by
 unfold Zx;refine fs Tryz.func108 λw S0 γ hγ=>?_;refine z [2] ?_;refine s1 (asg rfl (kLm (k:=1) u32)) ?_;refine z [1,2,30,39,30,39,88,40,31,1,2,30] ?_;refine b λy1 h2=>?_;refine so (mks (y:=100) (f:=u32) h2 Tryz.underlying32 Vz.h Qdo rfl rfl rfl rfl rfl rfl) ?_;refine z [31,1,2,31,1,5,2,31,1,7] ?_;refine sloopE 0 (λt=>t) (λs24=>[(0,sli 1 (List.map u32 x0)),(1,sli 1 (List.map u32 x1)),(4,sli 1 (List.map u32 ([]:List Nat))),(5,i64 (wrap64 ((max (x0.length:Int) (x1.length:Int))+(1:Int)))),(6,.own 100),(7,u64 s24.2.1),(8,i64 s24.2.2)]) (λs24=>[(100,.sl 184 1 (List.map u32 s24.1))]) (λt22=>[(4,sli 1 (List.map u32 ([]:List Nat))),(6,.own 100)]) (λt22=>[(100,.sl 184 1 (List.map u32 t22))]) (eR [(100,100)]) ?_ ?_;intro hj23 s24;refine z [5,2,30,30,46] ?_;refine sbn (F:=bl) 19 rfl λz25=>?_;refine z [1] ?_;refine c ?_ ?_;refine z [9,4,5,7,2,30,30,30] ?_;refine cb (ca Zc) λr26=>?_;refine z [59,30,30] ?_;refine cb (ca Zc) λr28=>?_;refine z [59,61,61] ?_;refine sbn (F:=u64) 32 rfl λz30=>?_;refine z [31,1,2,30,30,30,81,60] ?_;refine b λy31 h32=>?_;refine z [50,53,1,6,30,80,31,3,11,4,6,30,40,31,3] ?_;exact sgo (eR [(100,100)]);refine z [14,15] ?_;exact su (sj (hj23 _) (eR [(100,100)]));intro t22;refine z [13,4,2,30] ?_;refine b λr33 h34=>?_;refine so (callL (em:=[(101,.sl 184 1 (List.map u32 r33))]) (res':=.own 101) [100] [] [(101,50)] [(101,50)] rfl (K4 _ h34) ⟨Qcc (f:=u32) (λ_=>Qeb) _,trivial⟩ (Qfx) ⟨.inr ⟨100,rfl,.inl ⟨rfl,.inl ⟨_,_,_,rfl,Jq (f:=u32) (λ_=>Wi) t22,rfl⟩⟩⟩,trivial⟩ (MiF.get (mi:=[]) trivial) trivial rfl ⟨rfl,trivial⟩ ⟨.inl rfl,trivial⟩ rfl ⟨.inl ⟨_,_,rfl,rfl,rc_sl (Jq (f:=u32) (λ_=>Wi) r33)⟩,trivial⟩ trivial ⟨⟨_,rfl⟩,trivial⟩ (Vn rfl) rfl) ?_;refine z [31,1,8] ?_;refine fz 101 [4,42] [] ?_;exact rt []
theorem Qgf{n:Nat}{x0}:∀ r,Xq n x0=some r->FnOk Tryz.prog 41 [i64 x0] [] (Qe r) []:=by
 unfold Xq;refine fs Tryz.func41 λw S0 γ hγ=>?_;refine z [2] ?_;refine o (al' 100) ?_;refine z [1,5,2,30,46,1] ?_;refine c ?_ ?_;refine z [2,30,40,82,83] ?_;refine sbn (F:=u64) 8 rfl λz1=>?_;refine cb (ca Qls) λr2=>?_;refine so (bsl (y:=101) (ls:=List.map u32 ([1]:List Nat)) Tryz.underlying32 Vz.h rfl rfl rfl rfl rfl ⟨rfl,(k32 (x:=1) rfl),(by exact rfl),(by exact rfl),trivial⟩ rfl rfl) ?_;refine fz 101 [10] [] ?_;refine cb (ca Qkm) λr4=>?_;refine so (bsl (y:=102) (ls:=List.map u32 ([1]:List Nat)) Tryz.underlying32 Vz.h rfl rfl rfl rfl rfl ⟨rfl,(k32 (x:=1) rfl),(by exact rfl),(by exact rfl),trivial⟩ rfl rfl) ?_;refine fz 102 [12] [] ?_;refine s1 (bld (l:=[bl true,sli 1 (List.map u32 r4),sli 1 (List.map u32 ([1]:List Nat))]) pl_34.h ti_34.h Q4 ⟨_,_,_,kB,rfl,rfl,rfl,(szk (k:=1) rfl rfl),⟨_,_,_,rfl,rfl,rfl,rfl,(szk (k:=1) rfl rfl),⟨_,_,_,rfl,rfl,rfl,rfl,(szk (k:=1) rfl rfl),rfl⟩⟩⟩ rfl) ?_;refine cb (ca Qa4) λr6=>?_;refine z [34,1,8,10] ?_;exact rt [];refine z [9,4,2,30,83] ?_;refine cb (ca Qls) λr8=>?_;refine so (bsl (y:=101) (ls:=List.map u32 ([1]:List Nat)) Tryz.underlying32 Vz.h rfl rfl rfl rfl rfl ⟨rfl,(k32 (x:=1) rfl),(by exact rfl),(by exact rfl),trivial⟩ rfl rfl) ?_;refine fz 101 [18] [] ?_;refine s1 (bld (l:=[bl false,sli 1 (List.map u32 r8),sli 1 (List.map u32 ([1]:List Nat))]) pl_34.h ti_34.h Q4 ⟨_,_,_,rfl,rfl,rfl,rfl,(szk (k:=1) rfl rfl),⟨_,_,_,rfl,rfl,rfl,rfl,(szk (k:=1) rfl rfl),rfl⟩⟩ rfl) ?_;refine cb (ca Qa4) λr10=>?_;refine z [34,1,8] ?_;exact rt []
theorem Qff{n:Nat}{x0}:∀ r,V5 n x0=some r->FnOk Tryz.prog 181 [W5 x0] [] (W5 r) []:=by
 unfold V5;refine fs Tryz.func181 λw S0 γ hγ=>?_;refine z [2] ?_;refine o (bx' 100) ?_;refine o (al' 101) ?_;refine z [1,2,33,36] ?_;refine b λr1 h2=>?_;refine o (cG (K4 _ h2) [] [(102,50)] []) ?_;refine z [31,1] ?_;refine sjq (λs5=>[(2,.own 101)]) (λs5=>[(101,.bx 213 (W5 s5))]) ?_ ?_;intro j3 hj4;refine z [6,33,36,30] ?_;refine sifd 9 rfl ?_ ?_;refine z [22,22,22,38,30] ?_;refine fz 102 [3,6,10,14] [] ?_;refine s1 (bld (l:=[bl (decide ((0:Int)<(r1.length:Int))),sli 1 (List.map u32 r1)]) Qo1.h Qlk.h Wu ⟨_,_,_,rfl,rfl,rfl,rfl,(szk (k:=1) rfl rfl),⟨_,_,_,rfl,rfl,rfl,rfl,(szk (k:=1) rfl rfl),rfl⟩⟩ rfl) ?_;refine z [34,1] ?_;exact sj (hj4 _) (eR [(101,101)]);refine z [23,23,23,37,30] ?_;refine fz 102 [3,6,14] [] ?_;refine s1 (bld (l:=[bl false,sli 1 (List.map u32 r1)]) Qo1.h Qlk.h Wu ⟨_,_,_,rfl,rfl,rfl,rfl,(szk (k:=1) rfl rfl),⟨_,_,_,rfl,rfl,rfl,rfl,(szk (k:=1) rfl rfl),rfl⟩⟩ rfl) ?_;refine z [34,1] ?_;exact sj (hj4 _) (eR [(101,101)]);intro s5;refine z [8] ?_;exact rt []
theorem Qkn{n:Nat}{x0}{x1}:∀ r,Xr n x0 x1=some r->FnOk Tryz.prog 182 [sli 1 (List.map u32 x0),sli 1 (List.map u32 x1)] [] (sli 1 (List.map u32 r)) []:=by
 unfold Xr;refine fs Tryz.func182 λw S0 γ hγ=>?_;refine z [2] ?_;refine s1 (asg rfl (kLm (k:=1) u32)) ?_;refine z [1,2,30,39,30,39,88,31,1,2,30] ?_;refine b λy1 h2=>?_;refine so (mks (y:=100) (f:=u32) h2 Tryz.underlying32 Vz.h Qdo rfl rfl rfl rfl rfl rfl) ?_;refine z [31,1,2,31,1,5,2,31,1,7] ?_;refine sloopE 0 (λt=>t) (λs27=>[(0,sli 1 (List.map u32 x0)),(1,sli 1 (List.map u32 x1)),(4,sli 1 (List.map u32 ([]:List Nat))),(5,i64 (max (x0.length:Int) (x1.length:Int))),(6,.own 100),(7,u64 s27.2.1),(8,i64 s27.2.2)]) (λs27=>[(100,.sl 184 1 (List.map u32 s27.1))]) (λt25=>[(4,sli 1 (List.map u32 ([]:List Nat))),(6,.own 100)]) (λt25=>[(100,.sl 184 1 (List.map u32 t25))]) (eR [(100,100)]) ?_ ?_;intro hj26 s27;refine z [5,2,30,30,46,1] ?_;refine c ?_ ?_;refine z [9,4,5,7,2,30,30] ?_;refine cb (ca Zc) λr28=>?_;refine z [59,31,1,2,30,30] ?_;refine cb (ca Zc) λr30=>?_;refine z [59,30,61,31,1,2,31,1] ?_;refine sjq (λs34=>[(0,sli 1 (List.map u32 x0)),(1,sli 1 (List.map u32 x1)),(4,sli 1 (List.map u32 ([]:List Nat))),(5,i64 (max (x0.length:Int) (x1.length:Int))),(6,.own 100),(7,u64 s34.1),(8,i64 s27.2.2),(9,u64 s34.2),(10,u64 ((r30+s27.2.1)%18446744073709551616))]) (λs34=>[(100,.sl 184 1 (List.map u32 s27.1))]) ?_ ?_;intro j32 hj33;refine z [2,30,30,68,1] ?_;refine c ?_ ?_;refine z [2,30,61,31,1,6,31,1] ?_;exact sj (hj33 _) (eR [(100,100)]);refine z [9,4] ?_;exact sj (hj33 _) (eR [(100,100)]);intro s34;refine z [6,30,30,30,30,62] ?_;refine sbn (F:=u64) 42 rfl λz35=>?_;refine z [60] ?_;refine b λy36 h37=>?_;refine z [50,53,3,11,4,6,30,40,31,3] ?_;exact sgo (eR [(100,100)]);refine z [14,15] ?_;exact su (sj (hj26 _) (eR [(100,100)]));intro t25;refine z [13,4,2,30] ?_;refine b λr38 h39=>?_;refine so (callL (em:=[(101,.sl 184 1 (List.map u32 r38))]) (res':=.own 101) [100] [] [(101,50)] [(101,50)] rfl (K4 _ h39) ⟨Qcc (f:=u32) (λ_=>Qeb) _,trivial⟩ (Qfx) ⟨.inr ⟨100,rfl,.inl ⟨rfl,.inl ⟨_,_,_,rfl,Jq (f:=u32) (λ_=>Wi) t25,rfl⟩⟩⟩,trivial⟩ (MiF.get (mi:=[]) trivial) trivial rfl ⟨rfl,trivial⟩ ⟨.inl rfl,trivial⟩ rfl ⟨.inl ⟨_,_,rfl,rfl,rc_sl (Jq (f:=u32) (λ_=>Wi) r38)⟩,trivial⟩ trivial ⟨⟨_,rfl⟩,trivial⟩ (Vn rfl) rfl) ?_;refine z [31,1,8] ?_;refine fz 101 [4,46] [] ?_;exact rt []
theorem Qrm{n:Nat}{x0}{x1}:∀ r,Qbg n x0 x1=some r->FnOk Tryz.prog 111 [W5 x0,W5 x1] [] (W5 r) []:=by
 unfold Qbg;refine fs Tryz.func111 λw S0 γ hγ=>?_;refine z [2] ?_;refine o (bx' 100) ?_;refine o (bx' 101) ?_;refine o (al' 102) ?_;refine z [1,5,2,33,36,33,36,74,1] ?_;refine c ?_ ?_;refine z [5] ?_;refine b λr1 h2=>?_;refine b λr3 h4=>?_;refine sd ?_;refine zd [[100],[100],[100],[100],[101],[101]] ?_;refine dd [] (λ_ _ _ _=>c0 (Qkm _ h2)) ?_;refine dx [11,16] [] (λst mm ⟨a11,a16,_⟩ _=>og (bld (l:=[bl x0.Neg,sli 1 (List.map u32 r1)]) Qo1.h Qlk.h Wu ⟨_,_,_,(a11.trans rfl),rfl,rfl,rfl,(szk (k:=1) rfl rfl),⟨_,_,_,(a16.trans rfl),rfl,rfl,rfl,(szk (k:=1) rfl rfl),rfl⟩⟩ rfl)) ?_;refine dd [] (λ_ _ _ _=>c0 (Qff _ h4)) ?_;refine zd [[102]] ?_;refine de fol ?_;refine z [4,8,10] ?_;exact rt [];refine z [9,4,5,2,33,36,33,36] ?_;refine cb (ca Qge) λr5=>?_;refine z [46,1] ?_;refine c ?_ ?_;refine z [5] ?_;refine b λr7 h8=>?_;refine b λr9 h10=>?_;refine sd ?_;refine zd [[101],[101],[101],[101],[100],[100]] ?_;refine dd [] (λ_ _ _ _=>c0 (Qkn _ h8)) ?_;refine dx [26,31] [] (λst mm ⟨a26,a31,_⟩ _=>og (bld (l:=[bl x1.Neg,sli 1 (List.map u32 r7)]) Qo1.h Qlk.h Wu ⟨_,_,_,(a26.trans rfl),rfl,rfl,rfl,(szk (k:=1) rfl rfl),⟨_,_,_,(a31.trans rfl),rfl,rfl,rfl,(szk (k:=1) rfl rfl),rfl⟩⟩ rfl)) ?_;refine dd [] (λ_ _ _ _=>c0 (Qff _ h10)) ?_;refine zd [[102]] ?_;refine de fol ?_;refine z [4,8,10] ?_;exact rt [];refine z [9,4,5] ?_;refine b λr11 h12=>?_;refine b λr13 h14=>?_;refine sd ?_;refine zd [[100],[100],[100],[100],[101],[101]] ?_;refine dd [] (λ_ _ _ _=>c0 (Qkn _ h12)) ?_;refine dx [35,40] [] (λst mm ⟨a35,a40,_⟩ _=>og (bld (l:=[bl x0.Neg,sli 1 (List.map u32 r11)]) Qo1.h Qlk.h Wu ⟨_,_,_,(a35.trans rfl),rfl,rfl,rfl,(szk (k:=1) rfl rfl),⟨_,_,_,(a40.trans rfl),rfl,rfl,rfl,(szk (k:=1) rfl rfl),rfl⟩⟩ rfl)) ?_;refine dd [] (λ_ _ _ _=>c0 (Qff _ h14)) ?_;refine zd [[102]] ?_;refine de fol ?_;refine z [4,8] ?_;exact rt []
theorem Qgg{n:Nat}{x0}{x1}:∀ r,Yt n x0 x1=some r->FnOk Tryz.prog 43 [Qe x0,Qe x1] [] (Qe r) []:=by
 unfold Yt;refine fs Tryz.func43 λw S0 γ hγ=>?_;refine z [2] ?_;refine o (bx' 100) ?_;refine o (bx' 101) ?_;refine o (al' 102) ?_;refine z [1,5] ?_;refine b λr1 h2=>?_;refine sd ?_;refine zd [[100],[100],[100],[100],[101],[101]] ?_;refine dd [] (λ_ _ _ _=>c0 (Z0 _ h2)) ?_;refine dx [9,14] [] (λst mm ⟨a9,a14,_⟩ _=>og (bld (l:=[bl x0.Neg,sli 1 (List.map u32 r1)]) Qo1.h Qlk.h Wu ⟨_,_,_,(a9.trans rfl),rfl,rfl,rfl,(szk (k:=1) rfl rfl),⟨_,_,_,(a14.trans rfl),rfl,rfl,rfl,(szk (k:=1) rfl rfl),rfl⟩⟩ rfl)) ?_;refine dd [103] (λ_ _ _ _=>al' 103) ?_;refine zd [[103]] ?_;refine de fol ?_;refine z [4,5] ?_;refine b λr3 h4=>?_;refine sd ?_;refine zd [[101],[101],[101],[101],[100],[100]] ?_;refine dd [] (λ_ _ _ _=>c0 (Z0 _ h4)) ?_;refine dx [17,22] [] (λst mm ⟨a17,a22,_⟩ _=>og (bld (l:=[bl x1.Neg,sli 1 (List.map u32 r3)]) Qo1.h Qlk.h Wu ⟨_,_,_,(a17.trans rfl),rfl,rfl,rfl,(szk (k:=1) rfl rfl),⟨_,_,_,(a22.trans rfl),rfl,rfl,rfl,(szk (k:=1) rfl rfl),rfl⟩⟩ rfl)) ?_;refine dd [104] (λ_ _ _ _=>al' 104) ?_;refine zd [[104]] ?_;refine de fol ?_;refine z [4,2,32,32] ?_;refine cb (ca Qrm) λr5=>?_;refine o (al' 105) ?_;refine z [34,1,5] ?_;refine b λr7 h8=>?_;refine b λr9 h10=>?_;refine sd ?_;refine zd [[105],[105],[105],[105],[100],[100],[101],[101]] ?_;refine dd [] (λ_ _ _ _=>c0 (Z0 _ h8)) ?_;refine dx [28,30,35] [] (λst mm ⟨a28,a30,a35,_⟩ _=>og (bld (l:=[bl r5.Neg,sli 1 (List.map u32 r5.Abs),sli 1 (List.map u32 r7)]) pl_34.h ti_34.h Q4 ⟨_,_,_,(a28.trans rfl),rfl,rfl,rfl,(szk (k:=1) rfl rfl),⟨_,_,_,(a30.trans rfl),rfl,rfl,rfl,(szk (k:=1) rfl rfl),⟨_,_,_,(a35.trans rfl),rfl,rfl,rfl,(szk (k:=1) rfl rfl),rfl⟩⟩⟩ rfl)) ?_;refine dd [] (λ_ _ _ _=>c0 (Qa4 _ h10)) ?_;refine zd [[102]] ?_;refine de fol ?_;refine z [4,8] ?_;exact rt []
theorem Qb6{n:Nat}{x0}:∀ r,W4 n x0=some r->FnOk Tryz.prog 22 [sli 3 (List.map Qe x0)] [] (sli 3 (List.map Qe r)) []:=by
 unfold W4;refine fs Tryz.func22 λw S0 γ hγ=>?_;refine z [2] ?_;refine s1 (asg rfl (kLm (k:=3) Qe)) ?_;refine z [1,2] ?_;refine so (asgN (y:=100) (E:=34) (k:=3) rfl rfl) ?_;refine z [1,5,2,31,1,7] ?_;refine sloopE 0 (λt=>t) (λs17=>[(0,sli 3 (List.map Qe x0)),(2,sli 3 (List.map Qe ([]:List Qc))),(3,.own 100),(4,i64 s17.2)]) (λs17=>[(100,.sl 34 3 (List.map Qe s17.1))]) (λt15=>[(2,sli 3 (List.map Qe ([]:List Qc))),(3,.own 100)]) (λt15=>[(100,.sl 34 3 (List.map Qe t15))]) (eR [(100,100)]) ?_ ?_;intro hj16 s17;refine z [5,2,30,30,39,46,1] ?_;refine c ?_ ?_;refine z [9,4,5,7,6,30,30,30] ?_;refine b λy18 h19=>?_;refine z [43,42] ?_;refine cb (ca Qa4) λr20=>?_;refine so (bsl (y:=101) (ls:=List.map Qe ([r20]:List Qc)) Tryz.underlying26 ti_34.h rfl rfl rfl rfl rfl ⟨rfl,rfl,(by exact rfl),(by exact rfl),trivial⟩ rfl rfl) ?_;refine b λy22 h23=>?_;refine o (app' 102) ?_;refine z [31,3,11,4,6,30,40,31,3] ?_;exact sgo (eR [(100,102)]);refine z [14,15] ?_;exact su (sj (hj16 _) (eR [(100,100)]));intro t15;refine z [13,4,2,30,31,1,8] ?_;refine fz 100 [2,3,19] [] ?_;exact rt []
theorem Qrn{n:Nat}{x0}{x1}:∀ r,Qbh n x0 x1=some r->FnOk Tryz.prog 106 [Qe x0,Qe x1] [] (Qe r) []:=by
 unfold Qbh;refine fs Tryz.func106 λw S0 γ hγ=>?_;refine z [2] ?_;refine o (bx' 100) ?_;refine o (bx' 101) ?_;refine o (al' 102) ?_;refine z [1,5] ?_;refine b λr1 h2=>?_;refine b λr3 h4=>?_;refine b λr5 h6=>?_;refine sd ?_;refine zd [[100],[100],[101],[101],[],[100],[100],[101],[101]] ?_;refine dd [] (λ_ _ _ _=>c0 (Z0 _ h2)) ?_;refine zd [[100],[100],[101],[101]] ?_;refine dd [] (λ_ _ _ _=>c0 (Z0 _ h4)) ?_;refine dx [9,14,19] [] (λst mm ⟨a9,a14,a19,_⟩ _=>og (bld (l:=[bl (x0.Neg != x1.Neg),sli 1 (List.map u32 r1),sli 1 (List.map u32 r3)]) pl_34.h ti_34.h Q4 ⟨_,_,_,(a9.trans rfl),rfl,rfl,rfl,(szk (k:=1) rfl rfl),⟨_,_,_,(a14.trans rfl),rfl,rfl,rfl,(szk (k:=1) rfl rfl),⟨_,_,_,(a19.trans rfl),rfl,rfl,rfl,(szk (k:=1) rfl rfl),rfl⟩⟩⟩ rfl)) ?_;refine dd [] (λ_ _ _ _=>c0 (Qa4 _ h6)) ?_;refine zd [[102]] ?_;refine de fol ?_;refine z [4,8] ?_;exact rt []
theorem K5{n:Nat}{x0}:∀ r,Xf n x0=some r->FnOk Tryz.prog 45 [i64 x0] [] (.own 50) [(50,.sl 34 3 (List.map Qe r))]:=by
 unfold Xf;refine fs Tryz.func45 λw S0 γ hγ=>?_;refine z [2] ?_;refine s1 (asg rfl (kLm (k:=3) Qe)) ?_;refine z [1,2] ?_;refine so (asgN (y:=100) (E:=34) (k:=3) rfl rfl) ?_;refine z [1,5,2,31,1,7] ?_;refine sloopE 0 (λt=>t) (λs19=>[(0,i64 x0),(2,sli 3 (List.map Qe ([]:List Qc))),(3,.own 100),(4,i64 s19.2)]) (λs19=>[(100,.sl 34 3 (List.map Qe s19.1))]) (λt17=>[(2,sli 3 (List.map Qe ([]:List Qc))),(3,.own 100)]) (λt17=>[(100,.sl 34 3 (List.map Qe t17))]) (eR [(100,100)]) ?_ ?_;intro hj18 s19;refine z [5] ?_;refine sjq (λs22=>[(0,i64 x0),(2,sli 3 (List.map Qe ([]:List Qc))),(3,.own 100),(4,i64 s19.2),(11,bl s22)]) (λs22=>[(100,.sl 34 3 (List.map Qe s19.1))]) ?_ ?_;intro j20 hj21;refine z [6,30,30,46,30] ?_;refine sifd 8 rfl ?_ ?_;refine z [22,22,38,1] ?_;exact sj (hj21 _) (eR [(100,100)]);refine z [23,23,37,1] ?_;exact sj (hj21 _) (eR [(100,100)]);intro s22;refine c ?_ ?_;refine z [9,4,5,7,6,30] ?_;refine cb (ca Qgf) λr23=>?_;refine so (bsl (y:=101) (ls:=List.map Qe ([r23]:List Qc)) Tryz.underlying26 ti_34.h rfl rfl rfl rfl rfl ⟨rfl,rfl,(by exact rfl),(by exact rfl),trivial⟩ rfl rfl) ?_;refine b λy25 h26=>?_;refine o (app' 102) ?_;refine z [31,3,11,4,6,30,40,31,3] ?_;exact sgo (eR [(100,102)]);refine z [14,15] ?_;exact su (sj (hj18 _) (eR [(100,100)]));intro t17;refine z [13,4,2,30,31,1,8] ?_;exact rt [(50,100)]
theorem Qju{n:Nat}{x0}{x1}:∀ r,Yb n x0 x1=some r->FnOk Tryz.prog 98 [sli 3 (List.map Qe x0),sli 3 (List.map Qe x1)] [] (bl r) []:=by
 unfold Yb;refine fs Tryz.func98 λw S0 γ hγ=>?_;refine z [2,31,1,5,2,30,39,30,39,56,1] ?_;refine c ?_ ?_;refine z [2,31,1,8,10] ?_;exact rt [];refine z [9,4,5,2,31,1,7] ?_;refine sloopE 0 Lp.go (λs17=>[(0,sli 3 (List.map Qe x0)),(1,sli 3 (List.map Qe x1)),(4,bl false),(5,i64 s17)]) (λs17=>[]) (λt15=>[(4,bl false)]) (λt15=>[]) eI ?_ ?_;intro hj16 s17;refine z [5,2,30,30,39,46,1] ?_;refine c ?_ ?_;refine z [9,4,5,7,5] ?_;refine b λy18 h19=>?_;refine b λy20 h21=>?_;refine b λr22 h23=>?_;refine sd ?_;refine zd [[],[],[],[],[],[],[],[]] ?_;refine dd [] (λ_ _ _ _=>c0 (Qjt _ h23)) ?_;refine zd [[]] ?_;refine de fol ?_;refine z [4] ?_;refine c ?_ ?_;refine z [2,31,1,8,12,10] ?_;refine sU ?_;refine z [12,10] ?_;exact rt [];refine z [9,11,4,6,30,40,31,3] ?_;exact sgo eI;refine z [14,15] ?_;exact su (sj (hj16 _) eI);intro t15;refine slpk ?_;refine z [13,4,2,31,1,8] ?_;exact rt []
theorem Vi{n:Nat}{x0}{x1}:∀ r,Wq n x0 x1=some r->FnOk Tryz.prog 35 [K3 x0,K3 x1] [] (bl r) []:=by
 unfold Wq;refine fs Tryz.func35 λw S0 γ hγ=>?_;refine z [2] ?_;refine o (bx' 100) ?_;refine o (bx' 101) ?_;refine z [31,1] ?_;refine sjq (λs7=>[(4,bl s7)]) (λs7=>[]) ?_ ?_;intro j5 hj6;refine z [6,33,36,33,36] ?_;refine cb (ca Qju) λr8=>?_;refine z [30] ?_;refine sifd 10 rfl ?_ ?_;refine z [22,22,22,22] ?_;refine b λr10 h11=>?_;refine og' (c0 (Qju _ h11)) ?_;refine z [38,31,1] ?_;exact sj (hj6 _) (eR []);refine z [23,23,23,23,23,37,31,1] ?_;exact sj (hj6 _) (eR []);intro s7;refine z [8] ?_;exact rt []
theorem Qko{n:Nat}{x0}{x1}:∀ r,Zy n x0 x1=some r->FnOk Tryz.prog 42 [sli 3 (List.map Qe x0),sli 3 (List.map Qe x1)] [] (sli 3 (List.map Qe r)) []:=by
 unfold Zy;refine fs Tryz.func42 λw S0 γ hγ=>?_;refine z [2] ?_;refine s1 (asg rfl (kLm (k:=3) Qe)) ?_;refine z [1,2] ?_;refine so (asgN (y:=100) (E:=34) (k:=3) rfl rfl) ?_;refine z [1,5,2,31,1,7] ?_;refine sloopE 0 (λt=>t) (λs21=>[(0,sli 3 (List.map Qe x0)),(1,sli 3 (List.map Qe x1)),(4,sli 3 (List.map Qe ([]:List Qc))),(5,.own 100),(6,i64 s21.2)]) (λs21=>[(100,.sl 34 3 (List.map Qe s21.1))]) (λt19=>[(4,sli 3 (List.map Qe ([]:List Qc))),(5,.own 100)]) (λt19=>[(100,.sl 34 3 (List.map Qe t19))]) (eR [(100,100)]) ?_ ?_;intro hj20 s21;refine z [5,2,30,30,39,46,1] ?_;refine c ?_ ?_;refine z [9,4,5,7] ?_;refine b λy22 h23=>?_;refine b λy24 h25=>?_;refine b λr26 h27=>?_;refine b λy28 h29=>?_;refine sd ?_;refine zd [[],[],[],[],[],[],[],[],[]] ?_;refine dd [] (λ_ _ _ _=>c0 (Qgg _ h27)) ?_;refine dx [22] [101] (λst mm ⟨a22,_⟩ ⟨g101,_⟩=>og (bsl (y:=101) (ls:=List.map Qe ([r26]:List Qc)) Tryz.underlying26 ti_34.h rfl rfl rfl rfl rfl ⟨rfl,(a22.trans rfl),(by exact rfl),(by exact rfl),trivial⟩ (g101.trans rfl) rfl)) ?_;refine dd [100,101,102] (λ_ _ _ _=>app' 102) ?_;refine zd [[]] ?_;refine de fol ?_;refine z [11,4,6,30,40,31,3] ?_;exact sgo (eR [(100,102)]);refine z [14,15] ?_;exact su (sj (hj20 _) (eR [(100,100)]));intro t19;refine z [13,4,2,30,31,1,8] ?_;refine fz 100 [4,5,25] [] ?_;exact rt []
theorem Qkp{n:Nat}{x0}{x1}:∀ r,Zz n x0 x1=some r->FnOk Tryz.prog 44 [sli 3 (List.map Qe x0),sli 3 (List.map Qe x1)] [] (Qe r) []:=by
 unfold Zz;refine fs Tryz.func44 λw S0 γ hγ=>?_;refine z [2] ?_;refine o (al' 100) ?_;refine z [1,2] ?_;refine cb (ca Qgf) λr1=>?_;refine o (al' 101) ?_;refine z [34,1,5,2,31,1,7] ?_;refine sloopE 0 (λt=>t) (λs23=>[(0,sli 3 (List.map Qe x0)),(1,sli 3 (List.map Qe x1)),(4,.own 100),(5,.own 101),(6,i64 s23.2)]) (λs23=>[(100,.bx 34 (Qe (⟨false,[],[]⟩:Qc))),(101,.bx 34 (Qe s23.1))]) (λt21=>[(4,.own 100),(5,.own 101)]) (λt21=>[(100,.bx 34 (Qe (⟨false,[],[]⟩:Qc))),(101,.bx 34 (Qe t21))]) (eR [(100,100),(101,101)]) ?_ ?_;intro hj22 s23;refine z [5,2,30,30,39,46,1] ?_;refine c ?_ ?_;refine z [9,4,5,7] ?_;refine b λy24 h25=>?_;refine b λy26 h27=>?_;refine b λr28 h29=>?_;refine b λr30 h31=>?_;refine sd ?_;refine zd [[101],[],[],[],[],[],[],[],[]] ?_;refine dd [] (λ_ _ _ _=>c0 (Qrn _ h29)) ?_;refine dd [] (λ_ _ _ _=>c0 (Qgg _ h31)) ?_;refine zd [[101]] ?_;refine de fol ?_;refine z [11,4,6,30,40,31,3] ?_;exact sgo (eR [(100,100),(101,101)]);refine z [14,15] ?_;exact su (sj (hj22 _) (eR [(100,100),(101,101)]));intro t21;refine z [13,4,2,32,34,1,8] ?_;exact rt []
end Go.Proofs.YtlfphifbmoccgaaGreatDoor
