import Derived.Test.YtkkfedionkhgnaaGreatDoorModab
import Derived.Test.YtkkfedionkhgnaaGreatDoorPa1
namespace Go.Proofs.YtkkfedionkhgnaaGreatDoor
open Go Go.RowKit
set_option maxRecDepth 100000
def tTry(t:Jr):Qy:=⟨tF t.T,tF t.Av,tF t.H,tF t.A1,t.Y.map tF,t.Ok⟩
def tHis(h:Jg):Qs:=⟨h.Ao.map tTry,tF h.T,h.Y.map tF⟩
theorem Q16{n:Nat}{h:Jg}(hn:big≤n)(h1:h.Ao.length≤1000000)(h2:h.Y.length≤1000000)(h3:∀ t∈h.Ao,t.Y.length≤1000000):Qat n h=some (tHis h):=by unfold Qat Jt;rw[sbind,Kx hn h2,sbind];rw[Qh1 (λi=>((h.Ao.take i).map tTry,(i:Int))) h.Ao.length (h.Ao.map tTry)];rfl;intro i hi;have hp:h.Ao[i]?=some h.Ao[i]:=List.getElem?_eq_getElem hi;have hy:=h3 h.Ao[i] (List.getElem_mem hi);generalize h.Ao[i]=t at hp hy;rw[decide_eq_true (show(i:Int)<(h.Ao.length:Int) by omega),bifT,Ki hp,sbind,sbind,sbind,sbind,sbind,Kx hn hy,sbind,Km (by simp;omega) (by simp;omega),sbind,w1 (by omega),Qae tTry hp];rfl;rw[decide_eq_false (by omega),bifF,List.take_length];unfold big at hn;omega;rfl
def SmaT(t:Jr):Prop:=FL 4 2 [t.T,t.Av,t.H,t.A1]∧FL 8 2 t.Y
theorem Jb2{n:Nat}{h:Jg}(hn:big≤n):∃ v,Xe n h 3 2=some v∧(v=false->h.Ao.length≤3∧(h.T.N.length≤2∧h.T.D.length≤2)∧FL 8 2 h.Y∧∀ t∈h.Ao,SmaT t):=by
 unfold Xe Y3;simp only[jn_eq,bifd];by_cases h1:(3:Int)<(h.Ao.length:Int)
 . rw[if_pos h1];exact⟨true,rfl,λh=>by cases h⟩
 have e9:=Qd8 h.T 2;rw[show((2:Nat):Int)=2 from rfl] at e9;rw[if_neg h1,e9,sbind];by_cases h2:h.T.N.length≤2∧h.T.D.length≤2
 case neg=>rw[decide_eq_false h2];exact⟨true,rfl,λh=>by cases h⟩
 rw[decide_eq_true h2,Bool.not_true,bifF];have hb4:∀ l,∃ v,Qx n l 4 2=some v∧(v=false->FL 4 2 l):=λl=>K6 (many:=4) (k:=2) hn (by decide);have hb8:∀ l,∃ v,Qx n l 8 2=some v∧(v=false->FL 8 2 l):=λl=>K6 (many:=8) (k:=2) hn (by decide);obtain⟨v,g1,g2⟩:=hb8 h.Y;rw[g1,sbind];cases v
 case true=>exact⟨true,rfl,λh=>by cases h⟩
 rw[bifF]
 have hl:=Qom (f:=λ(s62:Int)=>
  if s62<(h.Ao.length:Int) then (
   (getI h.Ao s62).bind λy76=>
   (some ([y76.T,y76.Av,y76.H,y76.A1]:List Qe)).bind λr78=>
   (Qx n r78 4 2).bind λr80=>
   bif r80 then (bif true then some (Lp.out (Lp.out true)) else some (Lp.go (wrap64 (s62+(1:Int)))))
   else (
    (getI h.Ao s62).bind λy82=>
    (Qx n y82.Y 8 2).bind λr84=>
    bif r84 then some (Lp.out (Lp.out true)) else some (Lp.go (wrap64 (s62+(1:Int))))))
  else (
   some (Lp.out (Lp.go ())))) (n:=n) (K:=λ(_:Unit)=>some false) (r:=true) (λi=>∀ t,h.Ao[i]?=some t->Qx n [t.T,t.Av,t.H,t.A1] 4 2=some false∧Qx n t.Y 8 2=some false) h.Ao.length (λi hi=>by
  have hp:h.Ao[i]?=some h.Ao[i]:=List.getElem?_eq_getElem hi;generalize h.Ao[i]=t at hp;obtain⟨v,k1,k2⟩:=hb4 [t.T,t.Av,t.H,t.A1];obtain⟨w,k3,k4⟩:=hb8 t.Y;rw[if_pos (by omega),Ki hp,sbind,sbind,k1,sbind,sbind,k3,sbind];cases v
  . cases w
    . rw[bifF,bifF,w1 (by omega)]
      exact⟨λ_=>rfl,λg=>absurd (λd hd=>by rw[hp] at hd;cases hd;exact⟨k1,k3⟩) g⟩
    . exact⟨λg=>(by have:=(g t hp).2;rw[k3] at this;cases this),λ_=>rfl⟩
  . exact⟨λg=>(by have:=(g t hp).1;rw[k1] at this;cases this),λ_=>rfl⟩) (by rw[if_neg (by omega)]) (by unfold big at hn;omega)
 rw[hl];by_cases hx:∀ i,i<h.Ao.length->∀ t,h.Ao[i]?=some t->Qx n [t.T,t.Av,t.H,t.A1] 4 2=some false∧Qx n t.Y 8 2=some false
 . rw[if_pos hx]
   refine⟨false,rfl,λ_=>⟨by omega,h2,g2 rfl,λt ht=>?_⟩⟩;obtain⟨i,hi⟩:=List.getElem?_of_mem ht;obtain⟨v,k1,k2⟩:=hb4 [t.T,t.Av,t.H,t.A1];obtain⟨w,k3,k4⟩:=hb8 t.Y;obtain⟨a1,a2⟩:=hx i (Kh hi) t hi;rw[k1] at a1;rw[k3] at a2;exact⟨k2 (Option.some.inj a1),k4 (Option.some.inj a2)⟩
 . rw[if_neg hx];exact⟨true,rfl,λh=>by cases h⟩
def okR(l:List Jr):List Jr:=l.filter (·.Ok)
theorem Q4c(l:List Jr):(okR l).length≤l.length:=List.length_filter_le _ _
theorem Q4d(l:List Jr)(x:Jr):okR (l++[x])=if x.Ok=true then okR l++[x] else okR l:=by have e:okR (l++[x])=okR l++okR [x]:=List.filter_append _ _;rw[e];cases ho:x.Ok;rw[if_neg (by decide),show okR [x]=[] from by unfold okR;simp[ho],List.append_nil];rw[if_pos rfl,show okR [x]=[x] from by unfold okR;simp[ho]]
theorem Jbm{n:Nat}{h:Jg}(hn:big≤n)(hl:h.Ao.length≤1000000):Qik n h=some ((okR h.Ao).map (·.T)++[h.T],(okR h.Ao).map (·.Y)++[h.Y]):=by unfold Qik;have hle:=Q4c h.Ao;rw[Qh1 (λi=>((okR (h.Ao.take i)).map (·.T),(okR (h.Ao.take i)).map (·.Y),(i:Int))) h.Ao.length ((okR h.Ao).map (·.T),(okR h.Ao).map (·.Y))];rw[Km (by simp;omega) (by simp;omega),sbind,Km (by simp;omega) (by simp;omega),sbind];intro i hi;have hp:h.Ao[i]?=some h.Ao[i]:=List.getElem?_eq_getElem hi;generalize h.Ao[i]=t at hp;have hle:=Q4c (h.Ao.take i);rw[List.length_take] at hle;simp only[jn_eq];rw[decide_eq_true (show(i:Int)<(h.Ao.length:Int) by omega),bifT,Ki hp,sbind,Qj4 hp,Q4d,w1 (by omega)];cases t.Ok;rw[bifF,if_neg (by decide)];rw[bifT,if_pos rfl,sbind,Km (by simp;omega) (by simp;omega),sbind,sbind,Km (by simp;omega) (by simp;omega),sbind,List.map_append,List.map_append];rfl;rw[decide_eq_false (show ¬(h.Ao.length:Int)<(h.Ao.length:Int) by omega),bifF,List.take_length];unfold big at hn;omega;rfl
theorem Qw2{n:Nat}{h:Jg}(hn:big≤n)(hl:h.Ao.length≤1000000):Zq n h=some ((okR h.Ao).map (·.H)):=by unfold Zq;rw[Qh1 (λi=>((okR (h.Ao.take i)).map (·.H),(i:Int))) h.Ao.length ((okR h.Ao).map (·.H))];intro i hi;have hp:h.Ao[i]?=some h.Ao[i]:=List.getElem?_eq_getElem hi;generalize h.Ao[i]=t at hp;have hle:=Q4c (h.Ao.take i);rw[List.length_take] at hle;simp only[jn_eq];rw[decide_eq_true (show(i:Int)<(h.Ao.length:Int) by omega),bifT,Ki hp,sbind,Qj4 hp,Q4d,w1 (by omega)];cases t.Ok;rw[bifF,if_neg (by decide)];rw[bifT,if_pos rfl,sbind,Km (by simp;omega) (by simp;omega),sbind,List.map_append];rfl;rw[decide_eq_false (by omega),bifF,List.take_length];unfold big at hn;omega;rfl
set_option maxRecDepth 100000
def SmaK(k:Nat)(t:Jr):Prop:=FL 4 k [t.T,t.Av,t.H,t.A1]∧FL 8 k t.Y
theorem Qw3{n a k:Nat}{h:Jg}(hn:big≤n)(ha:a≤1000)(hk:k≤1000):∃ v,Xe n h (a:Int) (k:Int)=some v∧(v=false->h.Ao.length≤a∧(h.T.N.length≤k∧h.T.D.length≤k)∧FL 8 k h.Y∧∀ t∈h.Ao,SmaK k t):=by
 unfold Xe Y3;simp only[jn_eq,bifd];by_cases h1:(a:Int)<(h.Ao.length:Int)
 . rw[if_pos h1];exact⟨true,rfl,λh=>by cases h⟩
 have e9:=Qd8 h.T k;rw[if_neg h1,e9,sbind];by_cases h2:h.T.N.length≤k∧h.T.D.length≤k
 case neg=>rw[decide_eq_false h2];exact⟨true,rfl,λh=>by cases h⟩
 rw[decide_eq_true h2,Bool.not_true,bifF];have hb4:∀ l,∃ v,Qx n l 4 (k:Int)=some v∧(v=false->FL 4 k l):=λl=>K6 (many:=4) (k:=k) hn (by decide);have hb8:∀ l,∃ v,Qx n l 8 (k:Int)=some v∧(v=false->FL 8 k l):=λl=>K6 (many:=8) (k:=k) hn (by decide);obtain⟨v,g1,g2⟩:=hb8 h.Y;rw[g1,sbind];cases v
 case true=>exact⟨true,rfl,λh=>by cases h⟩
 rw[bifF]
 have hl:=Qom (f:=λ(s62:Int)=>
  if s62<(h.Ao.length:Int) then (
   (getI h.Ao s62).bind λy76=>
   (some ([y76.T,y76.Av,y76.H,y76.A1]:List Qe)).bind λr78=>
   (Qx n r78 4 (k:Int)).bind λr80=>
   bif r80 then (bif true then some (Lp.out (Lp.out true)) else some (Lp.go (wrap64 (s62+(1:Int)))))
   else (
    (getI h.Ao s62).bind λy82=>
    (Qx n y82.Y 8 (k:Int)).bind λr84=>
    bif r84 then some (Lp.out (Lp.out true)) else some (Lp.go (wrap64 (s62+(1:Int))))))
  else (
   some (Lp.out (Lp.go ())))) (n:=n) (K:=λ(_:Unit)=>some false) (r:=true) (λi=>∀ t,h.Ao[i]?=some t->Qx n [t.T,t.Av,t.H,t.A1] 4 (k:Int)=some false∧Qx n t.Y 8 (k:Int)=some false) h.Ao.length (λi hi=>by
  have hp:h.Ao[i]?=some h.Ao[i]:=List.getElem?_eq_getElem hi;generalize h.Ao[i]=t at hp;obtain⟨v,k1,k2⟩:=hb4 [t.T,t.Av,t.H,t.A1];obtain⟨w,k3,k4⟩:=hb8 t.Y;rw[if_pos (by omega),Ki hp,sbind,sbind,k1,sbind,sbind,k3,sbind];cases v
  . cases w
    . rw[bifF,bifF,w1 (by omega)]
      exact⟨λ_=>rfl,λg=>absurd (λd hd=>by rw[hp] at hd;cases hd;exact⟨k1,k3⟩) g⟩
    . exact⟨λg=>(by have:=(g t hp).2;rw[k3] at this;cases this),λ_=>rfl⟩
  . exact⟨λg=>(by have:=(g t hp).1;rw[k1] at this;cases this),λ_=>rfl⟩) (by rw[if_neg (by omega)]) (by unfold big at hn;omega)
 rw[hl];by_cases hx:∀ i,i<h.Ao.length->∀ t,h.Ao[i]?=some t->Qx n [t.T,t.Av,t.H,t.A1] 4 (k:Int)=some false∧Qx n t.Y 8 (k:Int)=some false
 . rw[if_pos hx]
   refine⟨false,rfl,λ_=>⟨by omega,h2,g2 rfl,λt ht=>?_⟩⟩;obtain⟨i,hi⟩:=List.getElem?_of_mem ht;obtain⟨v,k1,k2⟩:=hb4 [t.T,t.Av,t.H,t.A1];obtain⟨w,k3,k4⟩:=hb8 t.Y;obtain⟨a1,a2⟩:=hx i (Kh hi) t hi;rw[k1] at a1;rw[k3] at a2;exact⟨k2 (Option.some.inj a1),k4 (Option.some.inj a2)⟩
 . rw[if_neg hx];exact⟨true,rfl,λh=>by cases h⟩
theorem Jbn{k:Nat}{t:Jr}(hB:Qfl t)(h:SmaK k t):FT k (tTry t):=by obtain⟨b1,b2,b3,b4,b5,_⟩:=hB;obtain⟨s1,s2⟩:=h;have g1:=s1.2 t.T (by simp);have g2:=s1.2 t.Av (by simp);have g3:=s1.2 t.H (by simp);have g4:=s1.2 t.A1 (by simp);have yl:=s2.1;refine⟨λx hx=>?_,FR_tF b5 s2,by show(t.Y.map tF).length≤_;rw[List.length_map];omega⟩;rcases List.mem_cons.1 hx with rfl | hx;exact Fk_tF b1 g1;rcases List.mem_cons.1 hx with rfl | hx;exact Fk_tF b2 g2;rcases List.mem_cons.1 hx with rfl | hx;exact Fk_tF b3 g3;rw[List.mem_singleton.1 hx];exact Fk_tF b4 g4
set_option maxRecDepth 100000
theorem Jc5{j k:Nat}{t:Qy}(h:FT j t)(hk:j≤k):FT k t:=⟨Js h.1 hk,Js h.2.1 hk,h.2.2⟩
set_option maxRecDepth 100000
theorem w42:W3 big=some true:=by kernel_rfl
theorem Qyt{n:Nat}{p:Qz}{h:Jg}(hn:big≤n):∃ v,Z3 n p h=some v∧(v=false->((p.Tape.Code.length≤10∧p.Tape.Ar.length≤10∧∀ c∈p.Tape.Code,c.N.N.length≤2∧c.N.D.length≤2)∧(p.An.Name.length≤50∧p.An.A.length≤4∧FL 4 4 p.An.B∧FL 4 4 p.An.C∧FL 4 4 p.An.E∧∀ r∈p.An.A,FL 4 4 r)∧FL 6 2 p.P)∧p.Ap≤400∧h.Ao.length≤5∧(h.T.N.length≤6∧h.T.D.length≤6)∧FL 8 6 h.Y∧∀ t∈h.Ao,SmaK 6 t):=by
 unfold Z3;simp only[jn_eq];obtain⟨v,e1,e2⟩:=Qd9 (p:=p) (a:=10) (b:=4) (k:=2) hn (by decide) (by decide);rw[show((10:Nat):Int)=10 from rfl,show((4:Nat):Int)=4 from rfl,show((2:Nat):Int)=2 from rfl] at e1;rw[e1,sbind];cases v
 case true=>exact⟨true,rfl,λh=>by cases h⟩
 rw[bifF];by_cases c1:(3:Int)<(p.An.B.length:Int)
 . rw[decide_eq_true c1];exact⟨true,rfl,λh=>by cases h⟩
 rw[decide_eq_false c1,bifF];by_cases c2:(400:Int)<p.Ap
 . rw[decide_eq_true c2];exact⟨true,rfl,λh=>by cases h⟩
 rw[decide_eq_false c2,bifF];obtain⟨v,e3,e4⟩:=Qw3 (a:=5) (k:=6) (h:=h) hn (by decide) (by decide);rw[show((5:Nat):Int)=5 from rfl,show((6:Nat):Int)=6 from rfl] at e3;rw[e3,sbind];cases v
 case true=>exact⟨true,rfl,λh=>by cases h⟩
 obtain⟨g1,g2,g3,g4⟩:=e4 rfl;rw[bifF];by_cases c3:(4:Int)<(h.Y.length:Int)
 . rw[decide_eq_true c3];exact⟨true,rfl,λh=>by cases h⟩
 rw[decide_eq_false c3,bifF,Qw2 hn (by omega),sbind];exact⟨_,rfl,λ_=>⟨e2 rfl,by omega,g1,g2,g3,g4⟩⟩
set_option maxRecDepth 100000
theorem Qyu{p:Qf}{c:Rat}{V1 V2:List Rat}(hV:V2.length=V1.length):∀ {l:List Qy}{U1 U2:List Rat},p.Tape.Ar.length=U1.length->U2.length=U1.length->alongP p (linQ c V1 V2) l (linQ c U1 U2)=linQ c (alongP p V1 l U1) (alongP p V2 l U2)
 | [],U1,U2,hm,hU=>rfl
 | t::l,U1,U2,hm,hU=>by simp only[alongP];have e1:=Ql8 (T:=fv t.T) (H:=fv t.H) (Y:=rv t.Y) (V:=V1) hm;have e2:=Ql8 (T:=fv t.T) (H:=fv t.H) (Y:=rv t.Y) (V:=V2) (show p.Tape.Ar.length=U2.length by omega);rw[Q4a hm hU hV];exact Qyu hV (by omega) (by omega)
section
variable {F:List Rat->List Rat->List Rat}{n k m:Nat}
end
theorem Jbo{p:Qf}{l:List Qy}{n k:Nat}(hm:p.Tape.Ar.length=n):LinF (λU V=>alongP p V l U) n k n where
 len:=λhU _=>by rw[Qnp (by omega),hU]
 lin:=λh1 h2 h3 h4=>Qyu (by omega) (by omega) (by omega)
set_option maxRecDepth 100000
theorem Qyv(p:Qz)(h:Jg)(b:Kb)(hB:Vr p)(hH:Qgz h)(hb:Zh b):∃ n,Xj n p h b=some true:=by
 refine⟨big,?_⟩;have hn:big≤big:=Nat.le_refl _;unfold Xj;simp only[jn_eq];obtain⟨v,e1,e2⟩:=Qyt (p:=p) (h:=h) hn;rw[e1,sbind];cases v
 case true=>rw[bifT,bifT,w42];rfl
 obtain⟨⟨⟨t1,t2,t3⟩,⟨s1,s2,s3,s4,s5,s6⟩,p1⟩,hbits,g1,g2,g3,g4⟩:=e2 rfl;obtain⟨v,e5,e6⟩:=Qlb (b:=b) hn;rw[bifF,e5,sbind];cases v
 case true=>rw[bifT,w42];rfl
 obtain⟨u1,v1⟩:=e6 rfl;rw[bifF];obtain⟨bu,bv,_⟩:=hb;obtain⟨b1,b2,b3,_⟩:=hH;have hw:=Qra (bits:=2000) hB (by decide) (e2 rfl).1;have hFT:∀ t∈h.Ao,FT 6 (tTry t):=λt ht=>Jbn (b1.2 t ht) (g4 t ht);have hyl:=g3.1;have hU:=FR_tF bu u1;have hV:=FR_tF bv v1;have lU:(b.U.map tF).length≤6:=by have:=u1.1;rw[List.length_map];omega
 have lV:(b.V.map tF).length≤6:=by have:=v1.1;rw[List.length_map];omega
 rw[Qgk hn (by omega) (by omega) (by omega) (by have:=s3.1;omega) (by have:=s4.1;omega) (by have:=s5.1;omega) (λr hr=>by have:=(s6 r hr).1;omega) (by have:=p1.1;omega),sbind,Q16 hn (by omega) (by omega) (λt ht=>by have:=(hFT t ht).2.2;rwa [show(tTry t).Y.length=t.Y.length from List.length_map _] at this),sbind,Kx hn (by have:=u1.1;omega),sbind,Kx hn (by have:=v1.1;omega),sbind];rw[show(⟨(tP p).Tape,(tP p).An,(tP p).P,2000⟩:Qf)=⟨tT p.Tape,tS p.An,p.P.map tF,2000⟩ from rfl];have lP:(⟨tT p.Tape,tS p.An,p.P.map tF,2000⟩:Qf).P.length≤6:=by
  show(p.P.map tF).length≤6;rw[List.length_map];exact p1.1
 generalize (⟨tT p.Tape,tS p.An,p.P.map tF,2000⟩:Qf)=q at hw lP ⊢;have hTl:(tHis h).Ao.length≤5:=by show(h.Ao.map tTry).length≤5;rw[List.length_map];exact g1
 have hTF:∀ t∈(tHis h).Ao,FT 129 t:=λx hx=>by obtain⟨t,ht,rfl⟩:=List.mem_map.1 hx;exact Jc5 (hFT t ht) (by decide)
 have hTT:Fk 129 (tHis h).T:=Vq (Fk_tF b2 g2) (by decide);have hTY:FR 129 (tHis h).Y:=Js (FR_tF b3 g3) (by decide);have hTYl:(tHis h).Y.length≤8:=by show(h.Y.map tF).length≤8;rw[List.length_map];exact hyl
 generalize tHis h=y at *;generalize b.U.map tF=U at *;generalize b.V.map tF=V at *;obtain⟨r,r1,r2⟩:=Qio (k:=129) (n:=big) hn (by decide) (by decide) hw (by omega) hTF hTT hTY (by omega) (by omega);obtain⟨d1,x1,z1⟩:=Qh4 (n:=big) (p:=q) (h:=y) (u:=U) (v:=V) hn (by decide) (by decide) hw (by omega) hTF hTT hTY (by omega) (Js hU (by decide)) (by omega) (Js hV (by decide));rw[r1,sbind,d1,sbind];obtain⟨ra,rb,rc⟩:=r;rcases r2 with ⟨k1,k2,k3⟩ | ⟨k1,k2,k3,k4,k5⟩
 . obtain⟨a1,a2,a3,a4⟩:=rc
   simp only[] at k1 k2 k3 ⊢;subst k2 k3;rw[Jw k1,Bool.not_false,bifT];show(bif decide (((0:Nat):Int)=0) then _ else _)=_;rw[decide_eq_true (by omega),bifT,decide_eq_true (by simp),bifT,w42];rfl
 simp only[] at k1 k3 k4 k5 ⊢;subst k1 k4 k5;rw[J2,Bool.not_true,bifF];cases hs:nodesQ q y (rv U) (rv V) with
 | inl e=>
   have:=x1 e hs;obtain⟨a1,a2,a3,a4⟩:=e;simp only[];rw[Jw this,Bool.not_false,bifT,w42];rfl
 | inr z=>
   obtain⟨b1,b2,b3⟩:=z1 z hs;obtain⟨⟨_,l1,l2⟩,hp⟩:=Qnq hs;simp only[];rw[J2,Bool.not_true,bifF];rw[Q3] at l1 l2;have hm:q.Tape.Ar.length=y.Y.length:=by have h1:=k2.1.1.1;have:=h1.2.2.1;have:=k2.2.2;omega
   have k6:y.Y.length≠0:=by have h1:=k2.1.1.1;have:=h1.1;have:=k2.2.2;omega
   generalize hN:y.Y.length=N at *;generalize hK:q.P.length=K at *
   have q1:∀ c∈(List.range N).map λj=>aF q y (uniQ N j) (zerQ K),QR 129 c:=λc hc=>by obtain⟨j,hj,rfl⟩:=List.mem_map.1 hc;have hj:=List.mem_range.1 hj;have:=(k3 j (by omega)).1;unfold dirV at this;rw[if_neg (by omega)] at this;exact this
   have q2:∀ c∈(List.range K).map λj=>aF q y (zerQ N) (uniQ K j),QR 129 c:=λc hc=>by obtain⟨j,hj,rfl⟩:=List.mem_map.1 hc;have hj:=List.mem_range.1 hj;have:=(k3 (N+j) (by omega)).1;unfold dirV at this;rw[if_pos (by omega),Qny (by omega),show N+j - N=j by omega] at this;exact this
   generalize hL1:((List.range N).map λj=>aF q y (uniQ N j) (zerQ K))=L1 at *;generalize hL2:((List.range K).map λj=>aF q y (zerQ N) (uniQ K j))=L2 at *;have n1:L1.length=N:=by rw[←hL1];simp
   have n2:L2.length=K:=by rw[←hL2];simp
   have ne:∀ L:List (List Rat),colQ L N≠[]:=λL hc=>by have:=congrArg List.length hc;rw[Qb6] at this;exact k6 this
   rw[Qg5 (k:=129) (w:=N) hn (by decide) (by decide) (λr hr=>⟨by rw[Qr5 r hr,n1],Qnz (by decide) q1 r hr⟩) (ne _) (Js hU (by decide)) (by omega) (by rw[Qb6];omega),sbind,if_pos l1.symm,
    Qg5 (k:=129) (w:=K) hn (by decide) (by decide) (λr hr=>⟨by rw[Qr5 r hr,n2],Qnz (by decide) q2 r hr⟩) (ne _) (Js hV (by decide)) (by omega) (by rw[Qb6];omega),sbind,if_pos l2.symm]
   simp only[]
   have bd:∀ {L:List (List Rat)}{W:List Qa}{w:Nat},(∀ c∈L,QR 129 c)->FR 2 W->w≤8->QR 2200 ((colQ L N).map λr=>psum r (rv W) w):=fun {L W w} hL hW hw6 x hx=>by obtain⟨r,hr,rfl⟩:=List.mem_map.1 hx;have:=Qwz (k:=129) (by decide) (Qnz (by decide) hL r hr) (QR_rv (Js hW (by decide)) (by decide)) w;have:w*(2*129+1)≤8*(2*129+1):=Nat.mul_le_mul_right _ hw6;omega
   have m1:=bd q1 hU (show N≤8 by omega);have m2:=bd q2 hV (show K≤8 by omega);rw[Qaz (k:=2200) hn (by decide) (by decide) (J6 m1) (J6 m2) (by rw[Q2,List.length_map,Qb6];omega),sbind,if_pos (by simp only[Q2,List.length_map,Qb6]),Kw,Kw];simp only[];have fin:addQ ((colQ L1 N).map λr=>psum r (rv U) N) ((colQ L2 N).map λr=>psum r (rv V) K)=z.getLastD (rv U):=by rw[hp,←hL1,←hL2];exact Qyr (F:=aF q y) (Jbo (k:=K) hm) (by rw[Q3];exact l1) (by rw[Q3];exact l2)
   rw[fin,bifT,bifT,bifT,Qb4 (k:=129) hn (by decide) (by decide) (J6 b1) (J6 b1),sbind,decide_eq_true rfl,bifT,w42];rfl
end Go.Proofs.YtkkfedionkhgnaaGreatDoor
