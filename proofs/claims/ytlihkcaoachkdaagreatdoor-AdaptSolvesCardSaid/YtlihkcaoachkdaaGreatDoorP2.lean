import Derived.Test.YtlihkcaoachkdaaGreatDoorP1
import Derived.KernelRfl
namespace Go.Proofs.YtlihkcaoachkdaaGreatDoor
open Go Go.RowKit
def tI(x:Js):Q5:=⟨x.Op,x.A,x.B,⟨⟨x.N.Neg,x.N.N⟩,x.N.D⟩⟩
theorem Qgi(f:Qa)(k:Nat):Jc f (k:Int)=some (!decide (f.N.length≤k∧f.D.length≤k)):=by
 unfold Jc
 simp only[jn_eq,bifd]
 by_cases h:(k:Int)<(f.N.length:Int)
 . rw[if_pos h,decide_eq_false (by omega)];rfl
 . rw[if_neg h]
   by_cases g:(k:Int)<(f.D.length:Int)
   . rw[decide_eq_true g,decide_eq_false (by omega)];rfl
   . rw[decide_eq_false g,decide_eq_true (by omega)];rfl
theorem Qv8{n:Nat}{t:Q6}{many k:Nat}(hn:big≤n)(hm:many≤1000000):∃ v,Z1 n t (many:Int) (k:Int)=some v∧(v=false->t.Code.length≤many∧t.Outs.length≤many∧∀ c∈t.Code,c.N.N.length≤k∧c.N.D.length≤k):=by
 unfold Z1
 rw[Qkv (λi=>∀ c,t.Code[i]?=some c->c.N.N.length≤k∧c.N.D.length≤k) (min t.Code.length many) (r:=true)]
 . by_cases h:∀ i,i<min t.Code.length many->∀ c,t.Code[i]?=some c->c.N.N.length≤k∧c.N.D.length≤k
   . rw[if_pos h]
     simp only[jn_eq,bifd]
     by_cases h1:(many:Int)<(t.Code.length:Int)
     . rw[if_pos h1];exact⟨true,rfl,λh=>by cases h⟩
     . rw[if_neg h1]
       refine⟨_,rfl,λhv=>⟨by omega,by have:=of_decide_eq_false hv;omega,λc hc=>?_⟩⟩
       obtain⟨i,hi⟩:=List.getElem?_of_mem hc
       exact h i (by have:=Ky hi;omega) c hi
   . rw[if_neg h];exact⟨true,rfl,λh=>by cases h⟩
 . intro i hi
   have hp:t.Code[i]?=some t.Code[i]:=List.getElem?_eq_getElem (by omega)
   generalize t.Code[i]=c at hp
   simp only[jn_eq,bifd]
   rw[if_pos (by omega),if_pos (by omega),J9 hp,sbind,Qgi,sbind]
   by_cases h:c.N.N.length≤k∧c.N.D.length≤k
   . rw[decide_eq_true h,Bool.not_true,bifF,w1 (by omega)]
     exact⟨λ_=>rfl,λg=>absurd (λd hd=>by rw[hp] at hd;cases hd;exact h) g⟩
   . rw[decide_eq_false h,Bool.not_false,bifT]
     exact⟨λg=>absurd (g c hp) h,λ_=>rfl⟩
 . simp only[jn_eq,bifd]
   by_cases h:min t.Code.length many<t.Code.length
   . rw[if_pos (by omega),if_neg (by omega)]
   . rw[if_neg (by omega),bifF]
 . unfold big at hn;omega
theorem Qzt{n:Nat}{t:Q6}(hn:big≤n)(h1:t.Code.length≤1000000)(h2:t.Outs.length≤1000000):Qa7 n t=some ⟨t.Code.map tI,t.Outs,t.Dim,t.Par⟩:=by
 unfold Qa7
 rw[Wz (by simp;omega) (by simp;omega),sbind]
 rw[Xf (λi=>((t.Code.take i).map tI,(i:Int))) t.Code.length (t.Code.map tI)]
 . rfl
 . intro i hi
   have hp:t.Code[i]?=some t.Code[i]:=List.getElem?_eq_getElem hi
   generalize t.Code[i]=p at hp
   simp only[bifd,J5,sbind]
   rw[if_pos (by omega),J9 hp,sbind,Wz (by simp;omega) (by simp;omega),sbind,w1 (by omega),Qdp tI hp];rfl
 . simp only[bifd];rw[if_neg (by omega),List.take_length]
 . unfold big at hn;omega
 . rfl
def tF(x:Qa):Qb:=⟨⟨x.Neg,x.N⟩,x.D⟩
theorem Qdq{n:Nat}{l:List Qa}(hn:big≤n)(h1:l.length≤1000000):Vr n l=some (l.map tF):=by
 unfold Vr
 rw[Xf (λi=>((l.take i).map tF,(i:Int))) l.length (l.map tF)]
 . intro i hi
   have hp:l[i]?=some l[i]:=List.getElem?_eq_getElem hi
   generalize l[i]=p at hp
   simp only[bifd,J5,sbind]
   rw[if_pos (by omega),J9 hp,sbind,Wz (by simp;omega) (by simp;omega),sbind,w1 (by omega),Qdp tF hp];rfl
 . simp only[bifd];rw[if_neg (by omega),List.take_length]
 . unfold big at hn;omega
 . rfl
theorem Qzu{n:Nat}{l:List (List Qa)}(hn:big≤n)(h1:l.length≤1000000)(h2:∀ r∈l,r.length≤1000000):Qa6 n l=some (l.map (·.map tF)):=by
 unfold Qa6
 rw[Xf (λi=>((l.take i).map (·.map tF),(i:Int))) l.length (l.map (·.map tF))]
 . intro i hi
   have hp:l[i]?=some l[i]:=List.getElem?_eq_getElem hi
   generalize l[i]=p at hp
   simp only[bifd]
   rw[if_pos (by omega),J9 hp,sbind,Qdq hn (h2 p (Kt hp)),sbind,Wz (by simp;omega) (by simp;omega),sbind,w1 (by omega),Qdp (·.map tF) hp]
 . simp only[bifd];rw[if_neg (by omega),List.take_length]
 . unfold big at hn;omega
 . rfl
def FL(many k:Nat)(l:List Qa):Prop:=l.length≤many∧∀ x∈l,x.N.length≤k∧x.D.length≤k
theorem Qcf{n:Nat}{l:List Qa}{many k:Nat}(hn:big≤n)(hm:many≤1000000):∃ v,Jt n l (many:Int) (k:Int)=some v∧(v=false->FL many k l):=by
 unfold Jt
 rw[Qkv (λi=>∀ c,l[i]?=some c->c.N.length≤k∧c.D.length≤k) (min l.length many) (r:=true)]
 . by_cases h:∀ i,i<min l.length many->∀ c,l[i]?=some c->c.N.length≤k∧c.D.length≤k
   . rw[if_pos h]
     refine⟨_,rfl,λhv=>⟨by have:=of_decide_eq_false hv;omega,λc hc=>?_⟩⟩
     have:=of_decide_eq_false hv
     obtain⟨i,hi⟩:=List.getElem?_of_mem hc
     exact h i (by have:=Ky hi;omega) c hi
   . rw[if_neg h];exact⟨true,rfl,λh=>by cases h⟩
 . intro i hi
   have hp:l[i]?=some l[i]:=List.getElem?_eq_getElem (by omega)
   generalize l[i]=c at hp
   simp only[jn_eq,bifd]
   rw[if_pos (by omega),if_pos (by omega),J9 hp,sbind,Qgi,sbind]
   by_cases h:c.N.length≤k∧c.D.length≤k
   . rw[decide_eq_true h,Bool.not_true,bifF,w1 (by omega)]
     exact⟨λ_=>rfl,λg=>absurd (λd hd=>by rw[hp] at hd;cases hd;exact h) g⟩
   . rw[decide_eq_false h,Bool.not_false,bifT]
     exact⟨λg=>absurd (g c hp) h,λ_=>rfl⟩
 . simp only[jn_eq,bifd]
   by_cases h:min l.length many<l.length
   . rw[if_pos (by omega),if_neg (by omega)]
   . rw[if_neg (by omega),bifF]
 . unfold big at hn;omega
theorem Qv9{n:Nat}{s:Q3}{many k:Nat}(hn:big≤n)(hm:many≤1000000):∃ v,Z2 n s (many:Int) (k:Int)=some v ∧
 (v=false->s.Name.length≤50∧s.A.length≤many∧FL many k s.B∧FL many k s.C∧FL many k s.E∧∀ r∈s.A,FL many k r):=by
 unfold Z2
 simp only[jn_eq,bifd]
 by_cases h1:(50:Int)<(s.Name.length:Int)
 . rw[if_pos h1];exact⟨true,rfl,λh=>by cases h⟩
 rw[if_neg h1]
 by_cases h2:(many:Int)<(s.A.length:Int)
 . rw[if_pos h2];exact⟨true,rfl,λh=>by cases h⟩
 rw[if_neg h2]
 obtain⟨b,e1,e2⟩:=Qcf (l:=s.B) (k:=k) hn hm
 rw[e1,sbind]
 cases b
 case true=>exact⟨true,rfl,λh=>by cases h⟩
 rw[bifF]
 obtain⟨c,e3,e4⟩:=Qcf (l:=s.C) (k:=k) hn hm
 rw[e3,sbind]
 cases c
 case true=>exact⟨true,rfl,λh=>by cases h⟩
 rw[bifF]
 obtain⟨e,e5,e6⟩:=Qcf (l:=s.E) (k:=k) hn hm
 rw[e5,sbind]
 cases e
 case true=>exact⟨true,rfl,λh=>by cases h⟩
 rw[bifF]
 have hb:∀ r,∃ v,Jt n r (many:Int) (k:Int)=some v∧(v=false->FL many k r):=λr=>Qcf hn hm
 have hl:=Qkv (f:=λ(s28:Int)=>
  if s28<(s.A.length:Int) then (
   (getI s.A s28).bind λy29=>
   (Jt n y29 (many:Int) (k:Int)).bind λr31=>
   bif r31 then (
    some (Lp.out (Lp.out (true))))
   else (
    some (Lp.go (wrap64 (s28+(1:Int))))))
  else (
   some (Lp.out (Lp.go ())))) (n:=n) (K:=λ(_:Unit)=>some false) (r:=true) (λi=>∀ r,s.A[i]?=some r->Jt n r (many:Int) (k:Int)=some false) s.A.length (λi hi=>by
  have hp:s.A[i]?=some s.A[i]:=List.getElem?_eq_getElem hi
  generalize s.A[i]=r at hp
  obtain⟨v,g1,g2⟩:=hb r
  rw[if_pos (by omega),J9 hp,sbind,g1,sbind]
  cases v
  . rw[bifF,w1 (by omega)]
    exact⟨λ_=>rfl,λg=>absurd (λd hd=>by rw[hp] at hd;cases hd;exact g1) g⟩
  . rw[bifT]
    exact⟨λg=>(by have:=g r hp;rw[g1] at this;cases this),λ_=>rfl⟩) (by rw[if_neg (by omega)]) (by unfold big at hn;omega)
 rw[hl]
 by_cases h:∀ i,i<s.A.length->∀ r,s.A[i]?=some r->Jt n r (many:Int) (k:Int)=some false
 . rw[if_pos h]
   refine⟨false,rfl,λ_=>⟨by omega,by omega,e2 rfl,e4 rfl,e6 rfl,λr hr=>?_⟩⟩
   obtain⟨i,hi⟩:=List.getElem?_of_mem hr
   obtain⟨v,g1,g2⟩:=hb r
   have:=h i (Ky hi) r hi
   rw[g1] at this
   exact g2 (Option.some.inj this)
 . rw[if_neg h];exact⟨true,rfl,λh=>by cases h⟩
theorem Qwa{n:Nat}{p:Qv}{a b k:Nat}(hn:big≤n)(ha:a≤1000000)(hb:b≤1000000):∃ v,Z3 n p (a:Int) (b:Int) (k:Int)=some v ∧
 (v=false->(p.Tape.Code.length≤a∧p.Tape.Outs.length≤a∧∀ c∈p.Tape.Code,c.N.N.length≤k∧c.N.D.length≤k)∧(p.Scheme.Name.length≤50∧p.Scheme.A.length≤b∧FL b 4 p.Scheme.B∧FL b 4 p.Scheme.C∧FL b 4 p.Scheme.E∧∀ r∈p.Scheme.A,FL b 4 r)∧FL 6 k p.P):=by
 unfold Z3
 simp only[jn_eq]
 obtain⟨u,e1,e2⟩:=Qv8 (t:=p.Tape) (k:=k) hn ha
 rw[e1,sbind]
 cases u
 case true=>exact⟨true,rfl,λh=>by cases h⟩
 rw[bifF]
 obtain⟨u,e3,e4⟩:=Qv9 (s:=p.Scheme) (k:=4) hn hb
 rw[show((4:Nat):Int)=4 from rfl] at e3
 rw[e3,sbind]
 cases u
 case true=>exact⟨true,rfl,λh=>by cases h⟩
 rw[bifF]
 obtain⟨u,e5,e6⟩:=Qcf (l:=p.P) (many:=6) (k:=k) hn (by decide)
 rw[show((6:Nat):Int)=6 from rfl] at e5
 rw[e5,sbind]
 exact⟨u,rfl,λh=>⟨e2 rfl,e4 rfl,e6 h⟩⟩
def tS(s:Q3):Qq:=⟨s.Name,s.C.map tF,s.A.map (·.map tF),s.B.map tF,s.E.map tF⟩
def tT(t:Q6):Q1:=⟨t.Code.map tI,t.Outs,t.Dim,t.Par⟩
def tP(p:Qv):Qw:=⟨tT p.Tape,tS p.Scheme,p.P.map tF,p.Bits⟩
theorem Qzv{n:Nat}{p:Qv}(hn:big≤n)(h1:p.Tape.Code.length≤1000000)(h2:p.Tape.Outs.length≤1000000)(h3:p.Scheme.A.length≤1000000)(h4:p.Scheme.B.length≤1000000)(h5:p.Scheme.C.length≤1000000)(h6:p.Scheme.E.length≤1000000)
 (h7:∀ r∈p.Scheme.A,r.length≤1000000) (h8:p.P.length≤1000000):Qa8 n p=some (tP p):=by
 unfold Qa8 Qcp
 rw[Qzt hn h1 h2,sbind,Qdq hn h5,sbind,Qzu hn h3 h7,sbind,Qdq hn h4,sbind,Qdq hn h6,sbind,sbind,Qdq hn h8,sbind]
 rfl
def rR(l:List Rat):List Qa:=l.map rF
theorem Vk(l:List Rat):(rR l).length=l.length:=by unfold rR;simp
theorem Qka{l:List Rat}{i:Nat}{q:Rat}(h:l[i]?=some q):(rR l)[i]?=some (rF q):=by unfold rR;rw[List.getElem?_map,h];rfl
theorem Qms(l:List Rat)(q:Rat):rR (l++[q])=rR l++[rF q]:=by unfold rR;simp
theorem Qcx{α:Type}{l:List α}{i:Nat}{x:α}(h:l[i]?=some x):l.take (i+1)=l.take i++[x]:=by rw[List.take_add_one,h];rfl
def FRr(k:Nat)(l:List Qa):Prop:=∀ f∈l,Wd f.N∧Wd f.D∧f.N.length≤k∧f.D.length≤k
def rvr(l:List Qa):List Rat:=l.map fr
theorem Qdr(l:List Qa):(rvr l).length=l.length:=by unfold rvr;simp
theorem fr_tF(f:Qa):fv (tF f)=fr f:=rfl
theorem Qic(l:List Qa):rv (l.map tF)=rvr l:=by unfold rv rvr;rw[List.map_map];rfl
theorem qw_fr{f:Qa}{k:Nat}(h:Wd f.N∧Wd f.D∧f.N.length≤k∧f.D.length≤k)(h1:1≤k):qw (fr f)≤k:=by
 rw[←fr_tF];exact qw_fv ⟨h.1,h.2.2.1,h.2.1,h.2.2.2⟩ h1
theorem Qnl{k:Nat}{l:List Qa}(h:FRr k l)(h1:1≤k):QR k (rvr l):=λq hq=>by
 obtain⟨f,hf,rfl⟩:=List.mem_map.1 hq
 exact qw_fr (h f hf) h1
theorem Qnm{n k:Nat}{l:List Qa}(hn:big≤n)(hk:k<1099511627776)(h:FRr k l)(hl:l.length≤1000000):W4 n l=some (rR (rvr l)):=by
 unfold W4
 rw[Xf (λi=>(rR (rvr (l.take i)),(i:Int))) l.length (rR (rvr l))]
 . intro i hi
   have hp:l[i]?=some l[i]:=List.getElem?_eq_getElem hi
   have hf:=h l[i] (List.getElem_mem hi)
   generalize l[i]=p at hp hf
   simp only[bifd]
   have e:rvr (l.take (i+1))=rvr (l.take i)++[fr p]:=by rw[Qcx hp];unfold rvr;simp
   rw[if_pos (by omega),J9 hp,sbind,Wl hn hf.1 hf.2.1 (by omega) (by omega),sbind,Wz (by simp[Vk,Qdr];omega) (by simp[Vk,Qdr];omega),sbind,w1 (by omega),e,Qms]
 . simp only[bifd];rw[if_neg (by omega),List.take_length]
 . unfold big at hn;omega
 . rfl
open Classical in
theorem Qwb{n:Nat}{a b:List Qa}(hn:big≤n)(hl:a.length≤1000000)(h:∀ f∈a,f.N.length≤4611686018427387904∧f.D.length≤4611686018427387904):We n a b=some (decide (a=b)):=by
 unfold We
 by_cases hab:a.length=b.length
 . rw[decide_eq_true (show(a.length:Int)=(b.length:Int) by omega),Bool.not_true,bifF]
   rw[Qkv (λi=>a[i]?=b[i]?) a.length (r:=false)]
   . have e:(∀ i,i<a.length->a[i]?=b[i]?)↔a=b:=by
      constructor
      . intro g
        refine List.ext_getElem? λi=>?_
        rcases Nat.lt_or_ge i a.length with hi | hi
        . exact g i hi
        . rw[List.getElem?_eq_none hi,List.getElem?_eq_none (by omega)]
      . rintro rfl i _;rfl
     by_cases g:a=b
     . rw[if_pos (e.2 g),decide_eq_true g]
     . rw[if_neg (λh=>g (e.1 h)),decide_eq_false g]
   . intro i hi
     have hp:a[i]?=some a[i]:=List.getElem?_eq_getElem hi
     have hp2:b[i]?=some (b[i]'(by omega)):=List.getElem?_eq_getElem (by omega)
     have hf:=h a[i] (List.getElem_mem hi)
     generalize a[i]=x at hp hf
     generalize b[i]'(by omega)=y at hp2
     simp only[bifd]
     rw[if_pos (by omega),J9 hp,sbind,J9 hp2,sbind,Qgf hn hf.1 hf.2,sbind,hp,hp2,w1 (by omega)]
     constructor
     . intro g;rw[decide_eq_true (Option.some.inj g)];rfl
     . intro g;rw[decide_eq_false (λh=>g (by rw[h]))];rfl
   . simp only[bifd];rw[if_neg (by omega)]
   . unfold big at hn;omega
 . rw[decide_eq_false (show ¬(a.length:Int)=(b.length:Int) by omega),Bool.not_false,bifT,decide_eq_false]
   intro g;exact hab (by rw[g])
theorem Q26{q:Rat}{k:Nat}(h:qw q≤k):(rF q).N.length≤k∧(rF q).D.length≤k:=by
 have:=Qas q;have:=Qcl q
 exact⟨by show(toL q.num.natAbs).length≤k;omega,by show(toL q.den).length≤k;omega⟩
def oF(x:Qb):Qa:=⟨x.Num.Neg,x.Num.Abs,x.Den⟩
theorem Q5r(q:Rat):oF (toF q)=rF q:=rfl
theorem Q5s(l:List Rat):(toR l).map oF=rR l:=by unfold toR rR;rw[List.map_map];rfl
theorem Ql6(x:Qb):Wa x=some (oF x):=rfl
theorem Qr7{n:Nat}{l:List Qb}(hn:big≤n)(h1:l.length≤1000000):Zd n l=some (l.map oF):=by
 unfold Zd
 rw[Xf (λi=>((l.take i).map oF,(i:Int))) l.length (l.map oF)]
 . intro i hi
   have hp:l[i]?=some l[i]:=List.getElem?_eq_getElem hi
   generalize l[i]=p at hp
   simp only[bifd,Ql6,sbind]
   rw[if_pos (by omega),J9 hp,sbind,Wz (by simp;omega) (by simp;omega),sbind,w1 (by omega),Qdp oF hp]
 . simp only[bifd];rw[if_neg (by omega),List.take_length]
 . unfold big at hn;omega
 . rfl
theorem Q98{many k:Nat}{l:List Qa}(hB:K0 l)(h:FL many k l):FRr k l:=λx hx=>by
 have hb:=hB.2 x hx
 have:=h.2 x hx
 exact⟨hb.2.1.2,hb.2.2.1.2,this.1,this.2⟩
theorem Qx1{n k:Nat}{a:List Rat}(hn:big≤n)(hk:k<274877906944)(h1:1≤k)(ha:QR k a)(hl2:a.length≤1000000):Y2 n (rR a)=some (rF (normQ a)):=by
 unfold Y2
 rw[Qdd hn,sbind]
 have hq:∀(l:List Rat) (b:Rat),QR k l->qw b≤k->qw (l.foldl (λb x=>maxQ b (absQ x)) b)≤k:=by
  intro l
  induction l with
  | nil=>intro b _ hb;exact hb
  | cons x l ih=>intro b hl hb;exact ih _ (λq hq=>hl q (.tail _ hq)) (Q1p hb (by rw[Qs6];exact hl x (.head _)))
 rw[Xf (λi=>(rF (normQ (a.take i)),(i:Int))) a.length (rF (normQ a))]
 . intro i hi
   have hp:a[i]?=some a[i]:=List.getElem?_eq_getElem hi
   have q1:=ha a[i] (List.getElem_mem hi)
   generalize a[i]=x at hp q1
   simp only[bifd,jn_eq]
   have e:normQ (a.take (i+1))=maxQ (normQ (a.take i)) (absQ x):=by
    rw[Qcx hp];unfold normQ;rw[List.foldl_append];rfl
   have hb:qw (normQ (a.take i))≤k:=hq _ _ (λq hq=>ha q (List.mem_of_mem_take hq)) (by rw[Qbx];exact h1)
   rw[if_pos (by rw[Vk];omega),J9 (Qka hp),sbind,Qxz,sbind,Xw hn hk (by rw[Qs6];exact q1) hb,sbind,w1 (by omega),e]
   generalize normQ (a.take i)=b
   generalize absQ x=y
   unfold maxQ
   by_cases h:0<(y - b).num.sign
   . rw[if_pos h,if_pos h]
   . rw[if_neg h,if_neg h]
 . simp only[bifd];rw[if_neg (by rw[Vk];omega),List.take_length]
 . unfold big at hn;omega
 . rfl
theorem Qnn{α:Type}{l:List α}{P:α->Prop}:(∀(i:Nat) x,l[i]?=some x->P x)↔∀ a∈l,P a:=by
 constructor
 . intro h a ha
   obtain⟨j,hj⟩:=List.getElem?_of_mem ha
   exact h j a hj
 . intro h i x hx;exact h x (Kt hx)
noncomputable def dP(p:Prop):Bool:=@decide p (Classical.propDecidable p)
theorem decP{p:Prop}[Decidable p]:decide p=dP p:=by unfold dP;congr
theorem dP_t{p:Prop}(h:p):dP p=true:=by unfold dP;exact @decide_eq_true p (Classical.propDecidable p) h
theorem dP_f{p:Prop}(h:¬ p):dP p=false:=by unfold dP;exact @decide_eq_false p (Classical.propDecidable p) h
theorem dP_c{p q:Prop}(h:p↔q):dP p=dP q:=by rw[show p=q from propext h]
theorem Q5t{p:Prop}:dP p=true↔p:=⟨λh=>by by_cases hp:p;exact hp;rw[dP_f hp] at h;exact absurd h (by decide),dP_t⟩
theorem Qde{p q:Prop}[Decidable p](h:p↔q):some (decide p)=some (dP q):=by rw[decP,dP_c h]
theorem Qx2{p q:Prop}(h:p↔q):some (dP p)=some (dP q):=by rw[dP_c h]
theorem Qga{p q r:Prop}[Decidable p][Decidable q](h:p∧q↔r):(if p then some (decide q) else some false)=some (dP r):=by
 by_cases hp:p
 . rw[if_pos hp];exact Qde ⟨λhq=>h.1 ⟨hp,hq⟩,λhr=>(h.2 hr).2⟩
 . rw[if_neg hp,dP_f λhr=>hp (h.2 hr).1]
theorem Q99{p q r:Prop}[Decidable p](h:p∧q↔r):(if p then some (dP q) else some false)=some (dP r):=by
 by_cases hp:p
 . rw[if_pos hp];exact Qx2 ⟨λhq=>h.1 ⟨hp,hq⟩,λhr=>(h.2 hr).2⟩
 . rw[if_neg hp,dP_f λhr=>hp (h.2 hr).1]
def blankF(f:Qb):Prop:=f.Num.Neg=false∧f.Num.Abs=[]∧f.Den=[]
theorem Qwc(f:Qb):Qgu f=some (dP (blankF f)):=by
 unfold Qgu blankF
 obtain⟨⟨s,a⟩,d⟩:=f
 simp only[jn_eq]
 cases s
 . simp only[Bool.not_false,bifT,bifd]
   refine Qga ⟨λh=>⟨trivial,List.eq_nil_of_length_eq_zero (by omega),List.eq_nil_of_length_eq_zero (by omega)⟩,λh=>?_⟩
   obtain⟨_,rfl,rfl⟩:=h
   exact⟨rfl,rfl⟩
 . simp only[Bool.not_true,bifF]
   rw[dP_f λh=>by cases h.1]
theorem bifP{α:Type}(p:Prop)(a b:α):(bif dP p then a else b)=@ite _ p (Classical.propDecidable p) a b:=by
 by_cases h:p
 . rw[dP_t h,if_pos h];rfl
 . rw[dP_f h,if_neg h];rfl
theorem bifnP{α:Type}(p:Prop)(a b:α):(bif !dP p then a else b)=@ite _ p (Classical.propDecidable p) b a:=by
 by_cases h:p
 . rw[dP_t h,if_pos h];rfl
 . rw[dP_f h,if_neg h];rfl
def mayR(t:Q1)(i:Nat)(x:Q5):Prop:=
 if x.Op=1 then x.A=0∧x.B=0∧x.N=toF (fv x.N) else
 blankF x.N∧(∀ r∈rdT x,0≤r∧r<(i:Int)) ∧
 if x.Op=2 then x.A=0∧x.B=0 else if x.Op=3 then (0≤x.A∧x.A<t.Dim)∧x.B=0 else if x.Op=4 then (0≤x.A∧x.A<t.Par)∧x.B=0 else
 if x.Op=6 then x.B=0 else if x.Op=11 then -8≤x.B∧x.B≤8 else (rdT x).length=2
theorem Qzw{n:Nat}{t:Q1}{i:Nat}{x:Q5}(hn:big≤n)(ht:Fw x.N)(hx:t.Code[i]?=some x):Qhc n t (i:Int)=some (dP (mayR t i x)):=by
 unfold Qhc mayR
 rw[J9 hx,sbind,bifd]
 by_cases h1:x.Op=1
 . have e1:(if x.Op=1 then x.A=0∧x.B=0∧x.N=toF (fv x.N) else blankF x.N∧(∀ r∈rdT x,0≤r∧r<(i:Int)) ∧
    if x.Op=2 then x.A=0∧x.B=0 else if x.Op=3 then (0≤x.A∧x.A<t.Dim)∧x.B=0 else if x.Op=4 then (0≤x.A∧x.A<t.Par)∧x.B=0 else
    if x.Op=6 then x.B=0 else if x.Op=11 then -8≤x.B∧x.B≤8 else (rdT x).length=2)=(x.A=0∧x.B=0∧x.N=toF (fv x.N)):=if_pos h1
   simp only[e1]
   rw[if_pos h1]
   have hR:=Qon hn ht
   simp only[jn_eq,Qiv,sbind]
   have e2:Qbu (⟨x.Op,x.A,x.B⟩:Ko) ⟨1,0,0⟩=decide (x.A=0∧x.B=0):=by
    unfold Qbu
    simp only[h1]
    by_cases a:x.A=0<;>by_cases b:x.B=0<;>simp[a,b]
   rw[e2,hR,sbind,bifd]
   rw[@decP _ (Classical.propDecidable _)]
   refine Q99 ⟨λh=>⟨h.1.1,h.1.2,h.2⟩,λh=>⟨⟨h.1,h.2.1⟩,h.2.2⟩⟩
 . have e1:(if x.Op=1 then x.A=0∧x.B=0∧x.N=toF (fv x.N) else blankF x.N∧(∀ r∈rdT x,0≤r∧r<(i:Int)) ∧
    if x.Op=2 then x.A=0∧x.B=0 else if x.Op=3 then (0≤x.A∧x.A<t.Dim)∧x.B=0 else if x.Op=4 then (0≤x.A∧x.A<t.Par)∧x.B=0 else
    if x.Op=6 then x.B=0 else if x.Op=11 then -8≤x.B∧x.B≤8 else (rdT x).length=2)=(blankF x.N∧(∀ r∈rdT x,0≤r∧r<(i:Int)) ∧
    if x.Op=2 then x.A=0∧x.B=0 else if x.Op=3 then (0≤x.A∧x.A<t.Dim)∧x.B=0 else if x.Op=4 then (0≤x.A∧x.A<t.Par)∧x.B=0 else
    if x.Op=6 then x.B=0 else if x.Op=11 then -8≤x.B∧x.B≤8 else (rdT x).length=2):=if_neg h1
   simp only[e1]
   rw[if_neg h1,Qwc,sbind,bifnP]
   by_cases hb:blankF x.N
   . rw[if_pos hb,Qou,sbind,Qfg (λ_ (r:Int)=>0≤r∧r<(i:Int)) (r:=false)]
     . rw[Qnn]
       by_cases hr:∀ r∈rdT x,0≤r∧r<(i:Int)
       . rw[if_pos hr]
         have fin:∀ {o:Option Bool}{p:Prop},o=some (dP p)->o=some (dP (blankF x.N∧(∀ r∈rdT x,0≤r∧r<(i:Int))∧p)):=λh=>h.trans (Qx2 ⟨λg=>⟨hb,hr,g⟩,λg=>g.2.2⟩)
         refine fin ?_
         simp only[jn_eq,Qiv,sbind,Qgh,Qou,bifd]
         by_cases g2:x.Op=2
         . simp only[if_pos g2]
           refine congrArg some ?_
           unfold Qbu
           simp only[g2]
           rw[←decP]
           by_cases a:x.A=0<;>by_cases b:x.B=0<;>simp[a,b]
         simp only[if_neg g2]
         by_cases g3:x.Op=3
         . simp only[if_pos g3];exact Qga Iff.rfl
         simp only[if_neg g3]
         by_cases g4:x.Op=4
         . simp only[if_pos g4];exact Qga Iff.rfl
         simp only[if_neg g4]
         by_cases g6:x.Op=6
         . simp only[if_pos g6];exact Qde Iff.rfl
         simp only[if_neg g6]
         by_cases g11:x.Op=11
         . simp only[if_pos g11];exact Qga Iff.rfl
         simp only[if_neg g11]
         exact Qde (by omega)
       . rw[if_neg hr,dP_f λh=>hr h.2.1]
     . intro j r _
       simp only[Qgh,sbind]
       constructor
       . intro h;rw[decide_eq_true h];rfl
       . intro h;rw[decide_eq_false h];rfl
   . rw[if_neg hb,dP_f λh=>hb h.1]
def wholeR(t:Q1):Prop:=(1≤t.Dim∧t.Dim≤6)∧(0≤t.Par∧t.Par≤6)∧(t.Outs.length:Int)=t.Dim∧t.Code.length≤300
def tapeR(t:Q1):Prop:=wholeR t∧(∀(i:Nat) x,t.Code[i]?=some x->mayR t i x)∧∀ o∈t.Outs,0≤o∧o<(t.Code.length:Int)
theorem Qwd(t:Q1)(h:-9223372036854775808≤t.Dim∧t.Dim≤9223372036854775807):Qgt t=some (dP (wholeR t)):=by
 unfold Qgt wholeR
 simp only[jn_eq,Qgh,sbind,bifd]
 have hw:(0≤wrap64 (t.Dim - 1)∧wrap64 (t.Dim - 1)<6)↔(0≤t.Dim - 1∧t.Dim - 1<6):=by unfold wrap64;omega
 by_cases g1:0≤t.Dim - 1∧t.Dim - 1<6
 . rw[if_pos (hw.2 g1)]
   by_cases g2:0≤t.Par∧t.Par<7
   . rw[if_pos g2]
     by_cases g3:(t.Outs.length:Int)=t.Dim
     . rw[if_pos g3];exact Qde (by omega)
     . rw[if_neg g3,dP_f (by omega)]
   . rw[if_neg g2,dP_f (by omega)]
 . rw[if_neg (λh=>g1 (hw.1 h)),dP_f (by omega)]
theorem Q37{R:Type}{f:Nat->Q5->Unit->Option (Lp Unit R)}{K:Unit->Option R}{xs:List Q5}(P:Nat->Q5->Prop)(r:Nat->R)
 (hb:∀ i x,xs[i]?=some x->(P i x->f i x ()=some (.go ()))∧(¬ P i x->f i x ()=some (.out (r i)))) :
 ((∀(i:Nat) x,xs[i]?=some x->P i x)∧(rangeL f xs 0 ()).bind (lpK K)=K ())∨(¬(∀(i:Nat) x,xs[i]?=some x->P i x)∧∃ j,(rangeL f xs 0 ()).bind (lpK K)=some (r j)):=by
 have key:∀(xs:List Q5) (k:Nat),(∀ i x,xs[i]?=some x->(P (k+i) x->f (k+i) x ()=some (.go ()))∧(¬ P (k+i) x->f (k+i) x ()=some (.out (r (k+i))))) →
  ((∀(i:Nat) x,xs[i]?=some x->P (k+i) x)∧(rangeL f xs k ()).bind (lpK K)=K ())∨(¬(∀(i:Nat) x,xs[i]?=some x->P (k+i) x)∧∃ j,(rangeL f xs k ()).bind (lpK K)=some (r j)):=by
  intro xs
  induction xs with
  | nil=>intro k _;exact .inl ⟨λi x h=>by simp at h,rfl⟩
  | cons x xs ih=>
    intro k hb
    have h0:=hb 0 x rfl
    simp only[Nat.add_zero] at h0
    by_cases hp:P k x
    . have:=ih (k+1) (λi y hy=>by have:=hb (i+1) y (by simpa using hy);rw[show k+(i+1)=k+1+i by omega] at this;exact this)
      simp only[rangeL,h0.1 hp,sbind]
      rcases this with ⟨h3,h4⟩ | ⟨h3,h4⟩
      . refine .inl ⟨λi y hy=>?_,h4⟩
        cases i with
        | zero=>simp at hy;subst hy;exact hp
        | succ i=>rw[show k+(i+1)=k+1+i by omega];exact h3 i y (by simpa using hy)
      . refine .inr ⟨λh=>h3 λi y hy=>?_,h4⟩
        have:=h (i+1) y (by simpa using hy)
        rwa [show k+(i+1)=k+1+i by omega] at this
    . refine .inr ⟨λh=>hp (h 0 x rfl),k,?_⟩
      simp only[rangeL,h0.2 hp,sbind];rfl
 have:=key xs 0 (λi x hx=>by rw[Nat.zero_add];exact hb i x hx)
 simp only[Nat.zero_add] at this
 exact this
theorem Qov{n:Nat}{t:Q1}(hn:big≤n)(ht:TW t)(hd:-9223372036854775808≤t.Dim∧t.Dim≤9223372036854775807):Qa3 n t=some (dP (tapeR t)):=by
 unfold Qa3 Qji
 rw[Qwd t hd,sbind,bifnP]
 by_cases hw:wholeR t
 . rw[if_pos hw]
   have key:=Q37 (K:=λ(_:Unit)=>(rangeL (λ(_:Nat) (x26:Int) (_:Unit)=>
    (Y6 x26 (t.Code.length:Int)).bind λr28=>
    bif !r28 then (
     some (Lp.out ((t.Code.length:Int))))
    else (
     some (Lp.go ()))) t.Outs 0 ()).bind (lpK λ(_:Unit)=>
   some (-1:Int))) (f:=λ(i11:Nat) (_:Q5) (_:Unit)=>
    (Qhc n t (i11:Int)).bind λr14=>
    bif !r14 then (
     some (Lp.out ((i11:Int))))
    else (
     some (Lp.go ()))) (xs:=t.Code) (λi x=>mayR t i x) (λi=>(i:Int)) (λi x hx=>by
    rw[Qzw hn (ht x (Kt hx)) hx,sbind]
    constructor
    . intro h;rw[dP_t h];rfl
    . intro h;rw[dP_f h];rfl)
   rcases key with ⟨k1,k2⟩ | ⟨k1,j,k2⟩
   . rw[k2,Qfg (λ_ (o:Int)=>0≤o∧o<(t.Code.length:Int)) (r:=(t.Code.length:Int))]
     . rw[Qnn]
       by_cases ho:∀ o∈t.Outs,0≤o∧o<(t.Code.length:Int)
       . rw[if_pos ho,sbind];exact Qde ⟨λ_=>⟨hw,k1,ho⟩,λ_=>rfl⟩
       . rw[if_neg ho,sbind];exact Qde ⟨λh=>by omega,λh=>absurd h.2.2 ho⟩
     . intro i o _
       simp only[Qgh,sbind]
       constructor
       . intro h;rw[decide_eq_true h];rfl
       . intro h;rw[decide_eq_false h];rfl
   . rw[k2,sbind];exact Qde ⟨λh=>by omega,λh=>absurd h.2.1 k1⟩
 . rw[if_neg hw,sbind];exact Qde ⟨λh=>by omega,λh=>absurd h.1 hw⟩
theorem Qav(f:Qe):Q7 f f=true:=by simp[Q7]
theorem Qb4{k a b c:Int}(h:k≠0):Q7 ⟨k,a,b,c⟩ ⟨0,0,0,0⟩=false:=by
 unfold Q7
 rw[show(k == 0)=false by simpa using h];rfl
def noteG(g:Qn)(q:Rat):Qn:=⟨⟨wrap64 (g.Count.Seen+1),max g.Count.Peak (qz q:Int)⟩,g.limit⟩
theorem Qy0{n:Nat}{g:Qn}{q:Rat}(hn:big≤n)(hq:qw q<1099511627776):Xn n g (toF q)=some (decide ((qz q:Int)≤g.limit),noteG g q):=by
 unfold Xn Qb6
 rw[Qoo hn hq,sbind,sbind];rfl
def fitQ(lim:Int):List Rat->Nat->Option Nat
 | [],_=>none
 | q::l,i=>if (qz q:Int)≤lim then fitQ lim l (i+1) else some i
theorem Q61{n:Nat}{g:Qn}{l:List Rat}(hn:big≤n)(hl:QR 1099511627775 l):
 ∃ g',g'.limit=g.limit∧Qa5 n g (toR l)=some (match fitQ g.limit l 0 with | none=>((l.length:Int),true,g') | some i=>((i:Int),false,g')):=by
 unfold Qa5
 have key:∀(l:List Rat) (i:Nat) (g:Qn) (K:Qn->Option (Int×Bool×Qn)),QR 1099511627775 l->∃ g',g'.limit=g.limit ∧
  (rangeL (λ(i15:Nat) (x16:Qb) (s14:Qn)=>
   (Xn n s14 x16).bind λr18=>
   bif !r18.1 then (some (Lp.out (((i15:Int),false,r18.2)))) else (some (Lp.go r18.2))) (toR l) i g).bind (lpK K)=match fitQ g.limit l i with | none=>K g' | some i=>some ((i:Int),false,g'):=by
  intro l
  induction l with
  | nil=>intro i g K _;exact⟨g,rfl,rfl⟩
  | cons q l ih=>
    intro i g K hl
    simp only[toR,List.map_cons,rangeL,fitQ]
    rw[Qy0 hn (by have:=hl q (.head _);omega),sbind]
    simp only[]
    by_cases h:(qz q:Int)≤g.limit
    . rw[decide_eq_true h,if_pos h,Bool.not_true,bifF,sbind]
      obtain⟨g',h1,h2⟩:=ih (i+1) (noteG g q) K λx hx=>hl x (.tail _ hx)
      exact⟨g',h1,h2⟩
    . rw[decide_eq_false h,if_neg h,Bool.not_false,bifT,sbind]
      exact⟨noteG g q,rfl,rfl⟩
 obtain⟨g',h1,h2⟩:=key l 0 g (λs20=>some (((toR l).length:Int),true,s20)) hl
 refine⟨g',h1,?_⟩
 rw[h2,Zl]
 cases fitQ g.limit l 0<;>rfl
def opQ(x:Q5)(T:Rat)(Y P done:List Rat):Option Rat:=
 if x.Op=6 then some (-done.getD x.A.toNat 0) else
 if x.Op=11 then (if x.B < -8∨8<x.B∨(x.B<0∧done.getD x.A.toNat 0=0) then none else some (done.getD x.A.toNat 0 ^ x.B)) else
 if x.Op=7 then some (done.getD x.A.toNat 0+done.getD x.B.toNat 0) else
 if x.Op=8 then some (done.getD x.A.toNat 0 - done.getD x.B.toNat 0) else
 if x.Op=9 then some (done.getD x.A.toNat 0*done.getD x.B.toNat 0) else
 if x.Op=10 then (if done.getD x.B.toNat 0=0 then none else some (done.getD x.A.toNat 0 / done.getD x.B.toNat 0)) else
 if x.Op=1 then some (fv x.N) else
 if x.Op=3 then some (Y.getD x.A.toNat 0) else
 if x.Op=4 then some (P.getD x.A.toNat 0) else some T
def runQ(lim:Int)(T:Rat)(Y P:List Rat):List Q5->Nat->List Rat->(Int×Nat) ⊕ List Rat
 | [],_,done=>.inr done
 | x::c,i,done=>match opQ x T Y P done with
   | none=>.inl (3,i)
   | some q=>if (qz q:Int)≤lim then runQ lim T Y P c (i+1) (done++[q]) else .inl (6,i)
theorem Qno{l:List Rat}{r:Int}(h1:0≤r)(h2:r<(l.length:Int)):getI (toR l) r=some (toF (l.getD r.toNat 0)):=by
 obtain⟨k,rfl⟩:∃ k:Nat,r=(k:Int):=⟨r.toNat,by omega⟩
 have hk:k<l.length:=by omega
 rw[Qd6,Int.toNat_natCast]
 unfold toR
 rw[List.getElem?_map,List.getElem?_eq_getElem hk,List.getD_eq_getElem?_getD,List.getElem?_eq_getElem hk];rfl
theorem Qc3{k:Nat}{l:List Rat}{i:Nat}(h:QR k l)(h1:1≤k):qw (l.getD i 0)≤k:=by
 rw[List.getD_eq_getElem?_getD]
 rcases Nat.lt_or_ge i l.length with hi | hi
 . rw[List.getElem?_eq_getElem hi];exact h _ (List.getElem_mem hi)
 . rw[List.getElem?_eq_none hi];show qw 0≤k;rw[Qbx];exact h1
theorem rdT_A{x:Q5}(h:x.Op=6∨x.Op=11∨x.Op=7∨x.Op=8∨x.Op=9∨x.Op=10):x.A∈rdT x:=by
 unfold rdT
 by_cases a:x.Op=6∨x.Op=11
 . rw[if_pos a];simp
 . rw[if_neg a,if_pos (by omega)];simp
theorem rdT_B{x:Q5}(h:x.Op=7∨x.Op=8∨x.Op=9∨x.Op=10):x.B∈rdT x:=by
 unfold rdT
 rw[if_neg (by omega),if_pos (by omega)];simp
theorem Q27{t:Q1}{i:Nat}{x:Q5}(h:mayR t i x):∀ r∈rdT x,0≤r∧r<(i:Int):=by
 unfold mayR at h
 by_cases h1:x.Op=1
 . intro r hr
   unfold rdT at hr
   rw[if_neg (by omega),if_neg (by omega)] at hr;cases hr
 . rw[if_neg h1] at h;exact h.2.1
theorem Q5u{t:Q1}{i:Nat}{x:Q5}(h:mayR t i x)(h3:x.Op=3):0≤x.A∧x.A<t.Dim:=by
 unfold mayR at h
 rw[if_neg (by omega),if_neg (by omega),if_pos h3] at h;exact h.2.2.1
theorem Q5v{t:Q1}{i:Nat}{x:Q5}(h:mayR t i x)(h3:x.Op=4):0≤x.A∧x.A<t.Par:=by
 unfold mayR at h
 rw[if_neg (by omega),if_neg (by omega),if_neg (by omega),if_pos h3] at h;exact h.2.2.1
theorem Q38{n k:Nat}{g:Qn}{t:Q1}{x:Q5}{T:Rat}{Y P done:List Rat}(hn:big≤n)(h1:1≤k)(hk:k<1048576)(hx:mayR t done.length x)(hN:Fk k x.N)
 (hT:qw T≤k) (hY:QR k Y) (hP:QR k P) (hD:QR k done) (hy:(Y.length:Int)=t.Dim) (hp:(P.length:Int)=t.Par) :
 ∃ v,Ki n g x ⟨toF T,toR Y,toR P⟩ (toR done)=some (match opQ x T Y P done with | none=>(v,false) | some q=>(toF q,true))∧∀ q,opQ x T Y P done=some q->qw q≤8*k+1:=by
 unfold Ki opQ
 have rd:=Q27 hx
 have dA:x.Op=6∨x.Op=11∨x.Op=7∨x.Op=8∨x.Op=9∨x.Op=10->getI (toR done) x.A=some (toF (done.getD x.A.toNat 0)):=λh=>Qno (rd _ (rdT_A h)).1 (rd _ (rdT_A h)).2
 have dB:x.Op=7∨x.Op=8∨x.Op=9∨x.Op=10->getI (toR done) x.B=some (toF (done.getD x.B.toNat 0)):=λh=>Qno (rd _ (rdT_B h)).1 (rd _ (rdT_B h)).2
 have qA:qw (done.getD x.A.toNat 0)≤k:=Qc3 hD h1
 have qB:qw (done.getD x.B.toNat 0)≤k:=Qc3 hD h1
 generalize done.getD x.A.toNat 0=a at dA qA ⊢
 generalize done.getD x.B.toNat 0=b at dB qB ⊢
 have fA:Fk k (toF a):=Ve qA
 have fB:Fk k (toF b):=Ve qB
 simp only[bifd]
 by_cases o6:x.Op=6
 . simp only[if_pos o6]
   unfold Qel
   rw[dA (by omega),sbind,Qzn hn (Fk_Fw fA (by omega)),sbind,sbind,Kf]
   exact⟨toF 0,rfl,λq hq=>by cases hq;rw[Qs2];omega⟩
 simp only[if_neg o6]
 by_cases o11:x.Op=11
 . simp only[if_pos o11]
   unfold Qem
   rw[dA (by omega),sbind,Qzq hn h1 (by omega) fA,sbind,Kf]
   refine⟨toF 0,?_,λq hq=>?_⟩
   . split<;>rfl
   . split at hq
     . cases hq
     . rename_i hc
       cases hq
       exact Q25 qA (by omega)
 simp only[if_neg o11]
 by_cases o7:x.Op=7
 . simp only[if_pos o7]
   unfold Qen
   rw[dA (by omega),sbind,dB (by omega),sbind,Qdo hn h1 (by omega) fA fB,sbind,sbind,Kf,Kf]
   exact⟨toF 0,rfl,λq hq=>by cases hq;have:=Qg6 qA qB;omega⟩
 simp only[if_neg o7]
 by_cases o8:x.Op=8
 . simp only[if_pos o8]
   unfold Qeo
   rw[dA (by omega),sbind,dB (by omega),sbind,Qr3 hn h1 (by omega) fA fB,sbind,sbind,Kf,Kf]
   exact⟨toF 0,rfl,λq hq=>by cases hq;have:=Qv4 qA qB;omega⟩
 simp only[if_neg o8]
 by_cases o9:x.Op=9
 . simp only[if_pos o9]
   unfold Qep
   rw[dA (by omega),sbind,dB (by omega),sbind,Qcj hn h1 (by omega) fA fB,sbind,sbind,Kf,Kf]
   exact⟨toF 0,rfl,λq hq=>by cases hq;have:=Qab qA qB;omega⟩
 simp only[if_neg o9]
 by_cases o10:x.Op=10
 . simp only[if_pos o10]
   unfold Qeq
   rw[dA (by omega),sbind,dB (by omega),sbind,Qr4 hn h1 (by omega) fA fB,sbind,Kf,Kf]
   refine⟨toF 0,?_,λq hq=>?_⟩
   . split<;>rfl
   . split at hq
     . cases hq
     . cases hq
       have:=Qs3 qA qB;omega
 simp only[if_neg o10]
 unfold Vy
 simp only[bifd]
 by_cases o1:x.Op=1
 . simp only[if_pos o1]
   unfold Qfn
   rw[Vj hn (Fk_Fw hN (by omega)),sbind,sbind,sbind]
   exact⟨toF 0,rfl,λq hq=>by cases hq;have:=qw_fv hN h1;omega⟩
 simp only[if_neg o1]
 by_cases o3:x.Op=3
 . simp only[if_pos o3]
   obtain⟨a1,a2⟩:=Q5u hx o3
   rw[Qno a1 (by omega),sbind,sbind]
   exact⟨toF 0,rfl,λq hq=>by cases hq;have:=Qc3 (i:=x.A.toNat) hY h1;omega⟩
 simp only[if_neg o3]
 by_cases o4:x.Op=4
 . simp only[if_pos o4]
   obtain⟨a1,a2⟩:=Q5v hx o4
   rw[Qno a1 (by omega),sbind,sbind]
   exact⟨toF 0,rfl,λq hq=>by cases hq;have:=Qc3 (i:=x.A.toNat) hP h1;omega⟩
 simp only[if_neg o4]
 exact⟨toF 0,rfl,λq hq=>by cases hq;omega⟩
theorem Q62(l:List Rat)(q:Rat):toR l++[toF q]=toR (l++[q]):=by unfold toR;simp
theorem Q63{n k:Nat}{g:Qn}{t:Q1}{T:Rat}{Y P:List Rat}(hn:big≤n)(h1:129≤k)(hk:k<1048576)(ht:tapeR t)(hR:Qa3 n t=some true)(hN:∀ c∈t.Code,Fk k c.N)
 (hT:qw T≤k) (hY:QR k Y) (hP:QR k P) (hy:(Y.length:Int)=t.Dim) (hp:(P.length:Int)=t.Par) (hg:g.limit≤4096) :
 ∃ g',Vc n g t ⟨toF T,toR Y,toR P⟩=some (match runQ g.limit T Y P t.Code 0 [] with | .inl e=>([],⟨e.1,0,0,(e.2:Int)⟩,g') | .inr l=>(toR l,⟨0,0,0,0⟩,g')):=by
 unfold Vc
 simp only[jn_eq,hR,sbind,Bool.not_true,bifF]
 rw[Zl,Zl,decide_eq_true hy,decide_eq_true hp,Bool.not_true,bifF,bifF]
 have key:∀(c:List Q5) (done:List Rat) (g:Qn) (K:Qn×List Qb->Option (List Qb×Qe×Qn)),(∀(j:Nat) x,c[j]?=some x->mayR t (done.length+j) x)->(∀ x∈c,Fk k x.N)->QR k done->g.limit≤4096->done.length+c.length≤300 →
  ∃ g',(rangeL (λ(i30:Nat) (x31:Q5) (s29:Qn×(List Qb))=>
    (Ki n s29.1 x31 ⟨toF T,toR Y,toR P⟩ s29.2).bind λr33=>
    bif !r33.2 then (
     some (Lp.out ((([]:List Qb),(⟨(3:Int),0,0,(i30:Int)⟩:Qe),s29.1))))
    else (
     (Qb3 n s29.1 r33.1).bind λr35=>
     bif !r35.1 then (
      some (Lp.out ((([]:List Qb),(⟨(6:Int),0,0,(i30:Int)⟩:Qe),r35.2))))
     else (
      (appM 56 s29.2 ([r33.1]:List Qb)).bind λy37=>
      some (Lp.go (r35.2,y37))))) c done.length (g,toR done)).bind (lpK K)=match runQ g.limit T Y P c done.length done with | .inl e=>some ([],⟨e.1,0,0,(e.2:Int)⟩,g') | .inr l=>K (g',toR l):=by
  intro c
  induction c with
  | nil=>intro done g K _ _ _ _ _;exact⟨g,rfl⟩
  | cons x c ih=>
    intro done g K hm hN hD hg hl
    simp only[rangeL,runQ]
    obtain⟨v,e1,e2⟩:=Q38 (g:=g) hn (by omega) hk (by have:=hm 0 x rfl;rwa [Nat.add_zero] at this) (hN x (.head _)) hT hY hP hD hy hp
    rw[e1,sbind]
    cases hq:opQ x T Y P done with
    | none=>exact⟨g,rfl⟩
    | some q=>
      have hqk:=e2 q hq
      simp only[Bool.not_true,bifF]
      unfold Qb3
      rw[Qy0 hn (by omega),sbind,sbind]
      simp only[]
      by_cases hf:(qz q:Int)≤g.limit
      . rw[decide_eq_true hf,if_pos hf,Bool.not_true,bifF,Wz (by rw[Zl];simp at hl ⊢;omega) (by rw[Zl];simp at hl ⊢;omega),sbind,sbind]
        simp only[]
        have hq2:qw q≤k:=by
         have:=qw_qz (q:=q) (b:=4096) (by omega);omega
        have hlen:(done++[q]).length=done.length+1:=by simp
        obtain⟨g',h⟩:=ih (done++[q]) (noteG g q) K (λj y hy=>by
         rw[hlen,show done.length+1+j=done.length+(j+1) by omega];exact hm (j+1) y (by simpa using hy)) (λy hy=>hN y (.tail _ hy)) (λz hz=>by
         rcases List.mem_append.1 hz with hz | hz
         . exact hD z hz
         . rw[List.mem_singleton.1 hz];exact hq2) hg (by rw[hlen];simp at hl;omega)
        refine⟨g',?_⟩
        rw[hlen] at h
        rw[Q62]
        exact h
      . rw[decide_eq_false hf,if_neg hf,Bool.not_false,bifT,sbind]
        exact⟨noteG g q,rfl⟩
 obtain⟨⟨d1,d2,d3,d4⟩,m1,m2⟩:=ht
 obtain⟨g',h⟩:=key t.Code [] g (λs39=>some (s39.2,(⟨0,0,0,0⟩:Qe),s39.1)) (λj x hx=>by rw[show([]:List Rat).length+j=j by simp];exact m1 j x hx) hN (λ_ h=>by cases h) hg (by simpa using d4)
 refine⟨g',?_⟩
 rw[show(([]:List Rat).length)=0 from rfl,show toR []=[] from rfl] at h
 rw[h]
 cases runQ g.limit T Y P t.Code 0 []<;>rfl
def tp(k:Nat):Nat:=10 ^ k
def digB(c:Nat):Bool:=decide (48≤c∧c≤57)
def letB(c:Nat):Bool:=decide (97≤c∧c≤122∨65≤c∧c≤90∨c=95)
def sgnL:List UInt8:=[43,45,42,47,94,40,41,91,93,44,59,61]
def sgnB(c:Nat):Bool:=sgnL.any (λx=>x.toNat=c)
def kindC(c:Nat):Int:=if digB c then 1 else if letB c then 2 else if sgnB c then 3 else 0
def goC(k:Int)(c:Nat):Bool:=(decide (k=1) && digB c) || (decide (k=2) && (letB c || digB c))
def mostC(k:Int):Nat:=if k=1 then 60 else if k=2 then 12 else 1
def wdB(k:Int):List UInt8->Bool
 | []=>false
 | c::r=>decide (k≠0) && (decide (kindC c.toNat=k) && (r.all (λb=>goC k b.toNat) && decide (r.length+1≤mostC k)))
theorem Qqs(c:Nat):Qcw c=some (digB c):=by
 unfold Qcw digB;simp only[jn_eq,bifd];grind
theorem Qow(c:Nat):Qc5 c=some (letB c):=by
 unfold Qc5 letB;simp only[jn_eq,bifd];grind
theorem Q39{s:List UInt8}{p:Nat}{c:UInt8}(h:s[p]?=some c)(hc:c.toNat<128):decR s p=c.toNat∧decW s p=1:=by
 have h1:((⟨s.toArray⟩:ByteArray).get! (p+0)).toNat=c.toNat:=by
  have hp:=Ky h
  have:((⟨s.toArray⟩:ByteArray).get! (p+0))=c:=by
   show s.toArray[p+0]! = c
   simp[h]
  rw[this]
 unfold decR decW Utf8.decode
 simp only[h1]
 rw[if_pos hc];exact⟨rfl,rfl⟩
theorem Qzx{n c:Nat}(hn:big≤n):Qjj n c=some (sgnB c):=by
 unfold Qjj
 unfold big at hn
 have e:sgnB c=runG (τ:=Bool) (λ_ (x:UInt8) (_:Unit)=>if x.toNat=c then .inr true else .inl ()) (λ_=>false) sgnL 0 ():=by
  unfold sgnB
  have:∀(l:List UInt8) (i:Nat),l.any (λx=>decide (x.toNat=c))=runG (τ:=Bool) (λ_ (x:UInt8) (_:Unit)=>if x.toNat=c then .inr true else .inl ()) (λ_=>false) l i ():=by
   intro l
   induction l with
   | nil=>intro i;rfl
   | cons x l ih=>
     intro i
     simp only[List.any_cons,runG]
     by_cases h:x.toNat=c
     . simp[h]
     . simp only[decide_eq_false h,if_neg h,Bool.false_or];exact ih (i+1)
  exact this _ 0
 rw[e]
 refine Qus (λ_ i=>i) (λ_ (x:UInt8) (_:Unit)=>if x.toNat=c then .inr true else .inl ()) (λ_=>()) _ (λ_ _=>True) sgnL () (λi x b hx _=>⟨?_,λ_ _=>trivial⟩) (λb _=>by simp[bifd,sgnL]) (λb _=>rfl) trivial (by simp[sgnL];omega)
 have hi:=Ky hx
 have hlt:x.toNat<128:=by
  have:∀ y∈sgnL,y.toNat<128:=by decide
  exact this x (Kt hx)
 obtain⟨e1,e2⟩:=Q39 hx hlt
 have e1':decR [43,45,42,47,94,40,41,91,93,44,59,61] i=x.toNat:=e1
 have e2':decW [43,45,42,47,94,40,41,91,93,44,59,61] i=1:=e2
 have hi':i<([43,45,42,47,94,40,41,91,93,44,59,61]:List UInt8).length:=hi
 simp only[bifd,if_pos hi',sbind,e1',e2']
 rw[show Int.toNat ((x.toNat:Int)%256)=x.toNat by omega]
 by_cases h:x.toNat=c
 . rw[if_pos h,if_pos h];rfl
 . rw[if_neg h,if_neg h];rfl
theorem Qzy{n c:Nat}(hn:big≤n):Qjk n c=some (kindC c):=by
 unfold Qjk kindC
 rw[Qqs,sbind]
 cases digB c with
 | true=>rfl
 | false=>
   rw[bifF,Qow,sbind]
   cases letB c with
   | true=>rfl
   | false=>rw[bifF,Qzx hn,sbind];cases sgnB c<;>rfl
theorem Qzz(k:Int)(c:Nat):Qjl k c=some (goC k c):=by
 unfold Qjl goC
 simp only[jn_eq,Qqs,Qow,sbind,bifd]
 by_cases h1:k=1
 . subst h1;cases digB c<;>simp
 . by_cases h2:k=2
   . subst h2;cases letB c<;>cases digB c<;>simp
   . simp[h1,h2]
theorem Qz0(k:Int):Qjm k=some (mostC k:Int):=by
 unfold Qjm mostC;simp only[bifd];grind
def firstL(k:Int)(s:List UInt8):Nat:=1+((s.drop 1).takeWhile (λc=>goC k c.toNat)).length
theorem Qqt{α:Type}(p:α->Bool)(l:List α):(l.takeWhile p)=l.take (l.takeWhile p).length:=by
 induction l with
 | nil=>rfl
 | cons x l ih=>
   rw[List.takeWhile_cons]
   cases p x with
   | true=>simp only[if_true,List.length_cons,List.take_succ_cons];rw[←ih]
   | false=>rfl
theorem Qr8{α:Type}{p:α->Bool}:∀ {l:List α}{i:Nat},i<(l.takeWhile p).length->∃ x,l[i]?=some x∧p x=true
 | [],i,h=>by simp at h
 | y::l,0,h=>by
   cases hy:p y with
   | true=>exact⟨y,rfl,hy⟩
   | false=>rw[List.takeWhile_cons,hy] at h;simp at h
 | y::l,i+1,h=>by
   rw[List.takeWhile_cons] at h
   cases hy:p y with
   | true=>rw[hy] at h;simp only[if_true,List.length_cons] at h;exact Qr8 (l:=l) (i:=i) (by omega)
   | false=>rw[hy] at h;simp at h
theorem Ql7{α:Type}{p:α->Bool}:∀ {l:List α}{x:α},l[(l.takeWhile p).length]?=some x->p x=false
 | [],x,h=>by simp at h
 | y::l,x,h=>by
   rw[List.takeWhile_cons] at h
   cases hy:p y with
   | true=>rw[hy] at h;simp only[if_true,List.length_cons,List.getElem?_cons_succ] at h;exact Ql7 h
   | false=>rw[hy] at h;simp at h;rw[←h];exact hy
theorem Qnp{α:Type}(p:α->Bool)(l:List α):(l.takeWhile p).length≤l.length:=(List.takeWhile_sublist p).length_le
theorem Qx3{n:Nat}{s:List UInt8}{k:Int}(hn:big≤n)(hs:s.length≤4611686018427387904):Qh2 n s k=some (firstL k s:Int):=by
 unfold Qh2
 unfold big at hn
 generalize hp:(λc:UInt8=>goC k c.toNat)=p
 have hp':∀ c:UInt8,goC k c.toNat=p c:=λc=>by rw[←hp]
 have hlen:((s.drop 1).takeWhile p).length≤s.length:=Nat.le_trans (Qnp _ _) (by simp)
 have hF:firstL k s=1+((s.drop 1).takeWhile p).length:=by unfold firstL;rw[hp]
 rw[hF]
 refine Y9 (λs':Int=>s.length+2 - s'.toNat) (λs'=>∃ j:Nat,s'=((1+j:Nat):Int)∧j≤((s.drop 1).takeWhile p).length) (λt=>t=((1+((s.drop 1).takeWhile p).length:Nat):Int)) ⟨0,rfl,Nat.zero_le _⟩ (by simp;omega) (λs' hI=>?_) (λt ht=>by rw[ht])
 obtain⟨j,rfl,hj⟩:=hI
 simp only[jn_eq,bifd]
 by_cases hl:1+j<s.length
 . rw[if_pos (by omega),Q6i hl,sbind,Qzz,sbind]
   have hg:(s.drop 1)[j]?=some s[1+j]:=by rw[List.getElem?_drop,List.getElem?_eq_getElem hl]
   by_cases hj2:j<((s.drop 1).takeWhile p).length
   . obtain⟨x,h1,h2⟩:=Qr8 hj2
     rw[hg] at h1;cases h1
     left
     refine⟨((1+(j+1):Nat):Int),?_,⟨j+1,rfl,by omega⟩,by omega⟩
     have:goC k (s[1+j]).toNat=true:=by rw[hp'];exact h2
     rw[this,bifT,w1 (by omega)];rfl
   . right
     obtain rfl:j=((s.drop 1).takeWhile p).length:=by omega
     have h2:=Ql7 hg
     refine⟨_,?_,rfl⟩
     have:goC k (s[1+((s.drop 1).takeWhile p).length]).toNat=false:=by rw[hp'];exact h2
     rw[this,bifF]
 . right
   rw[if_neg (by omega)]
   refine⟨_,rfl,?_⟩
   have:((s.drop 1).takeWhile p).length≤(s.drop 1).length:=Qnp _ _
   rw[List.length_drop] at this
   have:j=((s.drop 1).takeWhile p).length:=by omega
   rw[this]
theorem Qil{α:Type}{p:α->Bool}:∀ {l:List α},(l.takeWhile p).length=l.length↔l.all p=true
 | []=>by simp
 | x::l=>by
   rw[List.takeWhile_cons]
   cases hx:p x with
   | true=>simp[hx,Qil]
   | false=>simp[hx]
theorem Qx4{n:Nat}{w:Qg9}(hn:big≤n)(hs:w.Text.length≤4611686018427387904):Qf7 n w=some (wdB w.Kind w.Text):=by
 unfold Qf7
 simp only[jn_eq,Qx3 hn hs,sbind,Qz0,bifd]
 cases hw:w.Text with
 | nil=>rfl
 | cons c r=>
   rw[if_neg (by simp)]
   by_cases h0:w.Kind=0
   . rw[if_pos h0,bifT];simp[wdB,h0]
   . rw[if_neg h0,show getS (c::r) (0:Int)=some c.toNat by rfl,sbind,Qzy hn,sbind]
     by_cases hk:kindC c.toNat=w.Kind
     . simp only[decide_eq_true hk,Bool.not_true,bifF]
       have hl:(firstL w.Kind (c::r):Int)=((c::r).length:Int)↔r.all (λb=>goC w.Kind b.toNat)=true:=by
        rw[←Qil];unfold firstL;simp only[List.drop_succ_cons,List.drop_zero,List.length_cons];omega
       by_cases ha:r.all (λb=>goC w.Kind b.toNat)=true
       . rw[if_pos (hl.2 ha)];simp only[wdB,ha,hk];simp
         congr 1
         rw[Bool.eq_iff_iff];simp;omega
       . rw[if_neg (λh=>ha (hl.1 h))]
         have:r.all (λb=>goC w.Kind b.toNat)=false:=by simpa using ha
         simp only[wdB,this,Bool.false_and,Bool.and_false]
     . simp only[decide_eq_false hk,Bool.not_false,bifT]
       simp[wdB,hk]
theorem Qnq(c:Nat):V6 c=some (digB c):=by
 unfold V6 digB;simp only[jn_eq,bifd];grind
theorem Ql9(c:Nat):Wo c=some (letB c):=by
 unfold Wo letB;simp only[jn_eq,bifd];grind
theorem Qwe(k:Int)(c:Nat):Z4 k c=some (goC k c):=by
 unfold Z4 goC
 simp only[jn_eq,Qnq,Ql9,sbind,bifd]
 by_cases h1:k=1
 . subst h1;cases digB c<;>simp
 . by_cases h2:k=2
   . subst h2;cases letB c<;>cases digB c<;>simp
   . simp[h1,h2]
theorem Qwf(k:Int):Z6 k=some (mostC k:Int):=by
 unfold Z6 mostC;simp only[bifd];grind
theorem Qwg{n c:Nat}(hn:big≤n):Z5 n c=some (kindC c):=by
 unfold Z5 kindC
 rw[Qnq,sbind]
 cases digB c with
 | true=>rfl
 | false=>
   rw[bifF,Ql9,sbind]
   cases letB c with
   | true=>rfl
   | false=>
     rw[bifF]
     unfold big at hn
     have e:(if sgnB c=true then (3:Int) else 0)=runG (τ:=Int) (λ_ (x:UInt8) (_:Unit)=>if x.toNat=c then .inr 3 else .inl ()) (λ_=>0) sgnL 0 ():=by
      unfold sgnB
      have:∀(l:List UInt8) (i:Nat),(if l.any (λx=>decide (x.toNat=c))=true then (3:Int) else 0)=runG (τ:=Int) (λ_ (x:UInt8) (_:Unit)=>if x.toNat=c then .inr 3 else .inl ()) (λ_=>0) l i ():=by
       intro l
       induction l with
       | nil=>intro i;rfl
       | cons x l ih=>
         intro i
         simp only[List.any_cons,runG]
         by_cases h:x.toNat=c
         . simp[h]
         . simp only[decide_eq_false h,if_neg h,Bool.false_or];exact ih (i+1)
      exact this _ 0
     simp only[Bool.false_eq_true,if_false]
     rw[e]
     refine Qus (λ_ i=>(i:Int)) (λ_ (x:UInt8) (_:Unit)=>if x.toNat=c then .inr (3:Int) else .inl ()) (λ_=>()) _ (λ_ _=>True) sgnL () (λi x b hx _=>⟨?_,λ_ _=>trivial⟩) (λb _=>by simp[bifd,sgnL]) (λb _=>rfl) trivial (by simp[sgnL];omega)
     have hi:=Ky hx
     have hi':i<([43,45,42,47,94,40,41,91,93,44,59,61]:List UInt8).length:=hi
     have hg:getS [43,45,42,47,94,40,41,91,93,44,59,61] (i:Int)=some x.toNat:=by
      rw[Qsw];have:([43,45,42,47,94,40,41,91,93,44,59,61]:List UInt8)[i]?=some x:=hx
      rw[this];rfl
     simp only[bifd,sbind,if_pos (show(i:Int)<(([43,45,42,47,94,40,41,91,93,44,59,61]:List UInt8).length:Int) by omega),hg]
     by_cases h:x.toNat=c
     . rw[if_pos h,if_pos h];rfl
     . rw[if_neg h,if_neg h,w1 (by simp at hi';omega)];rfl
theorem Qto{lim T Y P}(hlim:lim≤4096):∀ {c:List Q5}{i:Nat}{done l:List Rat},QR 129 done->runQ lim T Y P c i done=.inr l->l.length=done.length+c.length∧QR 129 l
 | [],i,done,l,hd,h=>by
   simp only[runQ] at h
   cases h
   exact⟨rfl,hd⟩
 | x::c,i,done,l,hd,h=>by
   simp only[runQ] at h
   cases hq:opQ x T Y P done with
   | none=>rw[hq] at h;cases h
   | some q=>
     rw[hq] at h
     simp only[] at h
     by_cases hf:(qz q:Int)≤lim
     . rw[if_pos hf] at h
       obtain⟨h1,h2⟩:=Qto hlim (λz hz=>by
        rcases List.mem_append.1 hz with hz | hz
        . exact hd z hz
        . rw[List.mem_singleton.1 hz]
          have:=qw_qz (q:=q) (b:=4096) (by omega);omega) h
       exact⟨by rw[h1];simp;omega,h2⟩
     . rw[if_neg hf] at h;cases h
theorem Qox{lim T Y P}:∀ {c:List Q5}{i:Nat}{done:List Rat}{e},runQ lim T Y P c i done=.inl e->e.1=3∨e.1=6
 | [],i,done,e,h=>by simp only[runQ] at h;cases h
 | x::c,i,done,e,h=>by
   simp only[runQ] at h
   cases hq:opQ x T Y P done with
   | none=>rw[hq] at h;cases h;exact .inl rfl
   | some q=>
     rw[hq] at h
     simp only[] at h
     by_cases hf:(qz q:Int)≤lim
     . rw[if_pos hf] at h;exact Qox h
     . rw[if_neg hf] at h;cases h;exact .inr rfl
def fieldQ(t:Q1)(lim:Int)(T:Rat)(Y P:List Rat):(Int×Nat) ⊕ List Rat:=
 match runQ lim T Y P t.Code 0 [] with
 | .inl e=>.inl e
 | .inr l=>.inr (t.Outs.map λo=>l.getD o.toNat 0)
structure Q5w(n k:Nat)(t:Q1):Prop where
 r:tapeR t
 h:Qa3 n t=some true
 w:∀ c∈t.Code,Fk k c.N
theorem Qx5{n k:Nat}{t:Q1}{p:Y4}{bits:Int}(hn:big≤n)(h1:129≤k)(hk:k<1048576)(ht:Q5w n k t)(hT:Fk k p.T)(hY:FR k p.Y)(hP:FR k p.P)(hy:(p.Y.length:Int)=t.Dim)(hp:(p.P.length:Int)=t.Par):
 Qh3 n t p bits=some (match fieldQ t (min (max bits 0) 4096) (fv p.T) (rv p.Y) (rv p.P) with | .inl e=>([],⟨e.1,0,0,(e.2:Int)⟩) | .inr l=>(toR l,⟨0,0,0,0⟩)):=by
 obtain⟨r,h,w⟩:=ht
 have hd:=r.1
 obtain⟨⟨d1,d2⟩,⟨d3,d4⟩,d5,d6⟩:=hd
 have eT:=qw_fv hT (by omega)
 have eY:=QR_rv hY (by omega)
 have eP:=QR_rv hP (by omega)
 unfold Qh3 Qmc Qk3 Qf8
 rw[Vj hn (Fk_Fw hT (by omega)),sbind,Qot hn (by omega) hY (by omega),sbind,Qot hn (by omega) hP (by omega),sbind,sbind,sbind]
 simp only[]
 obtain⟨g',e⟩:=Q63 (g:=⟨⟨0,0⟩,min (max bits 0) 4096⟩) hn h1 hk r h w eT eY eP (by rw[W9];exact hy) (by rw[W9];exact hp) (by simp only[];omega)
 rw[e,sbind]
 unfold fieldQ
 simp only[]
 cases hr:runQ (min (max bits 0) 4096) (fv p.T) (rv p.Y) (rv p.P) t.Code 0 [] with
 | inl q=>
   have hk:=Qox hr
   simp only[]
   rw[sbind]
   simp only[]
   rw[Qb4 (by omega),Bool.not_false,bifT]
 | inr l=>
   obtain⟨l1,l2⟩:=Qto (by omega) (λ_ h=>by cases h) hr
   have hl:l.length=t.Code.length:=by simpa using l1
   simp only[]
   rw[sbind]
   simp only[]
   rw[Qav,Bool.not_true,bifF]
   unfold Qmd
   simp only[jn_eq,h,sbind,Bool.not_true,bifF]
   rw[Zl,decide_eq_true (show(l.length:Int)=(t.Code.length:Int) by omega),Bool.not_true,bifF,Qxx (g:=λo:Int=>l.getD o.toNat 0) hn (by omega) λi o s ho=>?_,sbind]
   have hb:=r.2.2 o (Kt ho)
   rw[Qno hb.1 (by omega),sbind,Vj hn (Fk_Fw (Ve (Qc3 l2 (by omega))) (by omega)),sbind,Kf]
theorem Qs8{t:Q1}{lim T Y P l}(hlim:lim≤4096)(h:fieldQ t lim T Y P=.inr l):l.length=t.Outs.length∧QR 129 l:=by
 unfold fieldQ at h
 cases hr:runQ lim T Y P t.Code 0 [] with
 | inl q=>rw[hr] at h;cases h
 | inr l'=>
   rw[hr] at h;cases h
   obtain⟨l1,l2⟩:=Qto hlim (λ_ h=>by cases h) hr
   refine⟨by simp,λq hq=>?_⟩
   obtain⟨o,_,rfl⟩:=List.mem_map.1 hq
   exact Qc3 l2 (by omega)
theorem Quh{t:Q1}{lim T Y P e}(h:fieldQ t lim T Y P=.inl e):e.1=3∨e.1=6:=by
 unfold fieldQ at h
 cases hr:runQ lim T Y P t.Code 0 [] with
 | inl q=>rw[hr] at h;cases h;exact Qox hr
 | inr l'=>rw[hr] at h;cases h
def sumQ(l:List Rat):Rat:=l.foldl (λo x=>o+x) 0
theorem Qmt{k:Nat}:∀ {l:List Rat}{b:Nat}{z:Rat},QR k l->qw z≤b->qw (l.foldl (λo x=>o+x) z)≤b+l.length*(k+1)
 | [],b,z,_,h=>by simpa using h
 | x::l,b,z,hl,h=>by
   rw[List.foldl_cons]
   have:=Qmt (l:=l) (λq hq=>hl q (.tail _ hq)) (Qg6 h (hl x (.head _)))
   rw[List.length_cons,Nat.succ_mul];omega
theorem Qoy{n k:Nat}{a:List Qb}(hn:big≤n)(h1:1≤k)(hk:k<1048576)(ha:FR k a)(hl:a.length≤1000):Qb2 n a=some (toF (sumQ (rv a))):=by
 unfold Qb2
 rw[Qat hn,sbind,Qi6 (λi=>toF ((rv (a.take i)).foldl (λo x=>o+x) 0)) a,Xi,List.take_length]
 . rfl
 . intro i x hx
   have hi:=Ky hx
   have e1:a.take (i+1)=a.take i++[x]:=by rw[List.take_add_one,hx];rfl
   have e3:rv (a.take (i+1))=rv (a.take i)++[fv x]:=by unfold rv;rw[e1,List.map_append];rfl
   have hb:=Qmt (l:=rv (a.take i)) (b:=1) (z:=0) (QR_rv (λy hy=>ha y (List.mem_of_mem_take hy)) h1) (by rw[Qbx];exact Nat.le_refl _)
   have hc:(rv (a.take i)).length*(k+1)≤1000*1048576:=Nat.mul_le_mul (by rw[W9];simp;omega) (by omega)
   rw[Qdo (k:=2000000000) hn (by omega) (by omega) (Ve (by omega)) (Vt (ha x (Kt hx)) (by omega)),sbind,e3,List.foldl_append,Kf]
   rfl
 . rfl
def numR(x:Qb):Prop:=x=toF (fv x)∧qz (fv x)≤190
theorem Q28{n k:Nat}{x:Qb}(hn:big≤n)(hk:k<1048576)(hx:Fk k x):
 ((Wm n x).bind λr69=>bif !r69 then some true else (Wc n x).bind λr71=>some (decide ((190:Int)<r71)))=some (!dP (numR x)):=by
 rw[Qon hn (Fk_Fw hx (by omega)),sbind,@decP _ (Classical.propDecidable _),bifnP]
 unfold numR
 by_cases h:x=toF (fv x)
 . have h1:qw (fv x)<1099511627776:=by
    rcases Nat.eq_zero_or_pos k with h0 | h0
    . subst h0
      have:=qw_fv (Vt hx (show 0≤1 by omega)) (Nat.le_refl 1);omega
    . have:=qw_fv hx h0;omega
   have e:Wc n x=some (qz (fv x):Int):=by
    conv=>lhs;rw[h]
    exact Qoo hn h1
   rw[if_pos h,e,sbind]
   by_cases h2:qz (fv x)≤190
   . rw[dP_t ⟨h,h2⟩,decide_eq_false (by omega)];rfl
   . rw[dP_f λg=>h2 g.2,decide_eq_true (by omega)];rfl
 . rw[if_neg h,dP_f λg=>h g.1];rfl
theorem Qkg{n k:Nat}{l:List (List Qb)}(hn:big≤n)(hk:k<1048576)(hl:∀ r∈l,FR k r):Qbv n l=some (dP (∀ r∈l,∀ x∈r,numR x)):=by
 unfold Qbv
 rw[Qfg (λ_ (r:List Qb)=>∀ x∈r,numR x) (r:=false)]
 . rw[Qnn]
   by_cases h:∀ r∈l,∀ x∈r,numR x
   . rw[if_pos h,dP_t h]
   . rw[if_neg h,dP_f h]
 . intro i r hr
   have key:(rangeL (λ(_:Nat) (x60:Qb) (_:Unit)=>
    jn (λ(j66:(Bool)->Option _)=>
     (Wm n x60).bind λr69=>
     bif !r69 then (
      j66 true)
     else (
      (Wc n x60).bind λr71=>
      j66 (decide ((190:Int)<r71)))) (λ(s68:Bool)=>
     bif s68 then (
      some (Lp.out (Lp.out (false))))
     else (
      some (Lp.go ())))) r 0 ()).bind (lpK λ(_:Unit)=>some (Lp.go ()))=@ite _ (∀ x∈r,numR x) (Classical.propDecidable _) (some (Lp.go ())) (some (Lp.out (σ:=Unit) (τ:=Bool) false)):=by
    rw[Qfg (λ_ (x:Qb)=>numR x) (r:=Lp.out false),Qnn]
    intro j x hx
    have e:=Q28 hn hk (hl r (Kt hr) x (Kt hx))
    have e2:(jn (λ(j66:(Bool)->Option (Lp Unit (Lp Unit Bool)))=>
     (Wm n x).bind λr69=>
     bif !r69 then (
      j66 true)
     else (
      (Wc n x).bind λr71=>
      j66 (decide ((190:Int)<r71)))) (λ(s68:Bool)=>
     bif s68 then (
      some (Lp.out (Lp.out (false))))
     else (
      some (Lp.go ()))))=((Wm n x).bind λr69=>bif !r69 then some true else (Wc n x).bind λr71=>some (decide ((190:Int)<r71))).bind λs68=>bif s68 then (
      some (Lp.out (Lp.out (false))))
     else (
      some (Lp.go ())):=by
     rw[jn_eq]
     cases Wm n x with
     | none=>rfl
     | some b=>
       rw[sbind,sbind]
       cases b
       . rfl
       . rw[Bool.not_true,bifF,bifF]
         cases Wc n x with
         | none=>rfl
         | some z=>rfl
    rw[e2,e,sbind]
    constructor
    . intro h;rw[dP_t h];rfl
    . intro h;rw[dP_f h];rfl
   rw[key]
   constructor
   . intro h;rw[if_pos h]
   . intro h;rw[if_neg h]
def shapeR(s:Qq):Prop:=(1≤s.B.length∧s.B.length≤8)∧s.C.length=s.B.length∧s.A.length=s.B.length∧(s.E.length=s.B.length∨s.E.length=0)∧∀(i:Nat) r,s.A[i]?=some r->r.length=i
theorem Qt2(s:Qq):Qew s=some (dP (shapeR s)):=by
 unfold Qew shapeR
 simp only[jn_eq,bifd,bifnd]
 by_cases c1:(s.B.length:Int)<1
 . rw[if_pos c1,bifT,dP_f (by omega)]
 rw[if_neg c1]
 by_cases c2:(8:Int)<(s.B.length:Int)
 . rw[if_pos c2,bifT,dP_f (by omega)]
 rw[if_neg c2]
 by_cases c3:(s.C.length:Int)=(s.B.length:Int)
 case neg=>rw[if_neg c3,bifT,dP_f (by omega)]
 rw[if_pos c3]
 by_cases c4:(s.A.length:Int)=(s.B.length:Int)
 case neg=>rw[if_neg c4,bifT,dP_f (by omega)]
 rw[if_pos c4]
 have hr:=Qfg (f:=λ(i10:Nat) (x11:List Qb) (_:Unit)=>bif !decide ((x11.length:Int)=(i10:Int)) then some (Lp.out false) else some (Lp.go ())) (K:=λ_=>some true) (r:=false) (λi (r:List Qb)=>r.length=i) s.A (λi x hx=>by
  constructor
  . intro h;rw[decide_eq_true (by omega)];rfl
  . intro h;rw[decide_eq_false (by omega)];rfl)
 have hr':(rangeL (λ(i10:Nat) (x11:List Qb) (_:Unit)=>if (x11.length:Int)=(i10:Int) then some (Lp.go ()) else some (Lp.out false)) s.A 0 ()).bind (lpK λ_=>some true)=(rangeL (λ(i10:Nat) (x11:List Qb) (_:Unit)=>bif !decide ((x11.length:Int)=(i10:Int)) then some (Lp.out false) else some (Lp.go ())) s.A 0 ()).bind (lpK λ_=>some true):=by simp only[bifnd]
 have fin:(s.E.length=s.B.length∨s.E.length=0)->(rangeL (λ(i10:Nat) (x11:List Qb) (_:Unit)=>if (x11.length:Int)=(i10:Int) then some (Lp.go ()) else some (Lp.out false)) s.A 0 ()).bind (lpK λ_=>some true)=some (dP ((1≤s.B.length∧s.B.length≤8)∧s.C.length=s.B.length∧s.A.length=s.B.length∧(s.E.length=s.B.length∨s.E.length=0)∧∀(i:Nat) r,s.A[i]?=some r->r.length=i)):=by
  intro hE
  rw[hr',hr]
  by_cases h:∀(i:Nat) r,s.A[i]?=some r->r.length=i
  . rw[if_pos h,dP_t ⟨by omega,by omega,by omega,hE,h⟩]
  . rw[if_neg h,dP_f λg=>h g.2.2.2.2]
 by_cases c5:(s.E.length:Int)=(s.B.length:Int)
 . rw[if_pos c5,bifF];exact fin (.inl (by omega))
 . rw[if_neg c5]
   by_cases c6:(s.E.length:Int)=0
   . rw[if_pos c6];exact fin (.inr (by omega))
   . rw[if_neg c6,dP_f (by omega)]
structure SchW(k:Nat)(s:Qq):Prop where
 a:∀ r∈s.A,FR k r
 b:FR k s.B
 c:FR k s.C
 e:FR k s.E
 n:s.Name.length≤4611686018427387904
def rowsR(s:Qq):Prop:=∀(i:Nat) r,s.A[i]?=some r->sumQ (rv r)=fv (s.C.getD i ⟨⟨false,[]⟩,[]⟩)
theorem Qux{n k:Nat}{s:Qq}(hn:big≤n)(h1:1≤k)(hk:k<1048576)(hs:SchW k s)(hsh:shapeR s):Qfv n s=some (dP (rowsR s)):=by
 unfold Qfv
 obtain⟨⟨g1,g2⟩,g3,g4,g5,g6⟩:=hsh
 rw[Qfg (λi (r:List Qb)=>sumQ (rv r)=fv (s.C.getD i ⟨⟨false,[]⟩,[]⟩)) (r:=false)]
 . unfold rowsR
   by_cases h:∀(i:Nat) r,s.A[i]?=some r->sumQ (rv r)=fv (s.C.getD i ⟨⟨false,[]⟩,[]⟩)
   . rw[if_pos h,dP_t h]
   . rw[if_neg h,dP_f h]
 . intro i r hr
   have hi:=Ky hr
   have hc:s.C[i]?=some (s.C.getD i ⟨⟨false,[]⟩,[]⟩):=by
    rw[List.getD_eq_getElem?_getD,List.getElem?_eq_getElem (show i<s.C.length by omega)];rfl
   have hrk:=hs.a r (Kt hr)
   have hrl:=g6 i r hr
   have hck:=hs.c _ (Kt hc)
   have hb:=Qmt (l:=rv r) (b:=1) (z:=0) (QR_rv hrk h1) (by rw[Qbx];exact Nat.le_refl _)
   have hcc:(rv r).length*(k+1)≤8*1048576:=Nat.mul_le_mul (by rw[W9];omega) (by omega)
   rw[Qoy hn h1 hk hrk (by omega),sbind,J9 hc,sbind,Qkw (k:=10000000) hn (by omega) (by omega) (Ve (by unfold sumQ;omega)) (Vt hck (by omega)),sbind,Kf]
   constructor
   . intro h;rw[decide_eq_true h];rfl
   . intro h;rw[decide_eq_false h];rfl
def schR(s:Qq):Prop:=wdB 2 s.Name=true∧shapeR s∧((∀ r∈s.A,∀ x∈r,numR x)∧∀ r∈[s.B,s.C,s.E],∀ x∈r,numR x)∧rowsR s∧sumQ (rv s.B)=1∧(s.E≠[]->sumQ (rv s.E)=1)
theorem Qy1{n k:Nat}{a:List Qb}(hn:big≤n)(h1:1≤k)(hk:k<1048576)(ha:FR k a)(hl:a.length≤8){β:Type}(f:Bool->Option β):
 ((Qb2 n a).bind λr20=>(Zz n r20 (toF 1)).bind f)=f (decide (sumQ (rv a)=1)):=by
 have hb:=Qmt (l:=rv a) (b:=1) (z:=0) (QR_rv ha h1) (by rw[Qbx];exact Nat.le_refl _)
 have hcc:(rv a).length*(k+1)≤8*1048576:=Nat.mul_le_mul (by rw[W9];omega) (by omega)
 have q1:qw 1≤10000000:=by unfold qw;rw[show(1:Rat).num=1 from rfl,show(1:Rat).den=1 from rfl,show(1:Int).natAbs=1 from rfl,toL1];omega
 rw[Qoy hn h1 hk ha (by omega),sbind,Qkw (k:=10000000) hn (by omega) (by omega) (Ve (by unfold sumQ;omega)) (Ve q1),sbind,Kf,Kf]
theorem Qt3{n k:Nat}{s:Qq}(hn:big≤n)(h1:1≤k)(hk:k<1048576)(hs:SchW k s):∃ v,Qcy n s=some v∧(v=0↔schR s):=by
 unfold Qcy
 rw[Qij hn,sbind,Qx4 (w:=⟨2,s.Name,0⟩) hn hs.n,sbind]
 simp only[]
 unfold schR
 cases hw:wdB 2 s.Name
 . exact⟨1,rfl,by simp⟩
 rw[Bool.not_true,bifF,Qt2,sbind,bifnP]
 by_cases hsh:shapeR s
 case neg=>rw[if_neg hsh];exact⟨2,rfl,λh=>by omega,λh=>absurd h.2.1 hsh⟩
 rw[if_pos hsh]
 have hl:=hsh
 obtain⟨⟨g1,g2⟩,g3,g4,g5,g6⟩:=hl
 simp only[jn_eq]
 rw[Qkg hn hk hs.a,sbind,bifnP]
 have hs3:∀ r∈[s.B,s.C,s.E],FR k r:=λr hr=>by
  rcases List.mem_cons.1 hr with rfl | hr
  . exact hs.b
  rcases List.mem_cons.1 hr with rfl | hr
  . exact hs.c
  rcases List.mem_cons.1 hr with rfl | hr
  . exact hs.e
  cases hr
 by_cases hA:∀ r∈s.A,∀ x∈r,numR x
 case neg=>rw[if_neg hA,bifT];exact⟨3,rfl,λh=>by omega,λh=>absurd h.2.2.1.1 hA⟩
 rw[if_pos hA,Qkg hn hk hs3,sbind,bifnP]
 by_cases hB:∀ r∈[s.B,s.C,s.E],∀ x∈r,numR x
 case neg=>rw[if_neg hB];exact⟨3,rfl,λh=>by omega,λh=>absurd h.2.2.1.2 hB⟩
 rw[if_pos hB,Qux hn h1 hk hs hsh,sbind,bifnP]
 by_cases hR:rowsR s
 case neg=>rw[if_neg hR];exact⟨4,rfl,λh=>by omega,λh=>absurd h.2.2.2.1 hR⟩
 rw[if_pos hR,Qy1 hn h1 hk hs.b (by omega),bifnd]
 by_cases h5:sumQ (rv s.B)=1
 case neg=>rw[if_neg h5];exact⟨5,rfl,λh=>by omega,λh=>absurd h.2.2.2.2.1 h5⟩
 rw[if_pos h5,bifd]
 by_cases hE:(0:Int)<(s.E.length:Int)
 . have hE':s.E≠[]:=λh=>by rw[h] at hE;simp at hE
   rw[if_pos hE,Qy1 hn h1 hk hs.e (by omega),bifnd]
   by_cases h6:sumQ (rv s.E)=1
   . rw[if_pos h6];exact⟨0,rfl,λ_=>⟨by trivial,hsh,⟨hA,hB⟩,hR,h5,λ_=>h6⟩,λ_=>rfl⟩
   . rw[if_neg h6];exact⟨6,rfl,λh=>by omega,λh=>absurd (h.2.2.2.2.2 hE') h6⟩
 . have hE':s.E=[]:=List.eq_nil_of_length_eq_zero (by omega)
   rw[if_neg hE,bifF];exact⟨0,rfl,λ_=>⟨by trivial,hsh,⟨hA,hB⟩,hR,h5,λh=>absurd hE' h⟩,λ_=>rfl⟩
theorem Qma{n k:Nat}{s:Qq}(hn:big≤n)(h1:1≤k)(hk:k<1048576)(hs:SchW k s):Qcz n s=some (dP (schR s)):=by
 obtain⟨v,e1,e2⟩:=Qt3 hn h1 hk hs
 unfold Qcz
 rw[e1,sbind];exact Qde e2
def gapQ(s:Qq):List Rat:=if s.E=[] then [] else addQ (rv s.B) (scaleQ (-1) (rv s.E))
theorem Qwh{n k:Nat}{s:Qq}(hn:big≤n)(h1:1≤k)(hk:k<1048576)(hs:SchW k s)(hr:schR s):Qey n s=some (toR (gapQ s)):=by
 unfold Qey gapQ
 simp only[jn_eq]
 rw[Qma hn h1 hk hs,sbind,dP_t hr,Bool.not_true,bifF]
 obtain⟨⟨g1,g2⟩,g3,g4,g5,g6⟩:=hr.2.1
 by_cases hE:s.E=[]
 . rw[if_pos hE,hE];rfl
 . have hl:s.E.length≠0:=λh=>hE (List.eq_nil_of_length_eq_zero h)
   have q1:qw (((-1:Int):Int):Rat)≤1:=by unfold qw;rw[Rat.num_intCast,Rat.den_intCast,show(-1:Int).natAbs=1 from rfl,toL1];omega
   have e1:(((-1:Int):Int):Rat)=-1:=rfl
   rw[if_neg hE,decide_eq_false (by omega),bifF]
   unfold Qoh
   rw[Qj5 hn (by decide) (by decide),sbind,Qhk (k:=k+1) hn (by omega) (by omega) (Ve (by omega)) (Qcd hs.e (by omega)) (by omega),sbind,Kf]
   rw[Qs5 (k:=k+1) hn (by omega) (by omega) (Qcd hs.b (by omega)) (Qf3 (X6 (Quu q1 (QR_rv hs.e h1)) (by omega))) (by omega),sbind,Zl,Qj7,W9,if_pos (by omega),sbind,Qln,e1]
theorem Q5x{k:Nat}{s:Qq}(h1:1≤k)(hs:SchW k s):QR (2*k+2) (gapQ s):=by
 unfold gapQ
 split
 . intro x hx;cases hx
 . have q1:qw (-1:Rat)≤1:=by unfold qw;rw[show(-1:Rat).num=-1 from rfl,show(-1:Rat).den=1 from rfl,show(-1:Int).natAbs=1 from rfl,toL1];omega
   exact X6 (Q5p (QR_rv hs.b h1) (Quu q1 (QR_rv hs.e h1))) (by omega)
theorem Qqu{lim:Int}:∀ {l:List Rat}{i j:Nat},fitQ lim l i=some j->j<i+l.length
 | [],i,j,h=>by simp[fitQ] at h
 | q::l,i,j,h=>by
   simp only[fitQ] at h
   split at h
   . have:=Qqu h;simp;omega
   . cases h;simp
structure MadeQ where
 ys:List (List Rat)
 ks:List (List Rat)
 next:List Rat
 err:List Rat
def towQ(H:Rat)(m:Nat)(c:List Rat)(kss:List (List Rat)):List Rat:=scaleQ H (mixQ c kss (List.replicate m 0))
def fromQ(H:Rat)(Y c:List Rat)(kss:List (List Rat)):List Rat:=addQ Y (towQ H Y.length c kss)
def stageQ(t:Q1)(lim:Int)(T H:Rat)(Y P:List Rat)(a:List Rat)(c:Rat)(i:Nat)(kss:List (List Rat)):Qe ⊕ (List Rat×List Rat):=
 match fitQ lim (fromQ H Y a kss) 0 with
 | some j=>.inl ⟨6,0,(i:Int),300+(j:Int)⟩
 | none=>match fieldQ t lim (T+H*c) (fromQ H Y a kss) P with
   | .inl e=>.inl ⟨e.1,0,(i:Int),(e.2:Int)⟩
   | .inr k=>.inr (fromQ H Y a kss,k)
def stagesQ(t:Q1)(lim:Int)(T H:Rat)(Y P:List Rat):List (List Rat×Rat)->Nat->List (List Rat)->List (List Rat)->Qe ⊕ (List (List Rat)×List (List Rat))
 | [],_,yss,kss=>.inr (yss,kss)
 | x::r,i,yss,kss=>match stageQ t lim T H Y P x.1 x.2 i kss with
   | .inl f=>.inl f
   | .inr z=>stagesQ t lim T H Y P r (i+1) (yss++[z.1]) (kss++[z.2])
def endQ(s:Qq)(lim:Int)(H:Rat)(Y:List Rat)(yss kss:List (List Rat)):Qe ⊕ MadeQ:=
 match fitQ lim (fromQ H Y (rv s.B) kss) 0 with
 | some j=>.inl ⟨6,0,(s.B.length:Int),300+(j:Int)⟩
 | none=>match fitQ lim (if gapQ s=[] then [] else towQ H Y.length (gapQ s) kss) 0 with
   | some j=>.inl ⟨6,0,(s.B.length:Int)+1,300+(j:Int)⟩
   | none=>.inr ⟨yss,kss,fromQ H Y (rv s.B) kss,if gapQ s=[] then [] else towQ H Y.length (gapQ s) kss⟩
def doQ(t:Q1)(s:Qq)(lim:Int)(T H:Rat)(Y P:List Rat):Qe ⊕ MadeQ:=
 match stagesQ t lim T H Y P (List.zip (s.A.map rv) (rv s.C)) 0 [] [] with
 | .inl f=>.inl f
 | .inr z=>endQ s lim H Y z.1 z.2
def toRR(l:List (List Rat)):List (List Qb):=l.map toR
theorem Qnr(l:List (List Rat)):(toRR l).length=l.length:=by unfold toRR;simp
theorem Q8k(l:List (List Rat)):(toRR l).map rv=l:=by
 unfold toRR
 rw[List.map_map]
 conv=>rhs;rw[←List.map_id l]
 exact List.map_congr_left λq _=>Qln q
theorem Q1q{l:List (List Rat)}{P:List Qb->Prop}(h:∀ a∈l,P (toR a)):∀ a∈toRR l,P a:=λa ha=>by
 obtain⟨q,hq,rfl⟩:=List.mem_map.1 ha
 exact h q hq
theorem Q1r(m:Nat):QR 1 (List.replicate m 0):=λq hq=>by rw[(List.mem_replicate.1 hq).2,Qbx];exact Nat.le_refl _
theorem Qtp{k m:Nat}{H:Rat}{c:List Rat}{kss:List (List Rat)}(hH:qw H≤k)(hc:QR k c)(hk:∀ a∈kss,QR 129 a)(hl:kss.length≤8)(h0:129≤k):QR (20*k) (towQ H m c kss):=by
 have h2:=Qv7 (z:=List.replicate m 0) hc hk (Q1r m)
 have h3:kss.length*(k+129+1)≤8*(k+129+1):=Nat.mul_le_mul_right _ hl
 exact X6 (Quu hH h2) (by omega)
theorem Qrs{k:Nat}{H:Rat}{Y c:List Rat}{kss:List (List Rat)}(hY:QR k Y)(hH:qw H≤k)(hc:QR k c)(hk:∀ a∈kss,QR 129 a)(hl:kss.length≤8)(h0:129≤k):QR (22*k) (fromQ H Y c kss):=
 X6 (Q5p hY (Qtp hH hc hk hl h0)) (by omega)
theorem Qmu{m:Nat}{H:Rat}{c:List Rat}{kss:List (List Rat)}(hk:∀ a∈kss,a.length=m):(towQ H m c kss).length=m:=by
 unfold towQ;rw[Qj7];exact Qnj hk (by simp)
theorem Qir{H:Rat}{Y c:List Rat}{kss:List (List Rat)}(hk:∀ a∈kss,a.length=Y.length):(fromQ H Y c kss).length=Y.length:=by
 unfold fromQ;rw[Qrr,Qmu hk,Nat.min_self]
section
variable {n k:Nat}{p:Qw}{t h:Qb}{y:List Qb}{g:Qn}{ys ks:List (List Qb)}{nx er:List Qb}
theorem Qui{c:List Qb}{kss:List (List Rat)}(hn:big≤n)(h0:129≤k)(hk:k<16384)(hh:Fk k h)(hc:FR k c)(hkq:∀ a∈kss,QR 129 a)(hl:kss.length≤8)(hcl:c.length=kss.length)(hkl:∀ a∈kss,a.length=y.length)(hy:y.length≤6):
 Vq n p t h y g ys (toRR kss) nx er c=some (toR (towQ (fv h) y.length (rv c) kss)):=by
 unfold Vq
 rw[Quv,Q1o (j:=k) (k:=129) hn (by omega) (by omega) (by omega) (by omega) hc (Q1q λa ha=>Qf3 (hkq a ha)) (by omega) (by rw[Qnr];omega),sbind,if_pos ⟨by rw[Qnr,hcl],Q1q λa ha=>by rw[Zl];exact hkl a ha⟩]
 rw[Q8k]
 have hm:=Qv7 (z:=List.replicate y.length 0) (QR_rv hc (by omega)) hkq (Q1r y.length)
 have h3:kss.length*(k+129+1)≤8*(k+129+1):=Nat.mul_le_mul_right _ hl
 have hml:=Qnj (cs:=rv c) hkl (show(List.replicate y.length (0:Rat)).length=y.length by simp)
 rw[Qhk (k:=20*k) hn (by omega) (by omega) (Vt hh (by omega)) (Qf3 (X6 hm (by omega))) (by rw[Zl,hml];omega),sbind,Qln]
 rfl
theorem Qy2{c:List Qb}{kss:List (List Rat)}(hn:big≤n)(h0:129≤k)(hk:k<16384)(hh:Fk k h)(hyk:FR k y)(hc:FR k c)(hkq:∀ a∈kss,QR 129 a)(hl:kss.length≤8)(hcl:c.length=kss.length)(hkl:∀ a∈kss,a.length=y.length)(hy:y.length≤6):
 X9 n p t h y g ys (toRR kss) nx er c=some (toR (fromQ (fv h) (rv y) (rv c) kss)):=by
 unfold X9
 have hb:=Qtp (m:=y.length) (qw_fv hh (by omega)) (QR_rv hc (by omega)) hkq hl h0
 have htl:=Qmu (H:=fv h) (c:=rv c) hkl
 rw[Qui hn h0 hk hh hc hkq hl hcl hkl hy,sbind,Qs5 (k:=20*k) hn (by omega) (by omega) (Qcd hyk (by omega)) (Qf3 hb) (by omega),sbind,Zl,htl,if_pos rfl,Qln]
 unfold fromQ
 rw[W9]
theorem Qs9{l:List Rat}{x2:Int}(hn:big≤n)(hl:QR 1099511627775 l)(hll:l.length≤1000):
 ∃ g',g'.limit=g.limit∧V9 n p t h y g ys ks nx er (toR l) x2=some (match fitQ g.limit l 0 with | none=>(⟨0,0,0,0⟩,g') | some j=>(⟨6,0,x2,300+(j:Int)⟩,g')):=by
 obtain⟨g',h1,h2⟩:=Q61 (g:=g) hn hl
 refine⟨g',h1,?_⟩
 unfold V9
 rw[h2,sbind]
 cases hf:fitQ g.limit l 0 with
 | none=>rfl
 | some j=>
   have:=Qqu hf
   simp only[Bool.not_false,bifT]
   rw[w64 (by omega) (by omega)]
structure PrbOK(n k:Nat)(p:Qw)(t h:Qb)(y:List Qb):Prop where
 tp:Q5w n k p.Tape
 sw:SchW k p.Scheme
 sr:schR p.Scheme
 pk:FR k p.P
 pl:(p.P.length:Int)=p.Tape.Par
 tk:Fk k t
 hk:Fk k h
 yk:FR k y
 yl:(y.length:Int)=p.Tape.Dim
def limQ(bits:Int):Int:=min (max bits 0) 4096
theorem Q2h{i:Nat}{c:Qb}(hn:big≤n)(h0:129≤k)(hk:k<16384)(ht:Fk k t)(hh:Fk k h)(hck:Fk k c)(hc:p.Scheme.C[i]?=some c):Qfw n p t h (i:Int)=some (toF (fv t+fv h*fv c)):=by
 have hi:=Ky hc
 have hmul:=Qab (qw_fv hh (by omega)) (qw_fv hck (by omega))
 unfold Qfw
 simp only[jn_eq]
 rw[decide_eq_false (show ¬(i:Int)<0 by omega),bifF,decide_eq_false (show ¬(p.Scheme.C.length:Int)≤(i:Int) by omega),bifF,J9 hc,sbind,Qcj hn (by omega) (by omega) hh hck,sbind,Qdo (k:=4*k) hn (by omega) (by omega) (Vt ht (by omega)) (Ve (by omega)),sbind,Kf]
theorem Q4a{i:Nat}{a:List Qb}{c:Qb}{kss:List (List Rat)}(hn:big≤n)(h0:129≤k)(hk:k<16384)(ok:PrbOK n k p t h y)(hg:g.limit=limQ p.Bits)
 (ha:p.Scheme.A[i]?=some a) (hc:p.Scheme.C[i]?=some c) (hys:ys.length≤8) (hkq:∀ a∈kss,QR 129 a) (hki:kss.length=i) (hkl:∀ a∈kss,a.length=y.length) :
 ∃ g',g'.limit=g.limit∧∃ r,Xo n p t h y g ys (toRR kss) nx er (i:Int)=some r ∧
   match stageQ p.Tape (limQ p.Bits) (fv t) (fv h) (rv y) (rv p.P) (rv a) (fv c) i kss with
   | .inl f=>r.1=f∧f.Kind≠0
   | .inr z=>r=(⟨0,0,0,0⟩,p,t,h,y,nx,er,g',ys++[toR z.1],toRR (kss++[z.2]))∧QR 129 z.2∧z.2.length=y.length:=by
 obtain⟨⟨d1,d2⟩,⟨d3,d4⟩,d5,d6⟩:=ok.tp.r.1
 obtain⟨⟨g1,g2⟩,g3,g4,g5,g6⟩:=ok.sr.2.1
 have hi:=Ky ha
 have hyl:=ok.yl
 have hak:=ok.sw.a a (Kt ha)
 have hck:=ok.sw.c c (Kt hc)
 have hal:=g6 i a ha
 have hb:=Qrs (QR_rv ok.yk (by omega)) (qw_fv ok.hk (by omega)) (QR_rv hak (by omega)) hkq (by omega) h0
 have hfl:=Qir (H:=fv h) (Y:=rv y) (c:=rv a) (kss:=kss) (by rw[W9];exact hkl)
 rw[W9] at hfl
 unfold Xo
 rw[J9 ha,sbind,Qy2 hn h0 hk ok.hk ok.yk hak hkq (by omega) (by omega) hkl (by omega),sbind]
 obtain⟨g',e1,e2⟩:=Qs9 (p:=p) (t:=t) (h:=h) (y:=y) (g:=g) (ys:=ys) (ks:=toRR kss) (nx:=nx) (er:=er) (x2:=(i:Int)) hn (X6 hb (show 22*k≤1099511627775 by omega)) (by omega)
 refine⟨g',e1,?_⟩
 rw[e2,sbind,hg]
 unfold stageQ
 cases hf:fitQ (limQ p.Bits) (fromQ (fv h) (rv y) (rv a) kss) 0 with
 | some j=>
   simp only[]
   rw[Qb4 (by decide),Bool.not_false,bifT]
   exact⟨_,rfl,rfl,by decide⟩
 | none=>
   simp only[]
   rw[Qav,Bool.not_true,bifF]
   unfold Qog
   have hmul:=Qab (qw_fv ok.hk (by omega)) (qw_fv hck (by omega))
   have hadd:=Qg6 (qw_fv ok.tk (by omega)) hmul
   rw[Q2h hn h0 hk ok.tk ok.hk hck hc,sbind,sbind]
   have hF:=Qx5 (k:=22*k) (t:=p.Tape) (p:=⟨toF (fv t+fv h*fv c),toR (fromQ (fv h) (rv y) (rv a) kss),p.P⟩) (bits:=p.Bits) hn (by omega) (by omega) ⟨ok.tp.r,ok.tp.h,λx hx=>Vt (ok.tp.w x hx) (by omega)⟩ (Ve (by omega)) (Qf3 hb) (Qcd ok.pk (by omega)) (by simp only[Zl,hfl];exact hyl) ok.pl
   rw[hF,sbind]
   simp only[]
   rw[Kf,Qln]
   have hlim:limQ p.Bits=min (max p.Bits 0) 4096:=rfl
   rw[hlim]
   cases hq:fieldQ p.Tape (min (max p.Bits 0) 4096) (fv t+fv h*fv c) (fromQ (fv h) (rv y) (rv a) kss) (rv p.P) with
   | inl e=>
     have hkd:=Quh hq
     simp only[]
     rw[Qb4 (by omega),Bool.not_false,bifT]
     exact⟨_,rfl,rfl,by show e.1≠0;omega⟩
   | inr l=>
     obtain⟨q1,q2⟩:=Qs8 (by omega) hq
     simp only[]
     rw[Qav,Bool.not_true,bifF,Wz (by simp;omega) (by simp;omega),sbind,Wz (by rw[Qnr];simp;omega) (by rw[Qnr];simp;omega),sbind]
     refine⟨_,rfl,?_,q2,by omega⟩
     unfold toRR
     rw[List.map_append];rfl
end
section
variable {n k:Nat}{p:Qw}{t h:Qb}{y:List Qb}
def pairQ(s:Qq):List (List Rat×Rat):=List.zip (s.A.map rv) (rv s.C)
theorem Qy3{s:Qq}{i:Nat}{a:List Qb}{c:Qb}(ha:s.A[i]?=some a)(hc:s.C[i]?=some c):(pairQ s).drop i=(rv a,fv c)::(pairQ s).drop (i+1):=by
 have h1:(pairQ s)[i]?=some (rv a,fv c):=by
  unfold pairQ rv
  rw[List.getElem?_zip_eq_some]
  simp only[List.getElem?_map]
  exact⟨by rw[ha];rfl,by rw[hc];rfl⟩
 have hi:=Ky h1
 rw[List.drop_eq_getElem_cons hi]
 congr 1
 rw[List.getElem?_eq_getElem hi] at h1
 exact Option.some.inj h1
theorem Q64{g:Qn}(hn:big≤n)(h0:129≤k)(hk:k<8000)(ok:PrbOK n k p t h y)(hg:g.limit=limQ p.Bits):
 ∃ r,Qbq n p t h y g [] [] [] []=some r ∧
   match doQ p.Tape p.Scheme (limQ p.Bits) (fv t) (fv h) (rv y) (rv p.P) with
   | .inl f=>r.1=f∧f.Kind≠0
   | .inr z=>∃ g',r=(⟨0,0,0,0⟩,p,t,h,y,toR z.next,toR z.err,g',toRR z.ys,toRR z.ks)∧z.ys.length=p.Scheme.B.length∧z.ks.length=p.Scheme.B.length:=by
 obtain⟨⟨d1,d2⟩,⟨d3,d4⟩,d5,d6⟩:=ok.tp.r.1
 obtain⟨⟨g1,g2⟩,g3,g4,g5,g6⟩:=ok.sr.2.1
 have hyl:=ok.yl
 unfold Qbq
 have key:∀(bs:List Qb) (i:Nat) (g:Qn) (yss kss:List (List Rat)) (K:(Qw×Qb×Qb×(List Qb)×Qn×(List (List Qb))×(List (List Qb))×(List Qb)×(List Qb))->Option (Qe×Qw×Qb×Qb×(List Qb)×(List Qb)×(List Qb)×Qn×(List (List Qb))×(List (List Qb)))),
  i+bs.length=p.Scheme.B.length->yss.length=i->kss.length=i->(∀ a∈kss,QR 129 a)->(∀ a∈kss,a.length=y.length)->g.limit=limQ p.Bits →
  match stagesQ p.Tape (limQ p.Bits) (fv t) (fv h) (rv y) (rv p.P) ((pairQ p.Scheme).drop i) i yss kss with
  | .inl f=>∃ r,(rangeL (λ(i15:Nat) (_:Qb) (s14:Qw×Qb×Qb×(List Qb)×Qn×(List (List Qb))×(List (List Qb))×(List Qb)×(List Qb))=>
  (Xo n s14.1 s14.2.1 s14.2.2.1 s14.2.2.2.1 s14.2.2.2.2.1 s14.2.2.2.2.2.1 s14.2.2.2.2.2.2.1 s14.2.2.2.2.2.2.2.1 s14.2.2.2.2.2.2.2.2 (i15:Int)).bind λr18=>
  bif !(Q7 r18.1 (⟨0,0,0,0⟩:Qe)) then (
   some (Lp.out ((r18.1,r18.2.1,r18.2.2.1,r18.2.2.2.1,r18.2.2.2.2.1,r18.2.2.2.2.2.1,r18.2.2.2.2.2.2.1,r18.2.2.2.2.2.2.2.1,r18.2.2.2.2.2.2.2.2.1,r18.2.2.2.2.2.2.2.2.2))))
  else (
   some (Lp.go (r18.2.1,r18.2.2.1,r18.2.2.2.1,r18.2.2.2.2.1,r18.2.2.2.2.2.2.2.1,r18.2.2.2.2.2.2.2.2.1,r18.2.2.2.2.2.2.2.2.2,r18.2.2.2.2.2.1,r18.2.2.2.2.2.2.1)))) bs i (p,t,h,y,g,toRR yss,toRR kss,[],[])).bind (lpK K)=some r∧r.1=f∧f.Kind≠0
   | .inr z=>∃ g',g'.limit=limQ p.Bits∧(rangeL (λ(i15:Nat) (_:Qb) (s14:Qw×Qb×Qb×(List Qb)×Qn×(List (List Qb))×(List (List Qb))×(List Qb)×(List Qb))=>
  (Xo n s14.1 s14.2.1 s14.2.2.1 s14.2.2.2.1 s14.2.2.2.2.1 s14.2.2.2.2.2.1 s14.2.2.2.2.2.2.1 s14.2.2.2.2.2.2.2.1 s14.2.2.2.2.2.2.2.2 (i15:Int)).bind λr18=>
  bif !(Q7 r18.1 (⟨0,0,0,0⟩:Qe)) then (
   some (Lp.out ((r18.1,r18.2.1,r18.2.2.1,r18.2.2.2.1,r18.2.2.2.2.1,r18.2.2.2.2.2.1,r18.2.2.2.2.2.2.1,r18.2.2.2.2.2.2.2.1,r18.2.2.2.2.2.2.2.2.1,r18.2.2.2.2.2.2.2.2.2))))
  else (
   some (Lp.go (r18.2.1,r18.2.2.1,r18.2.2.2.1,r18.2.2.2.2.1,r18.2.2.2.2.2.2.2.1,r18.2.2.2.2.2.2.2.2.1,r18.2.2.2.2.2.2.2.2.2,r18.2.2.2.2.2.1,r18.2.2.2.2.2.2.1)))) bs i (p,t,h,y,g,toRR yss,toRR kss,[],[])).bind (lpK K)=K (p,t,h,y,g',toRR z.1,toRR z.2,[],[])∧z.1.length=p.Scheme.B.length∧z.2.length=p.Scheme.B.length∧(∀ a∈z.2,QR 129 a)∧∀ a∈z.2,a.length=y.length:=by
  intro bs
  induction bs with
  | nil=>
    intro i g yss kss K hi hy1 hk1 hq hl hg
    have he:(pairQ p.Scheme).drop i=[]:=by
     apply List.drop_eq_nil_of_le
     unfold pairQ
     simp only[List.length_nil,Nat.add_zero] at hi
     rw[List.length_zip,W9,List.length_map];omega
    rw[he]
    simp only[stagesQ]
    simp only[List.length_nil,Nat.add_zero] at hi
    exact⟨g,hg,rfl,by omega,by omega,hq,hl⟩
  | cons b bs ih=>
    intro i g yss kss K hi hy1 hk1 hq hl hg
    rw[List.length_cons] at hi
    have ha:p.Scheme.A[i]?=some (p.Scheme.A[i]'(by omega)):=List.getElem?_eq_getElem (by omega)
    have hc:p.Scheme.C[i]?=some (p.Scheme.C[i]'(by omega)):=List.getElem?_eq_getElem (by omega)
    rw[Qy3 ha hc]
    generalize p.Scheme.A[i]'(by omega)=a at ha
    generalize p.Scheme.C[i]'(by omega)=c at hc
    simp only[stagesQ,rangeL]
    obtain⟨g',e1,r,e2,e3⟩:=Q4a (g:=g) (ys:=toRR yss) (nx:=[]) (er:=[]) hn h0 (by omega) ok hg ha hc (by rw[Qnr];omega) hq hk1 hl
    rw[e2,sbind]
    cases hs:stageQ p.Tape (limQ p.Bits) (fv t) (fv h) (rv y) (rv p.P) (rv a) (fv c) i kss with
    | inl f=>
      rw[hs] at e3
      obtain⟨e4,e5⟩:=e3
      obtain⟨⟨f1,f2,f3,f4⟩,r⟩:=r
      simp only[] at e4
      subst e4
      simp only[]
      rw[Qb4 e5,Bool.not_false,bifT,sbind]
      exact⟨_,rfl,rfl,e5⟩
    | inr z=>
      rw[hs] at e3
      obtain⟨e4,e5,e6⟩:=e3
      subst e4
      simp only[]
      rw[Qav,Bool.not_true,bifF,sbind]
      have:=ih (i+1) g' (yss++[z.1]) (kss++[z.2]) K (by omega) (by simp;omega) (by simp;omega) (λa ha=>by
       rcases List.mem_append.1 ha with ha | ha
       . exact hq a ha
       . rw[List.mem_singleton.1 ha];exact e5) (λa ha=>by
       rcases List.mem_append.1 ha with ha | ha
       . exact hl a ha
       . rw[List.mem_singleton.1 ha];exact e6) (by omega)
      have e7:toRR yss++[toR z.1]=toRR (yss++[z.1]):=by unfold toRR;rw[List.map_append];rfl
      rw[e7]
      exact this
 generalize hK:(λ(s20:Qw×Qb×Qb×(List Qb)×Qn×(List (List Qb))×(List (List Qb))×(List Qb)×(List Qb))=>
  (X9 n s20.1 s20.2.1 s20.2.2.1 s20.2.2.2.1 s20.2.2.2.2.1 s20.2.2.2.2.2.1 s20.2.2.2.2.2.2.1 s20.2.2.2.2.2.2.2.1 s20.2.2.2.2.2.2.2.2 p.Scheme.B).bind λr21=>
 (V9 n s20.1 s20.2.1 s20.2.2.1 s20.2.2.2.1 s20.2.2.2.2.1 s20.2.2.2.2.2.1 s20.2.2.2.2.2.2.1 r21 s20.2.2.2.2.2.2.2.2 r21 (p.Scheme.B.length:Int)).bind λr23=>
 bif !(Q7 r23.1 (⟨0,0,0,0⟩:Qe)) then (
  some (r23.1,s20.1,s20.2.1,s20.2.2.1,s20.2.2.2.1,r21,s20.2.2.2.2.2.2.2.2,r23.2,s20.2.2.2.2.2.1,s20.2.2.2.2.2.2.1))
 else (
  jn (λ(j29:((List Qb))->Option _)=>
   (Qey n p.Scheme).bind λr32=>
   bif decide ((0:Int)<(r32.length:Int)) then (
    (Vq n s20.1 s20.2.1 s20.2.2.1 s20.2.2.2.1 r23.2 s20.2.2.2.2.2.1 s20.2.2.2.2.2.2.1 r21 s20.2.2.2.2.2.2.2.2 r32).bind λr34=>
    j29 r34)
   else (
    j29 s20.2.2.2.2.2.2.2.2)) (λ(s31:(List Qb))=>
   (V9 n s20.1 s20.2.1 s20.2.2.1 s20.2.2.2.1 r23.2 s20.2.2.2.2.2.1 s20.2.2.2.2.2.2.1 r21 s31 s31 (wrap64 ((p.Scheme.B.length:Int)+(1:Int)))).bind λr36=>
   some (r36.1,s20.1,s20.2.1,s20.2.2.1,s20.2.2.2.1,r21,s31,r36.2,s20.2.2.2.2.2.1,s20.2.2.2.2.2.2.1))))=K
 have h1:=key p.Scheme.B 0 g [] [] K (by omega) rfl rfl (λ_ h=>by cases h) (λ_ h=>by cases h) hg
 unfold doQ
 rw[List.drop_zero] at h1
 unfold pairQ at h1
 cases hs:stagesQ p.Tape (limQ p.Bits) (fv t) (fv h) (rv y) (rv p.P) (List.zip (p.Scheme.A.map rv) (rv p.Scheme.C)) 0 [] [] with
 | inl f=>
   rw[hs] at h1
   exact h1
 | inr z=>
   rw[hs] at h1
   obtain⟨g',q1,q2,q3,q4,q5,q6⟩:=h1
   obtain⟨yss,kss⟩:=z
   simp only[] at q2 q3 q4 q5 q6 ⊢
   have e0:toRR []=[]:=rfl
   rw[e0] at q2
   rw[q2,←hK]
   simp only[]
   have hbB:=Qrs (QR_rv ok.yk (by omega)) (qw_fv ok.hk (by omega)) (QR_rv ok.sw.b (by omega)) q5 (by omega) h0
   have hlB:=Qir (H:=fv h) (Y:=rv y) (c:=rv p.Scheme.B) (kss:=kss) (by rw[W9];exact q6)
   rw[W9] at hlB
   have hgq:=Q5x (k:=k) (s:=p.Scheme) (by omega) ok.sw
   rw[Qy2 hn h0 (by omega) ok.hk ok.yk ok.sw.b q5 (by omega) (by omega) q6 (by omega),sbind]
   obtain⟨g2',e1,e2⟩:=Qs9 (p:=p) (t:=t) (h:=h) (y:=y) (g:=g') (ys:=toRR yss) (ks:=toRR kss) (nx:=toR (fromQ (fv h) (rv y) (rv p.Scheme.B) kss)) (er:=[]) (x2:=(p.Scheme.B.length:Int)) hn (X6 hbB (show 22*k≤1099511627775 by omega)) (by omega)
   rw[e2,sbind,q1]
   unfold endQ
   cases hf:fitQ (limQ p.Bits) (fromQ (fv h) (rv y) (rv p.Scheme.B) kss) 0 with
   | some j=>
     simp only[]
     rw[Qb4 (by decide),Bool.not_false,bifT]
     exact⟨_,rfl,rfl,by decide⟩
   | none=>
     simp only[]
     rw[Qav,Bool.not_true,bifF,jn_eq,Qwh hn (by omega) (by omega) ok.sw ok.sr,sbind,Zl]
     have hE:((Vq n p t h y g2' (toRR yss) (toRR kss) (toR (fromQ (fv h) (rv y) (rv p.Scheme.B) kss)) [] (toR (gapQ p.Scheme)))=some (toR (towQ (fv h) y.length (gapQ p.Scheme) kss))∨gapQ p.Scheme=[])∧QR (41*k+1000) (if gapQ p.Scheme=[] then [] else towQ (fv h) y.length (gapQ p.Scheme) kss)∧(if gapQ p.Scheme=[] then [] else towQ (fv h) y.length (gapQ p.Scheme) kss).length≤1000:=by
      by_cases he:gapQ p.Scheme=[]
      . rw[if_pos he];exact⟨.inr he,λ_ h=>(by cases h),by simp⟩
      . have hEl:p.Scheme.E.length=p.Scheme.B.length:=by
         rcases g5 with g5 | g5
         . exact g5
         . exact absurd (by unfold gapQ;rw[if_pos (List.eq_nil_of_length_eq_zero g5)]) he
        have hgl:(gapQ p.Scheme).length=p.Scheme.B.length:=by
         unfold gapQ
         rw[if_neg (λh=>by rw[h] at hEl;simp at hEl;omega),Qrr,Qj7,W9,W9];omega
        rw[if_neg he]
        have ht:=Qui (k:=2*k+2) (p:=p) (t:=t) (h:=h) (y:=y) (g:=g2') (ys:=toRR yss) (nx:=toR (fromQ (fv h) (rv y) (rv p.Scheme.B) kss)) (er:=[]) (c:=toR (gapQ p.Scheme)) (kss:=kss) hn (by omega) (by omega) (Vt ok.hk (by omega)) (Qf3 hgq) q5 (by omega) (by rw[Zl];omega) q6 (by omega)
        rw[Qln] at ht
        refine⟨.inl ht,X6 (Qtp (k:=2*k+2) (Nat.le_trans (qw_fv ok.hk (by omega)) (by omega)) hgq q5 (by omega) (by omega)) (by omega),?_⟩
        rw[Qmu q6];omega
     obtain⟨hE1,hE2,hE3⟩:=hE
     have hj:∀ {β:Type}(f:List Qb->Option β),(bif decide ((0:Int)<((gapQ p.Scheme).length:Int)) then (Vq n p t h y g2' (toRR yss) (toRR kss) (toR (fromQ (fv h) (rv y) (rv p.Scheme.B) kss)) [] (toR (gapQ p.Scheme))).bind λr34=>f r34 else f [])=f (toR (if gapQ p.Scheme=[] then [] else towQ (fv h) y.length (gapQ p.Scheme) kss)):=by
      intro β f
      by_cases he:gapQ p.Scheme=[]
      . rw[if_pos he,he];rfl
      . have:(gapQ p.Scheme).length≠0:=λh=>he (List.eq_nil_of_length_eq_zero h)
        rw[if_neg he,decide_eq_true (by omega),bifT,hE1.resolve_right he,sbind]
     rw[hj,w1 (by omega),W9]
     generalize (if gapQ p.Scheme=[] then [] else towQ (fv h) y.length (gapQ p.Scheme) kss)=er at hE2 hE3 ⊢
     obtain⟨g3',e3,e4⟩:=Qs9 (p:=p) (t:=t) (h:=h) (y:=y) (g:=g2') (ys:=toRR yss) (ks:=toRR kss) (nx:=toR (fromQ (fv h) (rv y) (rv p.Scheme.B) kss)) (er:=toR er) (x2:=((p.Scheme.B.length+1:Nat):Int)) hn (X6 hE2 (show 41*k+1000≤1099511627775 by omega)) hE3
     rw[e4,sbind,show g2'.limit=limQ p.Bits by omega]
     cases hf2:fitQ (limQ p.Bits) er 0 with
     | some j=>exact⟨_,rfl,rfl,by show(6:Int)≠0;decide⟩
     | none=>exact⟨_,rfl,g3',rfl,q3,q4⟩
theorem Qwi(hn:big≤n)(h1:1≤k)(hk:k<1048576)(ht:TW p.Tape)(hd:-9223372036854775808≤p.Tape.Dim∧p.Tape.Dim≤9223372036854775807)(hs:SchW k p.Scheme):
 Qc6 n p=some (dP (tapeR p.Tape∧schR p.Scheme∧(p.P.length:Int)=p.Tape.Par)):=by
 unfold Qc6
 simp only[jn_eq]
 rw[Qov hn ht hd,sbind,bifP]
 by_cases c1:tapeR p.Tape
 . rw[if_pos c1,Qma hn h1 hk hs,sbind,bifP]
   by_cases c2:schR p.Scheme
   . rw[if_pos c2];exact Qde ⟨λh=>⟨c1,c2,h⟩,λh=>h.2.2⟩
   . rw[if_neg c2,dP_f λh=>c2 h.2.1]
 . rw[if_neg c1,dP_f λh=>c1 h.1]
end
structure PrbW(k:Nat)(p:Qw):Prop where
 t:∀ c∈p.Tape.Code,Fk k c.N
 d:-9223372036854775808≤p.Tape.Dim∧p.Tape.Dim≤9223372036854775807
 s:SchW k p.Scheme
 p:FR k p.P
def prbR(p:Qw):Prop:=tapeR p.Tape∧schR p.Scheme∧(p.P.length:Int)=p.Tape.Par
theorem PrbW.tw{k:Nat}{p:Qw}(h:PrbW k p)(hk:k<1048576):TW p.Tape:=λc hc=>Fk_Fw (h.t c hc) (by omega)
theorem Qwj{n k:Nat}{p:Qw}(hn:big≤n)(h0:129≤k)(hk:k<8000)(hw:PrbW k p):Qc6 n p=some (dP (prbR p)):=
 Qwi hn (by omega) (by omega) (hw.tw (by omega)) hw.d hw.s
theorem PrbW.ok{n k:Nat}{p:Qw}{t h:Qb}{y:List Qb}(hw:PrbW k p)(hn:big≤n)(hk:k<8000)(hr:prbR p)(ht:Fk k t)(hh:Fk k h)(hy:FR k y)(hl:(y.length:Int)=p.Tape.Dim):PrbOK n k p t h y:=
 ⟨⟨hr.1,by rw[Qov hn (hw.tw (by omega)) hw.d,dP_t hr.1],hw.t⟩,hw.s,hr.2.1,hw.p,hr.2.2,ht,hh,hy,hl⟩
def toM(z:MadeQ):Qay:=⟨toRR z.ys,toRR z.ks,toR z.next,toR z.err⟩
def noM:Qay:=⟨[],[],[],[]⟩
noncomputable def stepQ(p:Qw)(T H:Rat)(Y:List Rat):Qe ⊕ MadeQ:=
 @ite _ (prbR p∧(Y.length:Int)=p.Tape.Dim) (Classical.propDecidable _) (doQ p.Tape p.Scheme (limQ p.Bits) T H Y (rv p.P)) (.inl ⟨2,0,0,0⟩)
theorem Q1s{n k:Nat}{p:Qw}{t h:Qb}{y:List Qb}(hn:big≤n)(h0:129≤k)(hk:k<8000)(hw:PrbW k p)(ht:Fk k t)(hh:Fk k h)(hy:FR k y):
 Qlj n p t h y=some (match stepQ p (fv t) (fv h) (rv y) with | .inl f=>(noM,f) | .inr z=>(toM z,⟨0,0,0,0⟩))∧∀ f,stepQ p (fv t) (fv h) (rv y)=.inl f->f.Kind≠0:=by
 unfold Qlj stepQ
 simp only[jn_eq]
 rw[Qwj hn h0 hk hw,sbind,bifnP,W9]
 by_cases hr:prbR p
 case neg=>rw[if_neg hr,if_neg (λh=>hr h.1),bifT];exact⟨rfl,λf h=>by cases h;decide⟩
 rw[if_pos hr]
 by_cases hl:(y.length:Int)=p.Tape.Dim
 case neg=>rw[decide_eq_false hl,if_neg (λh=>hl h.2),Bool.not_false,bifT];exact⟨rfl,λf h=>by cases h;decide⟩
 rw[decide_eq_true hl,if_pos ⟨hr,hl⟩,Bool.not_true,bifF]
 have ok:=hw.ok hn hk hr ht hh hy hl
 unfold Qf8
 rw[sbind]
 obtain⟨r,e1,e2⟩:=Q64 (g:=⟨⟨0,0⟩,min (max p.Bits 0) 4096⟩) hn h0 hk ok rfl
 rw[e1,sbind]
 cases hd:doQ p.Tape p.Scheme (limQ p.Bits) (fv t) (fv h) (rv y) (rv p.P) with
 | inl f=>
   rw[hd] at e2
   obtain⟨e3,e4⟩:=e2
   refine⟨?_,λg hg=>by cases hg;exact e4⟩
   rw[e3]
   obtain⟨f1,f2,f3,f4⟩:=f
   rw[Qb4 e4,Bool.not_false,bifT];rfl
 | inr z=>
   rw[hd] at e2
   obtain⟨g',e3,_⟩:=e2
   subst e3
   simp only[]
   rw[Qav,Bool.not_true,bifF]
   exact⟨rfl,λg hg=>by cases hg⟩
theorem Qoz{t:Q1}{lim:Int}{T H:Rat}{Y P:List Rat}{m:Nat}(hlim:lim≤4096)(hm:t.Outs.length=m)(hY:Y.length=m):∀ {r:List (List Rat×Rat)}{i:Nat}{yss kss:List (List Rat)}{z},(∀ a∈kss,a.length=m)->(∀ a∈yss,a.length=m)->stagesQ t lim T H Y P r i yss kss=.inr z →
 (∀ a∈z.2,a.length=m)∧(∀ a∈z.1,a.length=m)∧(∃ e,z.1=yss++e)∧∃ e,z.2=kss++e
 | [],i,yss,kss,z,h1,h2,h=>by
   simp only[stagesQ] at h
   cases h
   exact⟨h1,h2,⟨[],by simp⟩,[],by simp⟩
 | x::r,i,yss,kss,z,h1,h2,h=>by
   simp only[stagesQ] at h
   cases hs:stageQ t lim T H Y P x.1 x.2 i kss with
   | inl f=>rw[hs] at h;cases h
   | inr w=>
     rw[hs] at h
     have hw:w.2.length=m∧w.1.length=m:=by
      unfold stageQ at hs
      split at hs
      . cases hs
      . cases hf:fieldQ t lim (T+H*x.2) (fromQ H Y x.1 kss) P with
        | inl e=>rw[hf] at hs;cases hs
        | inr k=>
          rw[hf] at hs;cases hs
          exact⟨by rw[(Qs8 hlim hf).1,hm],by show(fromQ H Y x.1 kss).length=m;rw[Qir (by rw[hY];exact h1),hY]⟩
     obtain⟨g1,g2,⟨e,g3⟩,e',g4⟩:=Qoz hlim hm hY (λa ha=>by
      rcases List.mem_append.1 ha with ha | ha
      . exact h1 a ha
      . rw[List.mem_singleton.1 ha];exact hw.1) (λa ha=>by
      rcases List.mem_append.1 ha with ha | ha
      . exact h2 a ha
      . rw[List.mem_singleton.1 ha];exact hw.2) h
     exact⟨g1,g2,⟨w.1::e,by rw[g3];simp⟩,w.2::e',by rw[g4];simp⟩
def blkB(c:Nat):Bool:=decide (c=32∨c=9∨c=10∨c=13)
theorem Qg7{α:Type}(p:α->Bool):∀(l:List α),(l.dropWhile p).length≤l.length
 | []=>Nat.le_refl _
 | x::l=>by
   rw[List.dropWhile_cons];split
   . exact Nat.le_succ_of_le (Qg7 p l)
   . exact Nat.le_refl _
def wcons(w:Qg):List Qg ⊕ Nat->List Qg ⊕ Nat
 | .inl l=>.inl (w::l)
 | .inr p=>.inr p
def tailK(k:Int)(r:List UInt8):List UInt8:=r.takeWhile (λb=>goC k b.toNat)
def scanS:List UInt8->Nat->List Qg ⊕ Nat
 | [],_=>.inl []
 | c::r,i=>
   if blkB c.toNat then scanS r (i+1)
   else if c.toNat=35 then scanS (r.dropWhile (λb=>b.toNat≠10)) (i+1+(r.takeWhile (λb=>b.toNat≠10)).length)
   else if kindC c.toNat=0 then .inr i
   else if mostC (kindC c.toNat)<1+(tailK (kindC c.toNat) r).length then .inr (i+mostC (kindC c.toNat))
   else wcons ⟨kindC c.toNat,c::tailK (kindC c.toNat) r,i⟩ (scanS (r.drop (tailK (kindC c.toNat) r).length) (i+1+(tailK (kindC c.toNat) r).length))
termination_by s=>s.length
decreasing_by
 all_goals simp only[List.length_cons,List.length_drop]
 . omega
 . have:=Qg7 (λb:UInt8=>decide (b.toNat≠10)) r;omega
 . omega
theorem Qlo(i:Nat):scanS [] i=.inl []:=by rw[scanS]
theorem Qkb(c:UInt8)(r:List UInt8)(i:Nat):scanS (c::r) i =
 if blkB c.toNat then scanS r (i+1)
 else if c.toNat=35 then scanS (r.dropWhile (λb=>b.toNat≠10)) (i+1+(r.takeWhile (λb=>b.toNat≠10)).length)
 else if kindC c.toNat=0 then .inr i
 else if mostC (kindC c.toNat)<1+(tailK (kindC c.toNat) r).length then .inr (i+mostC (kindC c.toNat))
 else wcons ⟨kindC c.toNat,c::tailK (kindC c.toNat) r,i⟩ (scanS (r.drop (tailK (kindC c.toNat) r).length) (i+1+(tailK (kindC c.toNat) r).length)):=by rw[scanS]
def rstep(i:Nat)(c:UInt8)(b:List Qg×Bool):(List Qg×Bool) ⊕ (List Qg×Int):=
 let note:=if c.toNat=35 then true else if c.toNat=10 then false else b.2
 if note || blkB c.toNat then .inl (b.1,note)
 else match b.1.getLast? with
  | some w=>if w.At+w.Text.length=i∧goC w.Kind c.toNat=true then
   (if w.Kind=0∨mostC w.Kind<w.Text.length+1 then .inr ([],(i:Int)) else .inl (b.1.dropLast++[⟨w.Kind,w.Text++[c],w.At⟩],note))
    else if kindC c.toNat=0 then .inr ([],(i:Int)) else .inl (b.1++[⟨kindC c.toNat,[c],i⟩],note)
  | none=>if kindC c.toNat=0 then .inr ([],(i:Int)) else .inl (b.1++[⟨kindC c.toNat,[c],i⟩],note)
def rscan(s:List UInt8)(i:Nat)(b:List Qg×Bool):List Qg×Int:=runG rstep (λb=>(b.1,(-1:Int))) s i b
theorem Quy(k:Int):1≤mostC k∧mostC k≤60:=by unfold mostC;grind
theorem Q8l{α:Type}{s:List α}{i:Nat}{x:α}(h:s[i]?=some x)(hs:s.length≤4611686018427387904):sub s (i:Int) (wrap64 ((i:Int)+1))=some [x]:=by
 have hi:=Ky h
 rw[w1 (by omega),Q70 (by omega) (by omega),Kv hi]
 have:s[i]=x:=by have:=List.getElem?_eq_getElem hi;rw[h] at this;exact(Option.some.inj this).symm
 rw[this,List.drop_append_of_le_length (by simp;omega),List.drop_of_length_le (by simp;omega)];rfl
theorem Qwk{n:Nat}{s:List UInt8}(hn:big≤n):Yi n s=some (if 4000<s.length then ([],4000) else rscan s 0 ([],false)):=by
 unfold Yi
 simp only[bifd]
 by_cases hs:4000<s.length
 . rw[if_pos (by omega),if_pos hs]
 . rw[if_neg (by omega),if_neg hs]
   have hn':=hn
   unfold big at hn
   unfold rscan
   refine Qus (λb i=>(b.1,b.2,(i:Int))) rstep (λb=>b.1) _ (λi b=>b.1.length≤i∧∀ w∈b.1,0≤w.At∧w.At+w.Text.length≤i) s ([],false) (λi c b hx hI=>?_) (λb _=>by simp) (λb _=>rfl) (by simp) (by omega)
   obtain⟨hI1,hI2⟩:=hI
   have hi:=Ky hx
   have hsub:=Q8l hx (by omega)
   have hg:getS s (i:Int)=some c.toNat:=by rw[Qsw,hx];rfl
   obtain⟨out,note⟩:=b
   simp only at hI1 hI2
   simp only[if_pos (show(i:Int)<(s.length:Int) by omega),jn_eq,hg,sbind,hsub,Qwg hn',Qwe,Qwf]
   have hw1:wrap64 ((i:Int)+1)=((i+1:Nat):Int):=w1 (by omega)
   have hkeep:∀ nt:Bool,rstep i c (out,note)=.inl (out,nt)->∀ b':List Qg×Bool,rstep i c (out,note)=.inl b'->b'.1.length≤i+1∧∀ w∈b'.1,0≤w.At∧w.At+w.Text.length≤((i+1:Nat):Int):=by
    intro nt h b' hb'
    rw[h] at hb';cases hb'
    exact⟨by simp only[];omega,λw hw=>by have:=hI2 w hw;omega⟩
   by_cases h35:c.toNat=35
   . have hr:rstep i c (out,note)=.inl (out,true):=by simp[rstep,h35]
     refine⟨?_,hkeep true hr⟩
     rw[hr];simp[h35,hw1,toLpp]
   . by_cases h10:c.toNat=10
     . have hr:rstep i c (out,note)=.inl (out,false):=by simp[rstep,h10,blkB]
       refine⟨?_,hkeep false hr⟩
       rw[hr];simp[h10,hw1,toLpp]
     . cases note with
       | true=>
         have hr:rstep i c (out,true)=.inl (out,true):=by simp[rstep,h10,h35]
         refine⟨?_,hkeep true hr⟩
         rw[hr];simp[h10,h35,hw1,toLpp]
       | false=>
         by_cases hb:blkB c.toNat=true
         . have hr:rstep i c (out,false)=.inl (out,false):=by simp[rstep,h10,h35,hb]
           refine⟨?_,hkeep false hr⟩
           rw[hr]
           simp only[blkB,decide_eq_true_eq,h10,false_or] at hb
           rcases hb with h | h | h<;>simp[h,hw1,toLpp]
         . have hb':blkB c.toNat=false:=by simpa using hb
           have g1:c.toNat≠32:=λh=>hb (by simp[blkB,h])
           have g2:c.toNat≠9:=λh=>hb (by simp[blkB,h])
           have g3:c.toNat≠13:=λh=>hb (by simp[blkB,h])
           simp only[if_neg h35,if_neg h10,if_neg g1,if_neg g2,bifF,decide_eq_false g3]
           have hnew:((appM 32 out [(⟨kindC c.toNat,[c],(i:Int)⟩:Qg)]).bind λy596=>
            (getI y596 (wrap64 ((y596.length:Int) - 1))).bind λy598=>
             if y598.Kind=0 then bif true then some (Lp.out (Lp.out (([]:List Qg),(i:Int)))) else some (Lp.go (y596,false,wrap64 ((i:Int)+1)))
             else bif decide ((mostC y598.Kind:Int)<(y598.Text.length:Int)) then some (Lp.out (Lp.out (([]:List Qg),(i:Int)))) else some (Lp.go (y596,false,wrap64 ((i:Int)+1)))) =
            some (toLpp (τ0:=List Qg) (λ(b:List Qg×Bool) i=>(b.1,b.2,(i:Int))) i (if kindC c.toNat=0 then .inr ([],(i:Int)) else .inl (out++[⟨kindC c.toNat,[c],i⟩],false))):=by
            rw[Wz (by simp;omega) (by simp;omega),sbind,Qrp (by omega),sbind]
            by_cases h0:kindC c.toNat=0
            . simp only[h0,if_true,bifT,toLpp]
            . simp only[if_neg h0]
              rw[decide_eq_false (by have:=(Quy (kindC c.toNat)).1;simp;omega),hw1];rfl
           have hinv:∀ b':List Qg×Bool,(if kindC c.toNat=0 then (.inr ([],(i:Int)):(List Qg×Bool) ⊕ (List Qg×Int)) else .inl (out++[⟨kindC c.toNat,[c],i⟩],false))=.inl b' →
            b'.1.length≤i+1∧∀ w∈b'.1,0≤w.At∧w.At+w.Text.length≤((i+1:Nat):Int):=by
            intro b' h
            by_cases h0:kindC c.toNat=0
            . rw[if_pos h0] at h;cases h
            . rw[if_neg h0] at h;cases h
              refine⟨by simp;omega,λw hw=>?_⟩
              rcases List.mem_append.1 hw with h | h
              . have:=hI2 w h;omega
              . rw[List.mem_singleton.1 h];simp
           rcases List.eq_nil_or_concat out with rfl | ⟨l,w,rfl⟩
           . have hr:rstep i c ([],false)=(if kindC c.toNat=0 then .inr ([],(i:Int)) else .inl ([]++[⟨kindC c.toNat,[c],i⟩],false)):=by simp[rstep,h10,h35,hb']
             rw[hr]
             refine⟨?_,hinv⟩
             rw[if_neg (by simp)]
             exact hnew
           . rw[List.concat_eq_append] at *
             have hw:=hI2 w (by simp)
             have hll:l.length+1≤i:=by simpa using hI1
             have hlast:getI (l++[w]) (wrap64 (((l++[w]).length:Int) - 1))=some w:=Qrp (by omega)
             have hr:rstep i c (l++[w],false)=(if w.At+w.Text.length=i∧goC w.Kind c.toNat=true then
              (if w.Kind=0∨mostC w.Kind<w.Text.length+1 then .inr ([],(i:Int)) else .inl (l++[⟨w.Kind,w.Text++[c],w.At⟩],false))
              else if kindC c.toNat=0 then .inr ([],(i:Int)) else .inl (l++[w]++[⟨kindC c.toNat,[c],i⟩],false)):=by simp[rstep,h10,h35,hb']
             rw[hr]
             rw[if_pos (show 0<((l++[w]).length:Int) by rw[List.length_append,List.length_singleton];omega)]
             simp only[hlast,sbind]
             rw[w64 (by omega) (by omega)]
             by_cases hat:w.At+w.Text.length=i
             . rw[if_pos hat]
               by_cases hgo:goC w.Kind c.toNat=true
               . rw[if_pos ⟨hat,hgo⟩]
                 simp only[hgo,bifT]
                 rw[Q71 (by simp;omega),sbind,Q5f (by omega),Qrp (by omega),sbind]
                 by_cases h0:w.Kind=0
                 . simp only[h0,if_true,true_or,toLpp]
                   exact⟨trivial,λb' hb'=>by cases hb'⟩
                 . by_cases hm:mostC w.Kind<w.Text.length+1
                   . have hd:decide ((mostC w.Kind:Int)<((w.Text++[c]).length:Int))=true:=decide_eq_true (by simp;omega)
                     simp only[h0,if_false,hd,bifT,false_or,if_pos hm]
                     exact⟨rfl,λb' hb'=>by cases hb'⟩
                   . have hd:decide ((mostC w.Kind:Int)<((w.Text++[c]).length:Int))=false:=decide_eq_false (by simp;omega)
                     simp only[h0,if_false,hd,bifF,false_or,if_neg hm,hw1]
                     refine⟨rfl,λb' hb'=>?_⟩
                     cases hb'
                     refine⟨by simp;omega,λv hv=>?_⟩
                     rcases List.mem_append.1 hv with h | h
                     . have:=hI2 v (by simp[h]);omega
                     . rw[List.mem_singleton.1 h];simp;omega
               . rw[if_neg (λh=>hgo h.2)]
                 simp only[show goC w.Kind c.toNat=false by simpa using hgo,bifF]
                 exact⟨hnew,hinv⟩
             . rw[if_neg hat,if_neg (λh=>hat h.1)]
               exact⟨hnew,hinv⟩
def wsR(out:List Qg):List Qg ⊕ Nat->List Qg×Int
 | .inl ws=>(out++ws,-1)
 | .inr p=>([],(p:Int))
theorem Q8m(out ws):wsR out (.inl ws)=(out++ws,-1):=Eq.symm (Eq.symm rfl)
theorem Q8n(out p):wsR out (.inr p)=([],(p:Int)):=Eq.symm (Eq.symm rfl)
theorem Qy4(i b):rscan [] i b=(b.1,(-1:Int)):=Eq.symm (Eq.symm rfl)
theorem Qi7{c r i b b'}(h:rstep i c b=.inl b'):rscan (c::r) i b=rscan r (i+1) b':=by unfold rscan;simp only[runG,h]
theorem Qy5{c r i b t}(h:rstep i c b=.inr t):rscan (c::r) i b=t:=by unfold rscan;simp only[runG,h]
theorem Q1t{c:Nat}(h:kindC c≠0):blkB c=false∧c≠35:=by
 constructor
 . cases hb:blkB c with
   | false=>rfl
   | true=>
     exfalso;apply h
     simp only[blkB,decide_eq_true_eq] at hb
     rcases hb with rfl | rfl | rfl | rfl<;>decide
 . rintro rfl;exact h (by decide)
theorem Q8o{k:Int}{c:Nat}(h:goC k c=true):kindC c≠0:=by
 unfold goC at h;unfold kindC
 simp only[Bool.or_eq_true,Bool.and_eq_true] at h
 rcases h with ⟨_,h⟩ | ⟨_,h | h⟩
 . rw[if_pos h];decide
 . rw[if_pos h];split<;>decide
 . rw[if_pos h];decide
theorem blk10:blkB 10=true:=by decide
theorem Q1u:∀(s:List UInt8) (i:Nat) (out),rscan s i (out,true)=rscan (s.dropWhile (λb=>b.toNat≠10)) (i+(s.takeWhile (λb=>b.toNat≠10)).length) (out,true)
 | [],i,out=>rfl
 | c::s,i,out=>by
   rw[List.dropWhile_cons,List.takeWhile_cons]
   by_cases h:c.toNat=10
   . simp[h]
   . simp only[ne_eq,h,not_false_eq_true,decide_true,if_true,List.length_cons]
     have hr:rstep i c (out,true)=.inl (out,true):=by unfold rstep;simp only[h,if_false];split<;>simp
     rw[Qi7 hr,Q1u s (i+1) out]
     rw[show i+((s.takeWhile (λb=>decide (b.toNat≠10))).length+1)=i+1+(s.takeWhile (λb=>decide (b.toNat≠10))).length by omega]
theorem Qy6(l:List Qg)(w):(l++[w]).getLast?=some w:=by simp
theorem Q4b{i:Nat}{c:UInt8}{l}{k:Int}{t:List UInt8}{a:Nat}(hgo:goC k c.toNat=true)(ha:a+t.length=i)(hk:k≠0):
 rstep i c (l++[⟨k,t,a⟩],false)=if mostC k<t.length+1 then .inr ([],(i:Int)) else .inl (l++[⟨k,t++[c],a⟩],false):=by
 obtain⟨g1,g2⟩:=Q1t (Q8o hgo)
 have g3:c.toNat≠10:=λh=>by rw[h,blk10] at g1;cases g1
 unfold rstep
 simp only[if_neg g2,if_neg g3,g1,Bool.or_self,Bool.false_eq_true,if_false,Qy6]
 rw[if_pos ⟨by omega,hgo⟩]
 simp only[hk,false_or,List.dropLast_concat]
theorem Q1v:∀(p s:List UInt8) (i:Nat) (l:List Qg) (k:Int) (t:List UInt8) (a:Nat),(∀ b∈p,goC k b.toNat=true)->a+t.length=i->k≠0->t.length≤mostC k →
 rscan (p++s) i (l++[⟨k,t,a⟩],false)=if mostC k<t.length+p.length then ([],((a+mostC k:Nat):Int)) else rscan s (i+p.length) (l++[⟨k,t++p,a⟩],false)
 | [],s,i,l,k,t,a,_,_,_,hl=>by
   rw[if_neg (by simp;omega)];simp
 | c::p,s,i,l,k,t,a,hp,ha,hk,hl=>by
   have hs:=Q4b (l:=l) (hp c (.head _)) ha hk
   rw[List.cons_append]
   by_cases hm:mostC k<t.length+1
   . rw[if_pos hm] at hs
     rw[Qy5 hs,if_pos (by simp;omega)]
     rw[show i=a+mostC k by omega]
   . rw[if_neg hm] at hs
     rw[Qi7 hs,Q1v p s (i+1) l k (t++[c]) a (λb hb=>hp b (.tail _ hb)) (by simp;omega) hk (by simp;omega)]
     simp only[List.length_append,List.length_cons,List.append_assoc,List.singleton_append,List.length_nil]
     rw[show t.length+(0+1)+p.length=t.length+(p.length+1) by omega,show i+1+p.length=i+(p.length+1) by omega]
def fresh(out:List Qg)(i:Nat)(s:List UInt8):Prop:=∀ w,out.getLast?=some w->w.At+w.Text.length≤i∧∀ c r,s=c::r->w.At+w.Text.length=(i:Int)->goC w.Kind c.toNat=false
theorem Qy7{out:List Qg}{i j:Nat}{s s'}(h:fresh out i s)(hj:i<j):fresh out j s':=λw hw=>by
 obtain⟨h1,_⟩:=h w hw
 exact⟨by omega,λc r _ h3=>by omega⟩
theorem Q2i{i:Nat}{c:UInt8}{r out}(hf:fresh out i (c::r))(h1:blkB c.toNat=false)(h2:c.toNat≠35):
 rstep i c (out,false)=if kindC c.toNat=0 then .inr ([],(i:Int)) else .inl (out++[⟨kindC c.toNat,[c],i⟩],false):=by
 have g3:c.toNat≠10:=λh=>by rw[h,blk10] at h1;cases h1
 unfold rstep
 simp only[if_neg h2,if_neg g3,h1,Bool.or_self,Bool.false_eq_true,if_false]
 cases ho:out.getLast? with
 | none=>rfl
 | some w=>
   obtain⟨k1,k2⟩:=hf w ho
   simp only[]
   rw[if_neg (λh=>by have:=k2 c r rfl h.1;rw[h.2] at this;cases this)]
theorem Q5y(out w x):wsR out (wcons w x)=wsR (out++[w]) x:=by cases x<;>simp[wsR,wcons]
theorem Qtq:∀(m:Nat) (s:List UInt8) (i:Nat) (out),s.length≤m->fresh out i s->rscan s i (out,false)=wsR out (scanS s i)
 | _,[],i,out,_,_=>by rw[Qy4,Qlo];simp[wsR]
 | 0,_::_,_,_,h,_=>by simp at h
 | m+1,c::r,i,out,hm,hf=>by
   rw[Qkb]
   have hrm:r.length≤m:=by simp at hm;omega
   by_cases hb:blkB c.toNat=true
   . rw[if_pos hb]
     have h35:c.toNat≠35:=λh=>by rw[h] at hb;exact absurd hb (by decide)
     have hs:rstep i c (out,false)=.inl (out,false):=by unfold rstep;simp only[if_neg h35,hb,Bool.or_true,if_true];split<;>rfl
     rw[Qi7 hs]
     exact Qtq m r (i+1) out hrm (Qy7 hf (by omega))
   . rw[if_neg hb]
     have hb':blkB c.toNat=false:=by simpa using hb
     by_cases h35:c.toNat=35
     . rw[if_pos h35]
       have hs:rstep i c (out,false)=.inl (out,true):=by unfold rstep;simp only[if_pos h35,Bool.true_or,if_true]
       rw[Qi7 hs,Q1u]
       have hd:=Qg7 (λb:UInt8=>decide (b.toNat≠10)) r
       generalize hj:i+1+(r.takeWhile (λb=>decide (b.toNat≠10))).length=j
       have hij:i<j:=by omega
       cases hq:r.dropWhile (λb=>decide (b.toNat≠10)) with
       | nil=>rw[Qy4,Qlo];simp[wsR]
       | cons d q=>
         have hd10:d.toNat=10:=by
          have:=List.head?_dropWhile_not (λb:UInt8=>decide (b.toNat≠10)) r
          rw[hq] at this;simpa using this
         have hs2:rstep j d (out,true)=.inl (out,false):=by unfold rstep;simp[hd10,blkB]
         rw[Qi7 hs2,Qkb,if_pos (by rw[hd10];decide)]
         rw[hq] at hd
         exact Qtq m q (j+1) out (by simp at hd;omega) (Qy7 hf (by omega))
     . rw[if_neg h35]
       have hs:=Q2i hf hb' h35
       by_cases h0:kindC c.toNat=0
       . rw[if_pos h0] at hs ⊢
         rw[Qy5 hs];rfl
       . rw[if_neg h0] at hs ⊢
         rw[Qi7 hs]
         generalize hk:kindC c.toNat=k at *
         have hall:∀ b∈tailK k r,goC k b.toNat=true:=λb hb=>by
          have:=List.all_takeWhile (p:=λb:UInt8=>goC k b.toNat) (l:=r)
          exact(List.all_eq_true.1 this) b hb
         have hsplit:r=tailK k r++r.drop (tailK k r).length:=by
          have h1:=Qqt (λb:UInt8=>goC k b.toNat) r
          have h2:tailK k r=r.take (tailK k r).length:=h1
          conv=>lhs;rw[←List.take_append_drop (tailK k r).length r]
          rw[←h2]
         have hrun:=Q1v (tailK k r) (r.drop (tailK k r).length) (i+1) out k [c] i hall (by simp) h0 (Quy k).1
         rw[←hsplit] at hrun
         rw[hrun]
         simp only[List.length_singleton,List.singleton_append]
         by_cases hm2:mostC k<1+(tailK k r).length
         . rw[if_pos hm2,if_pos hm2];rfl
         . rw[if_neg hm2,if_neg hm2,Q5y]
           refine Qtq m _ _ _ (by rw[List.length_drop];omega) ?_
           intro w hw
           rw[Qy6] at hw
           cases hw
           refine⟨by simp;omega,λd q hq _=>?_⟩
           have:r[(tailK k r).length]?=some d:=by
            have:=congrArg (λl=>l[0]?) hq
            simpa using this
           exact Ql7 (p:=λb:UInt8=>goC k b.toNat) this
theorem Qt4{n:Nat}{s:List UInt8}(hn:big≤n):Yi n s=some (if 4000<s.length then ([],4000) else wsR [] (scanS s 0)):=by
 rw[Qwk hn,Qtq s.length s 0 [] (Nat.le_refl _) (λw h=>by cases h)]
theorem Qlp:∀(m:Nat) (s:List UInt8) (i:Nat) (ws),s.length≤m->scanS s i=.inl ws->∀ w∈ws,w.Text.length≤s.length
 | _,[],i,ws,_,h=>by rw[Qlo] at h;cases h;simp
 | 0,_::_,_,_,h,_=>by simp at h
 | m+1,c::r,i,ws,hm,h=>by
   have hrm:r.length≤m:=by simp at hm;omega
   rw[Qkb] at h
   intro w hw
   rw[List.length_cons]
   by_cases hb:blkB c.toNat=true
   . rw[if_pos hb] at h
     have:=Qlp m r _ ws hrm h w hw;omega
   . rw[if_neg hb] at h
     by_cases h35:c.toNat=35
     . rw[if_pos h35] at h
       have hd:=Qg7 (λb:UInt8=>decide (b.toNat≠10)) r
       have:=Qlp m _ _ ws (by omega) h w hw;omega
     . rw[if_neg h35] at h
       by_cases h0:kindC c.toNat=0
       . rw[if_pos h0] at h;cases h
       . rw[if_neg h0] at h
         by_cases hm2:mostC (kindC c.toNat)<1+(tailK (kindC c.toNat) r).length
         . rw[if_pos hm2] at h;cases h
         . rw[if_neg hm2] at h
           cases hq:scanS (r.drop (tailK (kindC c.toNat) r).length) (i+1+(tailK (kindC c.toNat) r).length) with
           | inr p=>rw[hq] at h;cases h
           | inl l=>
             rw[hq] at h;cases h
             rcases List.mem_cons.1 hw with rfl | h'
             . simp only[List.length_cons]
               have:(tailK (kindC c.toNat) r).length≤r.length:=Qnp _ _
               omega
             . have:=Qlp m _ _ l (by rw[List.length_drop];omega) hq w h'
               rw[List.length_drop] at this;omega
theorem Quz(k:Int)(c:UInt8)(r:List UInt8):wdB k (c::r)=true↔k≠0∧kindC c.toNat=k∧r.all (λb=>goC k b.toNat)=true∧r.length+1≤mostC k:=by
 simp[wdB]
theorem Q5z{k:Int}{r:List UInt8}(h:r.all (λb=>goC k b.toNat)=true):tailK k r=r:=by
 have h1:=Qil.2 h
 have h2:=Qqt (λb:UInt8=>goC k b.toNat) r
 unfold tailK
 rw[h2,h1,List.take_length]
theorem Q65{k:Int}{t:List UInt8}(h:wdB k t=true)(i:Nat):scanS t i=.inl [⟨k,t,i⟩]:=by
 cases t with
 | nil=>cases h
 | cons c r=>
   obtain⟨h1,h2,h3,h4⟩:=(Quz k c r).1 h
   obtain⟨g1,g2⟩:=Q1t (c:=c.toNat) (by rw[h2];exact h1)
   rw[Qkb,if_neg (by rw[g1];decide),if_neg g2,h2,if_neg h1,Q5z h3,if_neg (by omega),List.drop_length,Qlo];rfl
theorem Qu0{n:Nat}{w:Qg}(hn:big≤n):Zo n w=some (wdB w.Kind w.Text):=by
 unfold Zo
 rw[Qt4 hn,sbind]
 by_cases hl:4000<w.Text.length
 . rw[if_pos hl]
   have:wdB w.Kind w.Text=false:=by
    cases hw:w.Text with
    | nil=>rfl
    | cons c r=>
      rw[hw] at hl
      cases hb:wdB w.Kind (c::r) with
      | false=>rfl
      | true=>have:=((Quz _ c r).1 hb).2.2.2;have:=(Quy w.Kind).2;simp at hl;omega
   rw[this];rfl
 . rw[if_neg hl]
   cases hb:wdB w.Kind w.Text with
   | true=>rw[Q65 hb];simp[wsR,jn_eq,getI]
   | false=>
     cases hs:scanS w.Text 0 with
     | inr p=>rw[Q8n];simp only[jn_eq,bifd];rw[if_neg (by omega)]
     | inl ws=>
       rw[Q8m,List.nil_append]
       simp only[jn_eq,bifd]
       rw[if_pos (by decide)]
       match ws,hs with
       | [],_=>rfl
       | [v],hs=>
         simp only[show(([v].length:Nat):Int)=1 by rfl,if_true,show getI [v] (0:Int)=some v by rfl,sbind]
         by_cases hk:v.Kind=w.Kind
         . rw[if_pos hk]
           by_cases ht:v.Text=w.Text
           . exfalso
             cases hw:w.Text with
             | nil=>rw[hw,Qlo] at hs;cases hs
             | cons c r=>
               rw[hw] at hs hb ht
               rw[Qkb] at hs
               by_cases g1:blkB c.toNat=true
               . rw[if_pos g1] at hs
                 have:=Qlp r.length r _ _ (Nat.le_refl _) hs v (by simp)
                 rw[ht] at this;simp at this;omega
               . rw[if_neg g1] at hs
                 by_cases h35:c.toNat=35
                 . rw[if_pos h35] at hs
                   have hd:=Qg7 (λb:UInt8=>decide (b.toNat≠10)) r
                   have:=Qlp _ _ _ _ (Nat.le_refl _) hs v (by simp)
                   rw[ht] at this;simp at this;simp at hd;omega
                 . rw[if_neg h35] at hs
                   by_cases h0:kindC c.toNat=0
                   . rw[if_pos h0] at hs;cases hs
                   . rw[if_neg h0] at hs
                     by_cases hm2:mostC (kindC c.toNat)<1+(tailK (kindC c.toNat) r).length
                     . rw[if_pos hm2] at hs;cases hs
                     . rw[if_neg hm2] at hs
                       cases hq:scanS (r.drop (tailK (kindC c.toNat) r).length) (0+1+(tailK (kindC c.toNat) r).length) with
                       | inr p=>rw[hq] at hs;cases hs
                       | inl l=>
                         rw[hq] at hs
                         simp only[wcons,Sum.inl.injEq,List.cons.injEq] at hs
                         obtain⟨rfl,_⟩:=hs
                         simp only at ht hk
                         have ht':tailK (kindC c.toNat) r=r:=(List.cons.inj ht).2
                         have:wdB w.Kind (c::r)=true:=by
                          rw[Quz,←hk]
                          refine⟨h0,rfl,?_,by rw[ht'] at hm2;omega⟩
                          exact Qil.1 (by have:=congrArg List.length ht';exact this)
                         rw[this] at hb;cases hb
           . simp[ht]
         . rw[if_neg hk]
       | v::u::l,_=>rw[if_neg (by simp;omega)]
theorem Qu1{R:Type}{f:Int->Option (Lp Int (Lp Unit R))}{K:Unit->Option R}{n:Nat}(P:Nat->Prop)(r:Nat->R)(N:Nat)
 (hb:∀ i,i<N->(P i->f (i:Int)=some (.go ((i+1:Nat):Int)))∧(¬ P i->f (i:Int)=some (.out (.out (r i))))) (he:f (N:Int)=some (.out (.go ()))) (hn:N<n) :
 ((∀ i,i<N->P i)∧(loopM f n 0).bind (lpK K)=K ())∨(¬(∀ i,i<N->P i)∧∃ j,(loopM f n 0).bind (lpK K)=some (r j)):=by
 have key:∀(m k n:Nat),k+m=N->m<n->((∀ i,k≤i->i<N->P i)∧(loopM f n (k:Int)).bind (lpK K)=K ())∨(¬(∀ i,k≤i->i<N->P i)∧∃ j,(loopM f n (k:Int)).bind (lpK K)=some (r j)):=by
  intro m
  induction m with
  | zero=>
    intro k n hk hn
    obtain rfl:k=N:=by omega
    exact .inl ⟨λi h1 h2=>by omega,by rw[Wb he (by omega),Option.bind_some,Xi]⟩
  | succ m ih=>
    intro k n hk hn
    obtain⟨n',rfl⟩:∃ n',n=n'+1:=⟨n - 1,by omega⟩
    obtain⟨h1,h2⟩:=hb k (by omega)
    by_cases hp:P k
    . rw[Qhf (h1 hp)]
      rcases ih (k+1) n' (by omega) (by omega) with ⟨g1,g2⟩ | ⟨g1,g2⟩
      . refine .inl ⟨λi a b=>?_,g2⟩
        rcases Nat.eq_or_lt_of_le a with c | c
        . exact c ▸ hp
        . exact g1 i c b
      . exact .inr ⟨λh=>g1 λi a b=>h i (by omega) b,g2⟩
    . exact .inr ⟨λh=>hp (h k (Nat.le_refl _) (by omega)),k,by rw[Wb (h2 hp) (by omega),Option.bind_some,Qc2]⟩
 have:=key N 0 n (by omega) hn
 simp only[Nat.zero_le,true_implies] at this
 exact this
theorem Qmb(x a b:Int):Jk x a b=some (decide (a≤x∧x≤b)):=by
 unfold Jk;simp only[jn_eq,bifd]
 by_cases h:a≤x
 . rw[if_pos h];simp[h]
 . rw[if_neg h];simp[h]
theorem Jaa{a b:Qa}(h:tF a=tF b):a=b:=by
 obtain⟨s,x,d⟩:=a;obtain⟨t,y,e⟩:=b
 unfold tF at h;simp only[] at h;cases h;rfl
theorem Jab(q:Rat):tF (rF q)=toF q:=rfl
theorem Qlq{f:Qa}:rF (fr f)=f↔tF f=toF (fv (tF f)):=by
 rw[fr_tF,←Jab]
 exact⟨λh=>by rw[h],λh=>(Jaa h).symm⟩
theorem Fk_wd{k:Nat}{f:Qa}(h:Fk k (tF f)):Wd f.N∧Wd f.D∧f.N.length≤k∧f.D.length≤k:=⟨h.1,h.2.2.1,h.2.1,h.2.2.2⟩
theorem Qu2{n k:Nat}{f:Qa}{β:Type}(g:Bool->Option β)(hn:big≤n)(hk:k<274877906944)(h1:1≤k)(h:Fk k (tF f)):((Jd n f).bind λr=>(Jb n r f).bind g)=g (dP (tF f=toF (fv (tF f)))):=by
 obtain⟨w1,w2,w3,w4⟩:=Fk_wd h
 have hq:=qw_fr (Fk_wd h) h1
 have hl:=Q26 hq
 rw[Wl hn w1 w2 (by omega) (by omega),sbind,Qgf hn (by omega) (by omega),sbind,@decP _ (Classical.propDecidable _),dP_c Qlq]
theorem Qx6{n k i:Nat}{t:Q6}{x:Js}(hn:big≤n)(hk:k<274877906944)(h1:1≤k)(hx:Fk k (tF x.N))(hi:i<1000000)
 (hd:-9223372036854775807≤t.Dim) (hd2:t.Dim≤9223372036854775807) (hp:-9223372036854775807≤t.Par) (hp2:t.Par≤9223372036854775807):Yz n x (i:Int) t.Dim t.Par=some (dP (mayR (tT t) i (tI x))):=by
 unfold Yz mayR
 have eN:(tI x).N=tF x.N:=rfl
 have eO:(tI x).Op=x.Op:=rfl
 have eA:(tI x).A=x.A:=rfl
 have eB:(tI x).B=x.B:=rfl
 have eD:(tT t).Dim=t.Dim:=rfl
 have eP:(tT t).Par=t.Par:=rfl
 simp only[eN,eO,eA,eB,eD,eP]
 rw[bifd]
 by_cases c1:x.Op=1
 . rw[if_pos c1]
   simp only[if_pos c1,jn_eq,bifd]
   by_cases a:x.A=0
   . rw[if_pos a]
     by_cases b:x.B=0
     . rw[if_pos b,Qu2 (λr=>some r) hn hk h1 hx]
       exact Qx2 ⟨λh=>⟨a,b,h⟩,λh=>h.2.2⟩
     . rw[if_neg b,dP_f λh=>b h.2.1]
   . rw[if_neg a,dP_f λh=>a h.1]
 rw[if_neg c1]
 simp only[if_neg c1,jn_eq]
 have hb:blankF (tF x.N)↔x.N.Neg=false∧x.N.N.length=0∧x.N.D.length=0:=by
  unfold blankF tF
  exact⟨λh=>⟨h.1,congrArg List.length h.2.1,congrArg List.length h.2.2⟩,λh=>⟨h.1,List.eq_nil_of_length_eq_zero h.2.1,List.eq_nil_of_length_eq_zero h.2.2⟩⟩
 by_cases hN:x.N.Neg=true
 . rw[hN,bifT,bifT,dP_f λh=>by have:=(hb.1 h.1).1;rw[hN] at this;cases this]
 have hN':x.N.Neg=false:=by simpa using hN
 rw[hN',bifF]
 simp only[bifd]
 by_cases l1:(0:Int)<(x.N.N.length:Int)
 . rw[if_pos l1,bifT,dP_f λh=>by have:=(hb.1 h.1).2.1;omega]
 rw[if_neg l1]
 by_cases l2:(0:Int)<(x.N.D.length:Int)
 . rw[if_pos l2,dP_f λh=>by have:=(hb.1 h.1).2.2;omega]
 rw[if_neg l2]
 have hbl:blankF (tF x.N):=hb.2 ⟨hN',by omega,by omega⟩
 simp only[Qmb,sbind,bifd]
 have eR:rdT (tI x)=if x.Op=6∨x.Op=11 then [x.A] else if x.Op=7∨x.Op=8∨x.Op=9∨x.Op=10 then [x.A,x.B] else []:=rfl
 have w1:wrap64 (t.Dim - 1)=t.Dim - 1:=w64 (by omega) (by omega)
 have w2:wrap64 (t.Par - 1)=t.Par - 1:=w64 (by omega) (by omega)
 have w3:wrap64 ((i:Int) - 1)=(i:Int) - 1:=w64 (by omega) (by omega)
 rw[eR,w1,w2,w3]
 clear w1 w2 w3
 by_cases c2:x.Op=2
 . simp only[if_pos c2]
   rw[if_neg (show ¬(x.Op=6∨x.Op=11) by omega),if_neg (show ¬(x.Op=7∨x.Op=8∨x.Op=9∨x.Op=10) by omega)]
   exact Qga ⟨λh=>⟨hbl,λr hr=>(by cases hr),h⟩,λh=>h.2.2⟩
 simp only[if_neg c2]
 by_cases c3:x.Op=3
 . simp only[if_pos c3]
   rw[if_neg (show ¬(x.Op=6∨x.Op=11) by omega),if_neg (show ¬(x.Op=7∨x.Op=8∨x.Op=9∨x.Op=10) by omega)]
   exact Qga ⟨λh=>⟨hbl,λr hr=>(by cases hr),by omega⟩,λh=>by have:=h.2.2;omega⟩
 simp only[if_neg c3]
 by_cases c4:x.Op=4
 . simp only[if_pos c4]
   rw[if_neg (show ¬(x.Op=6∨x.Op=11) by omega),if_neg (show ¬(x.Op=7∨x.Op=8∨x.Op=9∨x.Op=10) by omega)]
   exact Qga ⟨λh=>⟨hbl,λr hr=>(by cases hr),by omega⟩,λh=>by have:=h.2.2;omega⟩
 simp only[if_neg c4]
 by_cases c6:x.Op=6
 . simp only[if_pos c6]
   rw[if_pos (show x.Op=6∨x.Op=11 by omega)]
   exact Qga ⟨λh=>⟨hbl,λr hr=>(by rw[List.mem_singleton.1 hr];omega),h.2⟩,λh=>⟨by have:=h.2.1 x.A (by simp);omega,h.2.2⟩⟩
 simp only[if_neg c6]
 by_cases c11:x.Op=11
 . simp only[if_pos c11]
   rw[if_pos (show x.Op=6∨x.Op=11 by omega)]
   exact Qga ⟨λh=>⟨hbl,λr hr=>(by rw[List.mem_singleton.1 hr];omega),h.2⟩,λh=>⟨by have:=h.2.1 x.A (by simp);omega,h.2.2⟩⟩
 simp only[if_neg c11]
 rw[if_neg (show ¬(x.Op=6∨x.Op=11) by omega)]
 by_cases c7:7≤x.Op∧x.Op≤10
 . rw[if_pos c7,if_pos (show x.Op=7∨x.Op=8∨x.Op=9∨x.Op=10 by omega)]
   exact Qga ⟨λh=>⟨hbl,λr hr=>(by
    rcases List.mem_cons.1 hr with rfl | hr
    . omega
    . rw[List.mem_singleton.1 hr];omega),rfl⟩,λh=>⟨by have:=h.2.1 x.A (by simp);omega,by have:=h.2.1 x.B (by simp);omega⟩⟩
 . rw[if_neg c7,if_neg (show ¬(x.Op=7∨x.Op=8∨x.Op=9∨x.Op=10) by omega),dP_f λh=>by have:=h.2.2;simp at this]
theorem Qhm{α β:Type}(f:α->β){l:List α}{i:Nat}{x:α}(h:l[i]?=some x):(l.map f)[i]?=some (f x):=by rw[List.getElem?_map,h];rfl
theorem Qu3{n k:Nat}{t:Q6}(hn:big≤n)(hk:k<274877906944)(h1:1≤k)(hx:∀ x∈t.Code,Fk k (tF x.N))(ho:t.Outs.length≤1000000):
 ∃ v,Zn n t=some v∧(v=-1↔tapeR (tT t)):=by
 unfold Zn
 simp only[jn_eq,Qmb,sbind,bifnd]
 have hw:wholeR (tT t)↔((1≤t.Dim∧t.Dim≤6)∧(0≤t.Par∧t.Par≤6)∧(t.Outs.length:Int)=t.Dim∧t.Code.length≤300):=by
  unfold wholeR tT;simp only[List.length_map]
 by_cases c1:1≤t.Dim∧t.Dim≤6
 case neg=>rw[if_neg c1];exact⟨-2,rfl,λh=>by omega,λh=>absurd (hw.1 h.1).1 c1⟩
 rw[if_pos c1]
 by_cases c2:0≤t.Par∧t.Par≤6
 case neg=>rw[if_neg c2];exact⟨-2,rfl,λh=>by omega,λh=>absurd (hw.1 h.1).2.1 c2⟩
 rw[if_pos c2]
 by_cases c3:(t.Outs.length:Int)=t.Dim
 case neg=>rw[if_neg c3];exact⟨-2,rfl,λh=>by omega,λh=>absurd (hw.1 h.1).2.2.1 c3⟩
 rw[if_pos c3]
 by_cases c4:(300:Int)<(t.Code.length:Int)
 . rw[decide_eq_true c4,bifT];exact⟨-2,rfl,λh=>by omega,λh=>by have:=(hw.1 h.1).2.2.2;omega⟩
 rw[decide_eq_false c4,bifF]
 have hwh:wholeR (tT t):=hw.2 ⟨c1,c2,c3,by omega⟩
 rcases Qu1 (f:=λ(s24:Int)=>
  bif decide (s24<(t.Code.length:Int)) then (
   (getI t.Code s24).bind λy25=>
   (Yz n y25 s24 t.Dim t.Par).bind λr27=>
   bif !r27 then (
    some (Lp.out (Lp.out (s24))))
   else (
    some (Lp.go (wrap64 (s24+(1:Int))))))
  else (
   some (Lp.out (Lp.go ())))) (n:=n) (K:=λ(_:Unit)=>
  (loopM (λ(s41:Int)=>
   bif decide (s41<(t.Outs.length:Int)) then (
    (getI t.Outs s41).bind λy42=>
    if (0≤y42∧y42≤(wrap64 ((t.Code.length:Int) - (1:Int)))) then (
     some (Lp.go (wrap64 (s41+(1:Int)))))
    else (
     some (Lp.out (Lp.out ((t.Code.length:Int))))))
   else (
    some (Lp.out (Lp.go ())))) n (0:Int)).bind (lpK λ(_:Unit)=>
  some (-1:Int))) (λi=>∀ x,t.Code[i]?=some x->mayR (tT t) i (tI x)) (λi=>(i:Int)) t.Code.length (λi hi=>by
  have hp:t.Code[i]?=some t.Code[i]:=List.getElem?_eq_getElem hi
  have hxx:=hx t.Code[i] (List.getElem_mem hi)
  generalize t.Code[i]=x at hp hxx
  rw[decide_eq_true (by omega),bifT,J9 hp,sbind,Qx6 hn hk h1 hxx (by omega) (by omega) (by omega) (by omega) (by omega),sbind,w1 (by omega)]
  exact⟨λh=>by rw[dP_t (h x hp)];rfl,λh=>by rw[dP_f λg=>h λy hy=>by rw[hp] at hy;cases hy;exact g];rfl⟩) (by rw[decide_eq_false (by omega)];rfl) (by unfold big at hn;omega) with ⟨g1,g2⟩ | ⟨g1,j,g2⟩
 . have hmay:∀(i:Nat) x,(tT t).Code[i]?=some x->mayR (tT t) i x:=by
    intro i x hx
    unfold tT at hx
    simp only[List.getElem?_map] at hx
    cases hc:t.Code[i]? with
    | none=>rw[hc] at hx;cases hx
    | some y=>rw[hc] at hx;cases hx;exact g1 i (Ky hc) y hc
   rw[g2]
   rcases Qu1 (f:=λ(s41:Int)=>
    bif decide (s41<(t.Outs.length:Int)) then (
     (getI t.Outs s41).bind λy42=>
     if (0≤y42∧y42≤(wrap64 ((t.Code.length:Int) - (1:Int)))) then (
      some (Lp.go (wrap64 (s41+(1:Int)))))
     else (
      some (Lp.out (Lp.out ((t.Code.length:Int))))))
    else (
     some (Lp.out (Lp.go ())))) (n:=n) (K:=λ(_:Unit)=>some (-1:Int)) (λi=>∀ o,t.Outs[i]?=some o->0≤o∧o<(t.Code.length:Int)) (λ_=>(t.Code.length:Int)) t.Outs.length (λi hi=>by
    have hp:t.Outs[i]?=some t.Outs[i]:=List.getElem?_eq_getElem hi
    generalize t.Outs[i]=x at hp
    rw[decide_eq_true (by omega),bifT,J9 hp,sbind,w1 (by omega),w64 (by omega) (by omega)]
    exact⟨λh=>by rw[if_pos (by have:=h x hp;omega)],λh=>by rw[if_neg (λg=>h λy hy=>by rw[hp] at hy;cases hy;omega)]⟩) (by rw[decide_eq_false (by omega)];rfl) (by unfold big at hn;omega) with ⟨g3,g4⟩ | ⟨g3,j,g4⟩
   . refine⟨-1,g4,λ_=>⟨hwh,hmay,λo ho=>?_⟩,λ_=>rfl⟩
     obtain⟨i,hi⟩:=List.getElem?_of_mem ho
     have:=g3 i (Ky hi) o hi
     unfold tT;simp only[List.length_map];exact this
   . refine⟨_,g4,λh=>by omega,λh=>absurd (λi hi o ho=>?_) g3⟩
     have:=h.2.2 o (Kt ho)
     unfold tT at this;simp only[List.length_map] at this;exact this
 . refine⟨_,g2,λh=>by omega,λh=>absurd (λi hi x hx=>?_) g1⟩
   exact h.2.1 i (tI x) (Qhm tI hx)
def FKs(k:Nat)(l:List Qa):Prop:=∀ f∈l,Fk k (tF f)
theorem Qbi{f:Qa}(h:numR (tF f)):rF (fr f)=f:=Qlq.2 h.1
theorem Qhn{n k:Nat}{l:List Qa}(hn:big≤n)(hk:k<274877906944)(h1:1≤k)(h:FKs k l)(hl:l.length≤1000000):Wu n l=some (!dP (∀ f∈l,numR (tF f))):=by
 unfold Wu
 rw[Qkv (λi=>∀ f,l[i]?=some f->numR (tF f)) l.length (r:=true)]
 . have e:(∀ i,i<l.length->∀ f,l[i]?=some f->numR (tF f))↔∀ f∈l,numR (tF f):=by
    constructor
    . intro g f hf
      obtain⟨i,hi⟩:=List.getElem?_of_mem hf
      exact g i (Ky hi) f hi
    . intro g i _ f hf;exact g f (Kt hf)
   by_cases g:∀ f∈l,numR (tF f)
   . rw[if_pos (e.2 g),dP_t g];rfl
   . rw[if_neg (λh=>g (e.1 h)),dP_f g];rfl
 . intro i hi
   have hp:l[i]?=some l[i]:=List.getElem?_eq_getElem hi
   have hf:=h l[i] (List.getElem_mem hi)
   generalize l[i]=f at hp hf
   have hP:(∀ g,l[i]?=some g->numR (tF g))↔numR (tF f):=⟨λg=>g f hp,λg y hy=>by rw[hp] at hy;cases hy;exact g⟩
   rw[hP,decide_eq_true (show(i:Int)<(l.length:Int) by omega),bifT]
   simp only[jn_eq,J9 hp,sbind]
   rw[Qu2 _ hn hk h1 hf,bifnP]
   unfold numR
   by_cases c:tF f=toF (fv (tF f))
   . rw[if_pos c]
     have hr:rF (fr f)=f:=Qlq.2 c
     have hs:=Qgg (q:=fr f) hn hk (qw_fr (Fk_wd hf) h1)
     rw[hr] at hs
     rw[hs,sbind,fr_tF,w1 (by omega)]
     by_cases c2:qz (fr f)≤190
     . exact⟨λ_=>by rw[decide_eq_false (by omega),bifF],λg=>absurd ⟨c,c2⟩ g⟩
     . exact⟨λg=>absurd g.2 c2,λ_=>by rw[decide_eq_true (by omega),bifT]⟩
   . rw[if_neg c];exact⟨λg=>absurd g.1 c,λ_=>rfl⟩
 . rw[decide_eq_false (by omega)];rfl
 . unfold big at hn;omega
theorem Qx7{n k:Nat}{a:List Rat}(hn:big≤n)(h1:1≤k)(hk:k<1048576)(ha:QR k a)(hl:a.length≤1000):Wv n (rR a)=some (rF (sumQ a)):=by
 unfold Wv
 rw[Qdd hn,sbind]
 rw[Xf (λi=>(rF (sumQ (a.take i)),(i:Int))) a.length (rF (sumQ a))]
 . intro i hi
   have hp:a[i]?=some a[i]:=List.getElem?_eq_getElem hi
   have q1:=ha a[i] (List.getElem_mem hi)
   generalize a[i]=x at hp q1
   have e:sumQ (a.take (i+1))=sumQ (a.take i)+x:=by rw[Qcx hp];unfold sumQ;rw[List.foldl_append];rfl
   have hb:=Qmt (l:=a.take i) (b:=1) (z:=0) (λq hq=>ha q (List.mem_of_mem_take hq)) (by rw[Qbx];exact Nat.le_refl _)
   have hc:(a.take i).length*(k+1)≤1000*1048576:=Nat.mul_le_mul (by simp;omega) (by omega)
   rw[Vk,decide_eq_true (show(i:Int)<(a.length:Int) by omega),bifT,J9 (Qka hp),sbind,Qau (k:=2000000000) hn (by omega) (by unfold sumQ;omega) (by omega),sbind,e,w1 (by omega)]
 . rw[Vk,decide_eq_false (show ¬(a.length:Int)<(a.length:Int) by omega),bifF,List.take_length]
 . unfold big at hn;omega
 . rfl
theorem Qlr{l:List Qa}(h:∀ f∈l,numR (tF f)):rR (rvr l)=l:=by
 unfold rR rvr
 rw[List.map_map]
 conv=>rhs;rw[←List.map_id l]
 exact List.map_congr_left λf hf=>Qbi (h f hf)
theorem Q1w{n k:Nat}{l:List Qa}{q:Rat}{β:Type}(g:Bool->Option β)(hn:big≤n)(h1:1≤k)(hk:k<1048576)(h:FKs k l)(hl:l.length≤8)(hr:∀ f∈l,numR (tF f)):
 ((Wv n l).bind λr=>(Jb n r (rF q)).bind g)=g (decide (sumQ (rvr l)=q)):=by
 have hq:QR k (rvr l):=Qnl (λf hf=>Fk_wd (h f hf)) h1
 have hb:=Qmt (l:=rvr l) (b:=1) (z:=0) hq (by rw[Qbx];exact Nat.le_refl _)
 have hc:(rvr l).length*(k+1)≤8*1048576:=Nat.mul_le_mul (by rw[Qdr];exact hl) (by omega)
 have e:=Qx7 (a:=rvr l) hn h1 hk hq (by rw[Qdr];omega)
 rw[Qlr hr] at e
 rw[e,sbind,Qnk (k:=10000000) hn (by omega) (by unfold sumQ;omega),sbind]
structure SchWr(k:Nat)(s:Q3):Prop where
 a:∀ r∈s.A,FKs k r
 al:∀ r∈s.A,r.length≤1000000
 b:FKs k s.B
 bl:s.B.length≤1000000
 c:FKs k s.C
 cl:s.C.length≤1000000
 e:FKs k s.E
 el:s.E.length≤1000000
 nl:s.Name.length≤1000000
theorem Qds{l:List Qa}:(∀ x∈l.map tF,numR x)↔∀ f∈l,numR (tF f):=
 ⟨λh f hf=>h (tF f) (List.mem_map_of_mem hf),λh x hx=>by obtain⟨f,hf,rfl⟩:=List.mem_map.1 hx;exact h f hf⟩
theorem Q1x{σ ρ:Type}{A:(σ->Option ρ)->Option ρ}{k:σ->Option ρ}{Q:ρ->Prop}(b:σ)(hA:∀ k',A k'=k' b)(hk:∃ v,k b=some v∧Q v):∃ v,jn A k=some v∧Q v:=by rw[jn_eq,hA];exact hk
theorem Qta{R:Type}{f:Int->Option (Lp Int (Lp Unit R))}{K:Unit->Option R}{n:Nat}{Q:R->Prop}(P:Nat->Prop)(r:R)(N:Nat)
 (hb:∀ i,i<N->(P i->f (i:Int)=some (.go ((i+1:Nat):Int)))∧(¬ P i->f (i:Int)=some (.out (.out r)))) (he:f (N:Int)=some (.out (.go ()))) (hn:N<n)
 (hK:(∀ i,i<N->P i)->∃ v,K ()=some v∧Q v) (hr:¬(∀ i,i<N->P i)->Q r):∃ v,(loopM f n 0).bind (lpK K)=some v∧Q v:=by
 rcases Qu1 (K:=K) P (λ_=>r) N hb he hn with ⟨g1,g2⟩ | ⟨g1,j,g2⟩
 . rw[g2];exact hK g1
 . exact⟨r,g2,hr g1⟩
theorem bifExN{ρ:Type}{b:Bool}{x:ρ}{y:Option ρ}{Q:ρ->Prop}(h1:b=false->Q x)(h2:b=true->∃ v,y=some v∧Q v):∃ v,(bif !b then some x else y)=some v∧Q v:=by
 cases b
 . exact⟨x,rfl,h1 rfl⟩
 . exact h2 rfl
theorem Qns{s:Q3}:shapeR (tS s)↔((1≤s.B.length∧s.B.length≤8)∧s.C.length=s.B.length∧s.A.length=s.B.length∧(s.E.length=s.B.length∨s.E.length=0))∧∀ i,i<s.B.length->∀ r,s.A[i]?=some r->r.length=i:=by
 have eB:(tS s).B=s.B.map tF:=rfl
 have eC:(tS s).C=s.C.map tF:=rfl
 have eE:(tS s).E=s.E.map tF:=rfl
 have eA:(tS s).A=s.A.map (·.map tF):=rfl
 unfold shapeR
 rw[eB,eC,eE,eA]
 simp only[List.length_map]
 refine⟨λh=>⟨⟨h.1,h.2.1,h.2.2.1,h.2.2.2.1⟩,λi _ r hr=>?_⟩,λh=>⟨h.1.1,h.1.2.1,h.1.2.2.1,h.1.2.2.2,λi r hr=>?_⟩⟩
 . have:=h.2.2.2.2 i (r.map tF) (Qhm _ hr);simpa using this
 . rw[List.getElem?_map] at hr
   cases hc:s.A[i]? with
   | none=>rw[hc] at hr;cases hr
   | some y=>
     rw[hc] at hr;cases hr
     have:=h.2 i (by have:=Ky hc;have:=h.1.2.2.1;omega) y hc
     simpa using this
theorem Qu4{n k:Nat}{s:Q3}(hn:big≤n)(h1:1≤k)(hk:k<1048576)(hs:SchWr k s):∃ v,Zp n s=some v∧(v=0↔schR (tS s)):=by
 unfold Zp
 rw[Qu0 hn,sbind]
 simp only[]
 unfold schR
 have eNm:(tS s).Name=s.Name:=rfl
 have eB:(tS s).B=s.B.map tF:=rfl
 have eC:(tS s).C=s.C.map tF:=rfl
 have eE:(tS s).E=s.E.map tF:=rfl
 have eA:(tS s).A=s.A.map (·.map tF):=rfl
 rw[eNm]
 refine bifExN (λhw=>⟨λh=>by omega,λh=>by rw[hw] at h;exact absurd h.1 (by decide)⟩) λhw=>?_
 refine Q1x (!decide ((1≤s.B.length∧s.B.length≤8)∧s.C.length=s.B.length∧s.A.length=s.B.length∧(s.E.length=s.B.length∨s.E.length=0))) (λk'=>?_) ?_
 . simp only[bifd,bifnd]
   have tr:∀ {P:Prop}[Decidable P],¬ P->k' true=k' (!decide P):=λh=>by rw[decide_eq_false h];rfl
   by_cases c1:(s.B.length:Int)<1
   . rw[if_pos c1];exact tr (by omega)
   rw[if_neg c1]
   by_cases c2:(8:Int)<(s.B.length:Int)
   . rw[if_pos c2];exact tr (by omega)
   rw[if_neg c2]
   by_cases c3:(s.C.length:Int)=(s.B.length:Int)
   case neg=>rw[if_neg c3];exact tr (by omega)
   rw[if_pos c3]
   by_cases c4:(s.A.length:Int)=(s.B.length:Int)
   case neg=>rw[if_neg c4];exact tr (by omega)
   rw[if_pos c4]
   by_cases c5:(s.E.length:Int)=0
   . rw[if_pos c5,decide_eq_true (by omega)];rfl
   rw[if_neg c5]
   by_cases c6:(s.E.length:Int)=(s.B.length:Int)
   . rw[decide_eq_true c6,decide_eq_true (by omega)]
   . rw[decide_eq_false c6];exact tr (by omega)
 refine bifExN (λhsh=>⟨λh=>by omega,λh=>absurd (Qns.1 h.2.1).1 (of_decide_eq_false hsh)⟩) λhsh=>?_
 have hsh:=of_decide_eq_true hsh
 obtain⟨⟨b1,b2⟩,b3,b4,b5⟩:=hsh
 have hgA:∀ i,i<s.B.length->∃ r,s.A[i]?=some r∧r∈s.A:=λi hi=>⟨s.A[i]'(by omega),List.getElem?_eq_getElem (by omega),List.getElem_mem (by omega)⟩
 have hgC:∀ i,i<s.B.length->∃ r,s.C[i]?=some r∧r∈s.C:=λi hi=>⟨s.C[i]'(by omega),List.getElem?_eq_getElem (by omega),List.getElem_mem (by omega)⟩
 have hbn:s.B.length<n:=by unfold big at hn;omega
 refine Qta (λi=>∀ r,s.A[i]?=some r->r.length=i) 2 s.B.length (λi hi=>?_) ?_ hbn (λhlen=>?_) (λhlen=>⟨λh=>by omega,λh=>absurd (Qns.1 h.2.1).2 hlen⟩)
 . obtain⟨r,hr,_⟩:=hgA i hi
   rw[decide_eq_true (show(i:Int)<(s.B.length:Int) by omega),bifT,J9 hr,sbind,w1 (by omega)]
   exact⟨λh=>by rw[decide_eq_true (show(r.length:Int)=(i:Int) by have:=h r hr;omega)];rfl,λh=>by rw[decide_eq_false (λg=>h λy hy=>by rw[hr] at hy;cases hy;omega)];rfl⟩
 . rw[decide_eq_false (by omega)];rfl
 have hShape:shapeR (tS s):=Qns.2 ⟨⟨⟨b1,b2⟩,b3,b4,b5⟩,hlen⟩
 refine Qta (λi=>∀ r,s.A[i]?=some r->∀ f∈r,numR (tF f)) 3 s.B.length (λi hi=>?_) ?_ hbn (λhnum=>?_) (λhnum=>⟨λh=>by omega,λh=>absurd (λi hi r hr=>Qds.1 (h.2.2.1.1 (r.map tF) (by rw[eA];exact List.mem_map_of_mem (Kt hr)))) hnum⟩)
 . obtain⟨r,hr,hm⟩:=hgA i hi
   rw[decide_eq_true (show(i:Int)<(s.B.length:Int) by omega),bifT,J9 hr,sbind,Qhn hn (by omega) h1 (hs.a r hm) (hs.al r hm),sbind,w1 (by omega)]
   exact⟨λh=>by rw[dP_t (h r hr)];rfl,λh=>by rw[dP_f (λg=>h λy hy=>by rw[hr] at hy;cases hy;exact g)];rfl⟩
 . rw[decide_eq_false (by omega)];rfl
 refine Q1x (!dP ((∀ f∈s.B,numR (tF f))∧(∀ f∈s.C,numR (tF f))∧∀ f∈s.E,numR (tF f))) (λk'=>?_) ?_
 . rw[Qhn hn (by omega) h1 hs.b hs.bl,sbind]
   by_cases d1:∀ f∈s.B,numR (tF f)
   case neg=>rw[dP_f d1,dP_f (λh=>d1 h.1)];rfl
   rw[dP_t d1,Bool.not_true,bifF,Qhn hn (by omega) h1 hs.c hs.cl,sbind]
   by_cases d2:∀ f∈s.C,numR (tF f)
   case neg=>rw[dP_f d2,dP_f (λh=>d2 h.2.1)];rfl
   rw[dP_t d2,Bool.not_true,bifF,Qhn hn (by omega) h1 hs.e hs.el,sbind]
   by_cases d3:∀ f∈s.E,numR (tF f)
   . rw[dP_t d3,dP_t ⟨d1,d2,d3⟩]
   . rw[dP_f d3,dP_f (λh=>d3 h.2.2)]
 have hA:∀ r∈s.A,∀ f∈r,numR (tF f):=λr hr=>by
  obtain⟨i,hi⟩:=List.getElem?_of_mem hr
  exact hnum i (by have:=Ky hi;omega) r hi
 have hA':∀ r∈(tS s).A,∀ x∈r,numR x:=λr hr=>by
  rw[eA] at hr
  obtain⟨l,hl,rfl⟩:=List.mem_map.1 hr
  exact Qds.2 (hA l hl)
 refine bifExN (λhB=>⟨λh=>by omega,λh=>?_⟩) λhB=>?_
 . exfalso
   have h3:=h.2.2.1.2
   rw[eB,eC,eE] at h3
   rw[dP_t ⟨Qds.1 (h3 _ (by simp)),Qds.1 (h3 _ (by simp)),Qds.1 (h3 _ (by simp))⟩] at hB
   cases hB
 have hB:=Q5t.1 hB
 obtain⟨n1,n2,n3⟩:=hB
 have hB':∀ r∈[(tS s).B,(tS s).C,(tS s).E],∀ x∈r,numR x:=λr hr=>by
  rw[eB,eC,eE] at hr
  rcases List.mem_cons.1 hr with rfl | hr
  . exact Qds.2 n1
  rcases List.mem_cons.1 hr with rfl | hr
  . exact Qds.2 n2
  rcases List.mem_cons.1 hr with rfl | hr
  . exact Qds.2 n3
  cases hr
 have eRows:rowsR (tS s)↔∀ i,i<s.B.length->∀ r c,s.A[i]?=some r->s.C[i]?=some c->sumQ (rvr r)=fr c:=by
  unfold rowsR
  rw[eA,eC]
  constructor
  . intro h i _ r c hr hc
    have:=h i (r.map tF) (Qhm _ hr)
    rw[Qic,List.getD_eq_getElem?_getD,Qhm _ hc] at this
    exact this
  . intro h i r hr
    rw[List.getElem?_map] at hr
    cases hc:s.A[i]? with
    | none=>rw[hc] at hr;cases hr
    | some y=>
      rw[hc] at hr;cases hr
      obtain⟨c,hc2,_⟩:=hgC i (by have:=Ky hc;omega)
      rw[Qic,List.getD_eq_getElem?_getD,Qhm _ hc2]
      exact h i (by have:=Ky hc;omega) y c hc hc2
 refine Qta (λi=>∀ r c,s.A[i]?=some r->s.C[i]?=some c->sumQ (rvr r)=fr c) 4 s.B.length (λi hi=>?_) ?_ hbn (λhrow=>?_) (λhrow=>⟨λh=>by omega,λh=>absurd (eRows.1 h.2.2.2.1) hrow⟩)
 . obtain⟨r,hr,hm⟩:=hgA i hi
   obtain⟨c,hc,hcm⟩:=hgC i hi
   have hcr:=Qbi (n2 c hcm)
   have e:=λ(g:Bool->Option (Lp Int (Lp Unit Int)))=>Q1w (q:=fr c) g hn h1 hk (hs.a r hm) (by have:=hlen i hi r hr;omega) (hA r hm)
   rw[hcr] at e
   rw[decide_eq_true (show(i:Int)<(s.B.length:Int) by omega),bifT,J9 hr,sbind]
   simp only[J9 hc,sbind]
   rw[e,w1 (by omega)]
   exact⟨λh=>by rw[decide_eq_true (h r c hr hc)];rfl,λh=>by rw[decide_eq_false (λg=>h λy z hy hz=>by rw[hr] at hy;cases hy;rw[hc] at hz;cases hz;exact g)];rfl⟩
 . rw[decide_eq_false (by omega)];rfl
 have hRows:=eRows.2 hrow
 rw[Qj9 hn,sbind,Q1w _ hn h1 hk hs.b (by omega) n1]
 have rB:rv (tS s).B=rvr s.B:=by rw[eB,Qic]
 have rE:rv (tS s).E=rvr s.E:=by rw[eE,Qic]
 have eE0:(tS s).E≠[]↔s.E≠[]:=by rw[eE];simp
 rw[rB,rE,eE0]
 refine bifExN (λhS=>⟨λh=>by omega,λh=>absurd h.2.2.2.2.1 (of_decide_eq_false hS)⟩) λhS=>?_
 have hS:=of_decide_eq_true hS
 refine Q1x (!dP (s.E≠[]->sumQ (rvr s.E)=1)) (λk'=>?_) ?_
 . by_cases hE:s.E=[]
   . rw[hE]
     rw[dP_t (λh=>absurd rfl h)];rfl
   . have:s.E.length≠0:=λh=>hE (List.eq_nil_of_length_eq_zero h)
     rw[decide_eq_true (show(0:Int)<(s.E.length:Int) by omega),bifT,Q1w _ hn h1 hk hs.e (by omega) n3]
     by_cases g:sumQ (rvr s.E)=1
     . rw[decide_eq_true g,dP_t (λ_=>g)]
     . rw[decide_eq_false g,dP_f (λh=>g (h hE))]
 cases hE:dP (s.E≠[]->sumQ (rvr s.E)=1)
 . rw[Bool.not_false,bifT]
   exact⟨6,rfl,λh=>by omega,λh=>by rw[dP_t h.2.2.2.2.2] at hE;cases hE⟩
 . rw[Bool.not_true,bifF]
   exact⟨0,rfl,λ_=>⟨hw,hShape,⟨hA',hB'⟩,hRows,hS,Q5t.1 hE⟩,λ_=>rfl⟩
structure PrbWr(k:Nat)(p:Qv):Prop where
 t:∀ x∈p.Tape.Code,Fk k (tF x.N)
 o:p.Tape.Outs.length≤1000000
 s:SchWr k p.Scheme
 pk:FKs k p.P
 pl:p.P.length≤1000000
theorem Qu5{n k:Nat}{p:Qv}(hn:big≤n)(h1:1≤k)(hk:k<1048576)(hp:PrbWr k p):Zq n p=some (dP (prbR (tP p))):=by
 unfold Zq prbR
 simp only[jn_eq]
 obtain⟨v,e1,e2⟩:=Qu3 hn (show k<274877906944 by omega) h1 hp.t hp.o
 obtain⟨u,e3,e4⟩:=Qu4 hn h1 hk hp.s
 have eT:(tP p).Tape=tT p.Tape:=rfl
 have eS:(tP p).Scheme=tS p.Scheme:=rfl
 have eP:((tP p).P.length:Int)=(p.P.length:Int):=by unfold tP;simp
 have eR:(tT p.Tape).Par=p.Tape.Par:=rfl
 rw[e1,sbind,eT,eS,eP,eR,bifd]
 by_cases c1:v=-1
 . rw[if_pos c1,e3,sbind,bifd]
   by_cases c2:u=0
   . rw[if_pos c2];exact Qde ⟨λh=>⟨e2.1 c1,e4.1 c2,h⟩,λh=>h.2.2⟩
   . rw[if_neg c2,dP_f λh=>c2 (e4.2 h.2.1)]
 . rw[if_neg c1,dP_f λh=>c1 (e2.2 h.1)]
theorem Qmv{l:List Rat}{r:Int}(h1:0≤r)(h2:r<(l.length:Int)):getI (rR l) r=some (rF (l.getD r.toNat 0)):=by
 obtain⟨k,rfl⟩:∃ k:Nat,r=(k:Int):=⟨r.toNat,by omega⟩
 have hk:k<l.length:=by omega
 rw[Qd6,Int.toNat_natCast,Qka (List.getElem?_eq_getElem hk),List.getD_eq_getElem?_getD,List.getElem?_eq_getElem hk];rfl
theorem Q8p{t:Q1}{i:Nat}{x:Q5}(h:mayR t i x):x.Op=1∨x.Op=2∨x.Op=3∨x.Op=4∨x.Op=6∨x.Op=11∨x.Op=7∨x.Op=8∨x.Op=9∨x.Op=10:=by
 unfold mayR at h
 by_cases c1:x.Op=1
 . exact .inl c1
 rw[if_neg c1] at h
 by_cases c2:x.Op=2
 . omega
 rw[if_neg c2] at h
 by_cases c3:x.Op=3
 . omega
 rw[if_neg c3] at h
 by_cases c4:x.Op=4
 . omega
 rw[if_neg c4] at h
 by_cases c6:x.Op=6
 . omega
 rw[if_neg c6] at h
 by_cases c11:x.Op=11
 . omega
 rw[if_neg c11] at h
 have:=h.2.2
 unfold rdT at this
 rw[if_neg (by omega)] at this
 by_cases c7:x.Op=7∨x.Op=8∨x.Op=9∨x.Op=10
 . omega
 . rw[if_neg c7] at this;simp at this
theorem Jac{t:Q1}{i:Nat}{x:Q5}(h:mayR t i x)(h1:x.Op=1):x.N=toF (fv x.N):=by
 unfold mayR at h;rw[if_pos h1] at h;exact h.2.2
theorem Qwl{n k:Nat}{t:Q6}{x:Js}{T:Rat}{Y P done:List Rat}(hn:big≤n)(h1:1≤k)(hk:k<1048576)(hx:mayR (tT t) done.length (tI x))(hN:Fk k (tF x.N))
 (hT:qw T≤k) (hY:QR k Y) (hP:QR k P) (hD:QR k done) (hy:(Y.length:Int)=t.Dim) (hp:(P.length:Int)=t.Par) :
 ∃ v,Yj n x ⟨rF T,rR Y,rR P⟩ (rR done)=some (match opQ (tI x) T Y P done with | none=>(v,false) | some q=>(rF q,true))∧∀ q,opQ (tI x) T Y P done=some q->qw q≤8*k+1:=by
 unfold Yj opQ Qba
 have eN:(tI x).N=tF x.N:=rfl
 have eO:(tI x).Op=x.Op:=rfl
 have eA:(tI x).A=x.A:=rfl
 have eB:(tI x).B=x.B:=rfl
 have rd:=Q27 hx
 have dA:x.Op=6∨x.Op=11∨x.Op=7∨x.Op=8∨x.Op=9∨x.Op=10->getI (rR done) x.A=some (rF (done.getD x.A.toNat 0)):=λh=>Qmv (rd _ (rdT_A (x:=tI x) h)).1 (rd _ (rdT_A (x:=tI x) h)).2
 have dB:x.Op=7∨x.Op=8∨x.Op=9∨x.Op=10->getI (rR done) x.B=some (rF (done.getD x.B.toNat 0)):=λh=>Qmv (rd _ (rdT_B (x:=tI x) h)).1 (rd _ (rdT_B (x:=tI x) h)).2
 have qA:qw (done.getD x.A.toNat 0)≤k:=Qc3 hD h1
 have qB:qw (done.getD x.B.toNat 0)≤k:=Qc3 hD h1
 have hop:=Q8p hx
 rw[eO] at hop
 simp only[eN,eO,eA,eB,jn_eq]
 generalize done.getD x.A.toNat 0=a at dA qA ⊢
 generalize done.getD x.B.toNat 0=b at dB qB ⊢
 rcases hop with h | h | h | h | h | h | h | h | h | h
 . simp only[h,Int.reduceEq,decide_true,decide_false,bifT,bifF,if_true,if_false]
   have hr:rF (fr x.N)=x.N:=Qlq.2 (Jac hx h)
   have hq:=qw_fr (Fk_wd hN) h1
   refine⟨rF 0,by rw[fr_tF,hr],λq hq'=>?_⟩
   have:q=fv (tF x.N):=(Option.some.inj hq').symm
   rw[this,fr_tF];omega
 . simp only[h,Int.reduceEq,decide_true,decide_false,bifT,bifF,if_true,if_false]
   exact⟨rF 0,(by first | rfl | trivial),λq hq=>by have:q=T:=(Option.some.inj hq).symm;rw[this];omega⟩
 . obtain⟨a1,a2⟩:=Q5u hx h
   have a1':0≤x.A:=a1
   have a2':x.A<t.Dim:=a2
   have hg:getI (rR Y) x.A=some (rF (Y.getD x.A.toNat 0)):=Qmv a1' (by omega)
   simp only[h,Int.reduceEq,decide_true,decide_false,bifT,bifF,if_true,if_false,hg,sbind]
   exact⟨rF 0,(by first | rfl | trivial),λq hq=>by have:q=Y.getD x.A.toNat 0:=(Option.some.inj hq).symm;rw[this];have:=Qc3 (i:=x.A.toNat) hY h1;omega⟩
 . obtain⟨a1,a2⟩:=Q5v hx h
   have a1':0≤x.A:=a1
   have a2':x.A<t.Par:=a2
   have hg:getI (rR P) x.A=some (rF (P.getD x.A.toNat 0)):=Qmv a1' (by omega)
   simp only[h,Int.reduceEq,decide_true,decide_false,bifT,bifF,if_true,if_false,hg,sbind]
   exact⟨rF 0,(by first | rfl | trivial),λq hq=>by have:q=P.getD x.A.toNat 0:=(Option.some.inj hq).symm;rw[this];have:=Qc3 (i:=x.A.toNat) hP h1;omega⟩
 . have hg:=dA (by omega)
   simp only[h,Int.reduceEq,decide_true,decide_false,bifT,bifF,if_true,if_false,hg,sbind,Qqr hn (show k<274877906944 by omega) qA]
   exact⟨rF 0,(by first | rfl | trivial),λq hq=>by have:q=-a:=(Option.some.inj hq).symm;rw[this,Qs2];omega⟩
 . have hg:=dA (by omega)
   simp only[h,Int.reduceEq,decide_true,decide_false,bifT,bifF,if_true,if_false,hg,sbind,Qx0 hn (show k<1073741824 by omega) qA]
   refine⟨rF 0,?_,λq hq=>?_⟩
   . split<;>rfl
   . split at hq
     . cases hq
     . rename_i hc
       cases hq
       exact Q25 qA (by omega)
 . have hg:=dA (by omega)
   have hg2:=dB (by omega)
   simp only[h,Int.reduceEq,decide_true,decide_false,bifT,bifF,if_true,if_false,hg,hg2,sbind,Qau hn (show k<274877906944 by omega) qA qB]
   exact⟨rF 0,(by first | rfl | trivial),λq hq=>by have:q=a+b:=(Option.some.inj hq).symm;rw[this];have:=Qg6 qA qB;omega⟩
 . have hg:=dA (by omega)
   have hg2:=dB (by omega)
   simp only[h,Int.reduceEq,decide_true,decide_false,bifT,bifF,if_true,if_false,hg,hg2,sbind,Qhj hn (show k<274877906944 by omega) qA qB]
   exact⟨rF 0,(by first | rfl | trivial),λq hq=>by have:q=a - b:=(Option.some.inj hq).symm;rw[this];have:=Qv4 qA qB;omega⟩
 . have hg:=dA (by omega)
   have hg2:=dB (by omega)
   simp only[h,Int.reduceEq,decide_true,decide_false,bifT,bifF,if_true,if_false,hg,hg2,sbind,Zk hn (show k<274877906944 by omega) qA qB]
   exact⟨rF 0,(by first | rfl | trivial),λq hq=>by have:q=a*b:=(Option.some.inj hq).symm;rw[this];have:=Qab qA qB;omega⟩
 . have hg:=dA (by omega)
   have hg2:=dB (by omega)
   simp only[h,Int.reduceEq,decide_true,decide_false,bifT,bifF,if_true,if_false,hg,hg2,sbind,Qge,Qhl hn (show k<274877906944 by omega) qA qB]
   by_cases h0:b=0
   . rw[decide_eq_true h0,bifT,if_pos h0]
     exact⟨rF b,(by first | rfl | trivial),λq hq=>by cases hq⟩
   . rw[decide_eq_false h0,bifF,if_neg h0]
     exact⟨rF b,(by first | rfl | trivial),λq hq=>by have:q=a / b:=(Option.some.inj hq).symm;rw[this];have:=Qs3 qA qB;omega⟩
theorem Qtb{α:Type}{l:List α}{i:Nat}{x:α}(h:l[i]?=some x):l.drop i=x::l.drop (i+1):=by
 have hi:=Ky h
 rw[List.drop_eq_getElem_cons hi]
 congr 1
 rw[List.getElem?_eq_getElem hi] at h;exact Option.some.inj h
theorem Qwm{n k:Nat}{t:Q6}{T:Rat}{Y P:List Rat}{lim:Int}(hn:big≤n)(h1:129≤k)(hk:k<1048576)(ht:tapeR (tT t))(hN:∀ c∈t.Code,Fk k (tF c.N))
 (hT:qw T≤k) (hY:QR k Y) (hP:QR k P) (hy:(Y.length:Int)=t.Dim) (hp:(P.length:Int)=t.Par) (hg:lim≤4096) :
 Yk n t ⟨rF T,rR Y,rR P⟩ lim=some (match runQ lim T Y P (tT t).Code 0 [] with | .inl e=>([],e.1,(e.2:Int)) | .inr l=>(rR l,0,0)):=by
 obtain⟨⟨c1,c2,c3,c4⟩,m1,m2⟩:=ht
 have hlen:t.Code.length≤300:=by unfold tT at c4;simpa using c4
 have eC:(tT t).Code=t.Code.map tI:=rfl
 unfold Yk
 have key:∀(m i n':Nat) (done:List Rat),i+m=t.Code.length->m<n'->done.length=i->QR k done →
  (loopM (λ(s21:(List Qa)×Int)=>
  bif decide (s21.2<(t.Code.length:Int)) then (
   (getI t.Code s21.2).bind λy22=>
   (Yj n y22 ⟨rF T,rR Y,rR P⟩ s21.1).bind λr24=>
   bif !r24.2 then (
    some (Lp.out (Lp.out ((([]:List Qa),(3:Int),s21.2)))))
   else (
    (Vf n r24.1 lim).bind λr26=>
    bif !r26 then (
     some (Lp.out (Lp.out ((([]:List Qa),(6:Int),s21.2)))))
    else (
     (appM 56 s21.1 ([r24.1]:List Qa)).bind λy28=>
     some (Lp.go (y28,wrap64 (s21.2+(1:Int)))))))
  else (
   some (Lp.out (Lp.go s21.1)))) n' (rR done,(i:Int))).bind (lpK λ(t19:(List Qa))=>some (t19,(0:Int),(0:Int)))=some (match runQ lim T Y P ((tT t).Code.drop i) i done with | .inl e=>([],e.1,(e.2:Int)) | .inr l=>(rR l,0,0)):=by
  intro m
  induction m with
  | zero=>
    intro i n' done hi hn' hd hq
    rw[Wb (t:=Lp.go (rR done)) (by simp only[];rw[decide_eq_false (by omega)];rfl) (by omega),Option.bind_some,Xi,eC,List.drop_of_length_le (by simp;omega)]
    rfl
  | succ m ih=>
    intro i n' done hi hn' hd hq
    obtain⟨n'',rfl⟩:∃ n'',n'=n''+1:=⟨n' - 1,by omega⟩
    have hx:t.Code[i]?=some (t.Code[i]'(by omega)):=List.getElem?_eq_getElem (by omega)
    have hNx:=hN (t.Code[i]'(by omega)) (List.getElem_mem (by omega))
    generalize t.Code[i]'(by omega)=x at hx hNx
    have hxm:(tT t).Code[i]?=some (tI x):=by rw[eC];exact Qhm tI hx
    have hmay:=m1 i (tI x) hxm
    obtain⟨v,e1,e2⟩:=Qwl (T:=T) (Y:=Y) (P:=P) (done:=done) hn (by omega) hk (by rw[hd];exact hmay) hNx hT hY hP hq hy hp
    rw[Qtb hxm]
    simp only[runQ]
    cases ho:opQ (tI x) T Y P done with
    | none=>
      rw[ho] at e1
      rw[Wb (t:=Lp.out ([],3,(i:Int))) (by
       simp only[]
       rw[decide_eq_true (show(i:Int)<(t.Code.length:Int) by omega),bifT,J9 hx,sbind,e1,sbind];rfl) (by omega),Option.bind_some,Qc2]
    | some q=>
      rw[ho] at e1
      have hqk:=e2 q ho
      have hf:Vf n (rF q) lim=some (decide ((qz q:Int)≤lim)):=by
       unfold Vf
       rw[Qgg (k:=8*k+1) hn (by omega) hqk,sbind]
      by_cases hz:(qz q:Int)≤lim
      . have hq129:qw q≤129:=by have:=qw_qz (q:=q) (b:=4096) (by omega);omega
        rw[Qhf (s':=(rR (done++[q]),((i+1:Nat):Int))) (by
         simp only[]
         rw[decide_eq_true (show(i:Int)<(t.Code.length:Int) by omega),bifT,J9 hx,sbind,e1,sbind]
         simp only[]
         rw[Bool.not_true,bifF,hf,sbind,decide_eq_true hz,Bool.not_true,bifF,Wz (by simp[Vk];omega) (by simp[Vk];omega),sbind,w1 (by omega),Qms])]
        rw[ih (i+1) n'' (done++[q]) (by omega) (by omega) (by simp;omega) (λz hz'=>by
         rcases List.mem_append.1 hz' with h | h
         . exact hq z h
         . rw[List.mem_singleton.1 h];omega)]
        simp only[]
        rw[if_pos hz]
      . rw[Wb (t:=Lp.out ([],6,(i:Int))) (by
         simp only[]
         rw[decide_eq_true (show(i:Int)<(t.Code.length:Int) by omega),bifT,J9 hx,sbind,e1,sbind]
         simp only[]
         rw[Bool.not_true,bifF,hf,sbind,decide_eq_false hz,Bool.not_false,bifT]) (by omega),Option.bind_some,Qc2]
        simp only[]
        rw[if_neg hz]
 have:=key t.Code.length 0 n [] (by omega) (by unfold big at hn;omega) rfl (λ_ h=>by cases h)
 rw[List.drop_zero] at this
 exact this
theorem Qwn{n:Nat}{t:Q6}{l:List Rat}(hn:big≤n)(ht:t.Outs.length≤1000000)(ho:∀ o∈t.Outs,0≤o∧o<(l.length:Int)):Yl n t (rR l)=some (rR (t.Outs.map λo=>l.getD o.toNat 0)):=by
 unfold Yl
 rw[Xf (λi=>(rR ((t.Outs.take i).map λo=>l.getD o.toNat 0),(i:Int))) t.Outs.length (rR (t.Outs.map λo=>l.getD o.toNat 0))]
 . intro i hi
   have hp:t.Outs[i]?=some t.Outs[i]:=List.getElem?_eq_getElem hi
   have hb:=ho t.Outs[i] (List.getElem_mem hi)
   generalize t.Outs[i]=o at hp hb
   rw[decide_eq_true (show(i:Int)<(t.Outs.length:Int) by omega),bifT,J9 hp,sbind,Qmv hb.1 hb.2,sbind,Wz (by simp[Vk];omega) (by simp[Vk];omega),sbind,w1 (by omega),Qcx hp,List.map_append,List.map_singleton,Qms]
 . rw[decide_eq_false (by omega),bifF,List.take_length]
 . unfold big at hn;omega
 . rfl
theorem Qho{n k:Nat}{l:List Rat}{lim:Int}(hn:big≤n)(hk:k<274877906944)(hl:QR k l)(hll:l.length≤1000000):
 Va n (rR l) lim=some (match fitQ lim l 0 with | none=>(l.length:Int) | some j=>(j:Int)):=by
 unfold Va
 have key:∀(m i n':Nat),i+m=l.length->m<n'->(loopM (λ(s13:Int)=>
  bif decide (s13<((rR l).length:Int)) then (
   (getI (rR l) s13).bind λy14=>
   (Vf n y14 lim).bind λr16=>
   bif !r16 then (
    some (Lp.out (Lp.out (s13))))
   else (
    some (Lp.go (wrap64 (s13+(1:Int))))))
  else (
   some (Lp.out (Lp.go ())))) n' (i:Int)).bind (lpK λ(_:Unit)=>some ((rR l).length:Int))=some (match fitQ lim (l.drop i) i with | none=>(l.length:Int) | some j=>(j:Int)):=by
  intro m
  induction m with
  | zero=>
    intro i n' hi hn'
    rw[Wb (t:=Lp.go ()) (by simp only[Vk];rw[decide_eq_false (by omega)];rfl) (by omega),Option.bind_some,Xi,List.drop_of_length_le (by omega),Vk]
    rfl
  | succ m ih=>
    intro i n' hi hn'
    obtain⟨n'',rfl⟩:∃ n'',n'=n''+1:=⟨n' - 1,by omega⟩
    have hx:l[i]?=some (l[i]'(by omega)):=List.getElem?_eq_getElem (by omega)
    have hq:=hl (l[i]'(by omega)) (List.getElem_mem (by omega))
    generalize l[i]'(by omega)=q at hx hq
    have hf:Vf n (rF q) lim=some (decide ((qz q:Int)≤lim)):=by
     unfold Vf
     rw[Qgg (k:=k) hn (by omega) hq,sbind]
    rw[Qtb hx]
    simp only[fitQ]
    by_cases hz:(qz q:Int)≤lim
    . rw[Qhf (s':=((i+1:Nat):Int)) (by
       simp only[Vk]
       rw[decide_eq_true (show(i:Int)<(l.length:Int) by omega),bifT,J9 (Qka hx),sbind,hf,sbind,decide_eq_true hz,Bool.not_true,bifF,w1 (by omega)]),ih (i+1) n'' (by omega) (by omega),if_pos hz]
    . rw[Wb (t:=Lp.out (i:Int)) (by
       simp only[Vk]
       rw[decide_eq_true (show(i:Int)<(l.length:Int) by omega),bifT,J9 (Qka hx),sbind,hf,sbind,decide_eq_false hz,Bool.not_false,bifT]) (by omega),Option.bind_some,Qc2,if_neg hz]
 have:=key l.length 0 n (by omega) (by unfold big at hn;omega)
 rw[List.drop_zero] at this
 exact this
def mixI:List Rat->List (List Rat)->Nat->Rat->Rat
 | c::cs,a::l,i,z=>mixI cs l i (z+c*a.getD i 0)
 | _,_,_,z=>z
theorem Qy8:∀ {cs:List Rat}{l:List (List Rat)}{i:Nat}{z:Rat}{c a},cs.length=l.length->mixI (cs++[c]) (l++[a]) i z=mixI cs l i z+c*a.getD i 0
 | [],[],i,z,c,a,_=>rfl
 | [],_::_,_,_,_,_,h=>by simp at h
 | _::_,[],_,_,_,_,h=>by simp at h
 | x::cs,y::l,i,z,c,a,h=>by
   simp only[List.cons_append,mixI]
   exact Qy8 (by simpa using h)
theorem Qx8{l:List Rat}{i:Nat}{x:Rat}(h:l[i]?=some x):l.getD i 0=x:=by rw[List.getD_eq_getElem?_getD,h];rfl
theorem Q66{g:Rat->Rat->Rat}{a z:List Rat}{i m:Nat}(ha:a.length=m)(hz:z.length=m)(hi:i<m):(List.zipWith g a z).getD i 0=g (a.getD i 0) (z.getD i 0):=by
 have h1:a[i]?=some a[i]:=List.getElem?_eq_getElem (by omega)
 have h2:z[i]?=some z[i]:=List.getElem?_eq_getElem (by omega)
 rw[Qx8 h1,Qx8 h2,List.getD_eq_getElem?_getD,List.getElem?_zipWith,h1,h2];rfl
theorem Q1y{m i:Nat}(hi:i<m):∀ {cs:List Rat}{l:List (List Rat)}{z:List Rat},(∀ a∈l,a.length=m)->z.length=m->(mixQ cs l z).getD i 0=mixI cs l i (z.getD i 0)
 | [],_,z,_,_=>by simp only[mixQ,mixI]
 | _::_,[],z,_,_=>by simp only[mixQ,mixI]
 | c::cs,a::l,z,hl,hz=>by
   simp only[mixQ,mixI]
   have ha:=hl a (.head _)
   rw[Q1y hi (λb hb=>hl b (.tail _ hb)) (by simp;omega),Q66 ha hz hi]
theorem Qtr{j k:Nat}:∀ {cs:List Rat}{l:List (List Rat)}{i:Nat}{z:Rat}{b:Nat},1≤k->QR j cs->(∀ a∈l,QR k a)->qw z≤b->qw (mixI cs l i z)≤b+l.length*(j+k+1)
 | [],_,i,z,b,_,_,_,h=>by simp only[mixI];omega
 | _::_,[],i,z,b,_,_,_,h=>by simp only[mixI];omega
 | x::cs,y::l,i,z,b,h1,hc,hl,h=>by
   simp only[mixI]
   have h2:=Qg6 h (Qab (hc x (.head _)) (Qc3 (i:=i) (hl y (.head _)) h1))
   have:=Qtr (i:=i) h1 (λq hq=>hc q (.tail _ hq)) (λa ha=>hl a (.tail _ ha)) h2
   rw[List.length_cons,Nat.succ_mul];omega
theorem Q67{H:Rat}{Y c:List Rat}{kss:List (List Rat)}{i:Nat}{y:Rat}(hk:∀ a∈kss,a.length=Y.length)(hy:Y[i]?=some y):(fromQ H Y c kss)[i]?=some (y+H*mixI c kss i 0):=by
 have hi:=Ky hy
 have hml:(mixQ c kss (List.replicate Y.length 0)).length=Y.length:=Qnj hk (by simp)
 have hmg:(mixQ c kss (List.replicate Y.length 0))[i]?=some (mixI c kss i 0):=by
  have:=Q1y (cs:=c) hi hk (show(List.replicate Y.length (0:Rat)).length=Y.length by simp)
  rw[Qx8 (l:=List.replicate Y.length (0:Rat)) (x:=0) (by simp[hi])] at this
  rw[←this,List.getD_eq_getElem?_getD,List.getElem?_eq_getElem (by omega)];rfl
 unfold fromQ towQ addQ scaleQ
 rw[List.getElem?_zipWith,hy,List.getElem?_map,hmg];rfl
def rRR(l:List (List Rat)):List (List Qa):=l.map rR
theorem Qts(l:List (List Rat)):(rRR l).length=l.length:=by unfold rRR;simp
theorem Q1z(l:List (List Rat))(a:List Rat):rRR (l++[a])=rRR l++[rR a]:=by unfold rRR;simp
theorem Q8q{l:List (List Rat)}{i:Nat}{a:List Rat}(h:l[i]?=some a):(rRR l)[i]?=some (rR a):=by unfold rRR;exact Qhm rR h
theorem Qx9{n k i m:Nat}{H:Rat}{c:List Rat}{kss:List (List Rat)}(hn:big≤n)(h0:129≤k)(hk:k<16384)(hH:qw H≤k)(hc:QR k c)(hkq:∀ a∈kss,QR 129 a)(hl:kss.length≤8)(hcl:c.length=kss.length)(hkl:∀ a∈kss,a.length=m)(hi:i<m):
 Y8 n (rR c) (rRR kss) (i:Int) (rF H)=some (rF (H*mixI c kss i 0)):=by
 unfold Y8
 rw[Qdd hn,sbind]
 rw[Xf (λj=>(rF (mixI (c.take j) (kss.take j) i 0),(j:Int))) c.length (rF (mixI c kss i 0))]
 . have hq:=Qtr (i:=i) (z:=0) (b:=1) (by omega) hc hkq (by rw[Qbx];exact Nat.le_refl _)
   have h3:kss.length*(k+129+1)≤8*(k+129+1):=Nat.mul_le_mul_right _ hl
   rw[Zk (k:=20*k) hn (by omega) (by omega) (by omega),sbind]
 . intro j hj
   have hcj:c[j]?=some c[j]:=List.getElem?_eq_getElem hj
   have hkj:kss[j]?=some (kss[j]'(by omega)):=List.getElem?_eq_getElem (by omega)
   have q1:=hc c[j] (List.getElem_mem hj)
   have q2:=hkq (kss[j]'(by omega)) (List.getElem_mem (by omega))
   have q3:=hkl (kss[j]'(by omega)) (List.getElem_mem (by omega))
   generalize c[j]=x at hcj q1
   generalize kss[j]'(by omega)=a at hkj q2 q3
   have haq:=Qc3 (i:=i) q2 (by omega)
   have hx:=Qab q1 haq
   have hq:=Qtr (i:=i) (z:=0) (b:=1) (cs:=c.take j) (l:=kss.take j) (j:=k) (k:=129) (by omega) (λq h=>hc q (List.mem_of_mem_take h)) (λa h=>hkq a (List.mem_of_mem_take h)) (by rw[Qbx];exact Nat.le_refl _)
   have h3:(kss.take j).length*(k+129+1)≤8*(k+129+1):=Nat.mul_le_mul_right _ (by simp;omega)
   rw[Qcx hcj,Qcx hkj,Qy8 (by simp;omega)]
   simp only[jn_eq]
   rw[Vk,decide_eq_true (show(j:Int)<(c.length:Int) by omega),bifT,J9 (Qka hcj),sbind,Qge,sbind]
   by_cases hz:x=0
   . rw[decide_eq_true hz,Bool.not_true,bifF,w1 (by omega),hz,Rat.zero_mul,Rat.add_zero]
   . rw[decide_eq_false hz,Bool.not_false,bifT,sbind,J9 (Q8q hkj),sbind,Qmv (by omega) (by omega),sbind,Int.toNat_natCast,Zk (k:=k) hn (by omega) q1 (by omega),sbind,Qau (k:=20*k) hn (by omega) (by omega) (by omega),sbind,w1 (by omega)]
 . rw[Vk,decide_eq_false (by omega),bifF,List.take_length,hcl,List.take_length]
 . unfold big at hn;omega
 . rfl
theorem Qkc{n k:Nat}{H:Rat}{Y c:List Rat}{kss:List (List Rat)}(hn:big≤n)(h0:129≤k)(hk:k<16384)(hH:qw H≤k)(hY:QR k Y)(hc:QR k c)(hkq:∀ a∈kss,QR 129 a)(hl:kss.length≤8)(hcl:c.length=kss.length)(hkl:∀ a∈kss,a.length=Y.length)(hy:Y.length≤1000):
 Ku n (rR Y) (rR c) (rRR kss) (rF H)=some (rR (fromQ H Y c kss)):=by
 unfold Ku
 have hfl:=Qir (H:=H) (Y:=Y) (c:=c) hkl
 have hmx:=λi=>Qtr (i:=i) (z:=0) (b:=1) (cs:=c) (l:=kss) (j:=k) (k:=129) (by omega) hc hkq (by rw[Qbx];exact Nat.le_refl _)
 have h3:kss.length*(k+129+1)≤8*(k+129+1):=Nat.mul_le_mul_right _ hl
 rw[Xf (λi=>(rR ((fromQ H Y c kss).take i),(i:Int))) Y.length (rR (fromQ H Y c kss))]
 . intro i hi
   have hyi:Y[i]?=some Y[i]:=List.getElem?_eq_getElem hi
   have q1:=hY Y[i] (List.getElem_mem hi)
   generalize Y[i]=y at hyi q1
   have hf:=Q67 (H:=H) (c:=c) hkl hyi
   have hm1:=hmx i
   have hm2:=Qab hH hm1
   rw[Vk,decide_eq_true (show(i:Int)<(Y.length:Int) by omega),bifT,J9 (Qka hyi),sbind,Qx9 hn h0 hk hH hc hkq hl hcl hkl hi,sbind,Qau (k:=22*k) hn (by omega) (by omega) (by omega),sbind,Wz (by simp[Vk];omega) (by simp[Vk];omega),sbind,w1 (by omega),Qcx hf,Qms]
 . rw[Vk,decide_eq_false (by omega),bifF,←hfl,List.take_length]
 . unfold big at hn;omega
 . rfl
theorem Qya{n k:Nat}{s:Q3}(hn:big≤n)(h1:1≤k)(hk:k<1048576)(hs:SchWr k s)(hB:∀ f∈s.B,numR (tF f))(hE:∀ f∈s.E,numR (tF f))(hl:s.E.length=s.B.length)(h8:s.B.length≤8)(hne:s.E≠[]):
 Y1 n s=some (rR (gapQ (tS s))):=by
 have eE0:(tS s).E≠[]:=by show s.E.map tF≠[];simpa using hne
 have eB:rv (tS s).B=rvr s.B:=Qic s.B
 have eE:rv (tS s).E=rvr s.E:=Qic s.E
 have eg:gapQ (tS s)=List.zipWith (λb e=>b - e) (rvr s.B) (rvr s.E):=by
  unfold gapQ addQ scaleQ
  rw[if_neg eE0,eB,eE,List.zipWith_map_right]
  congr 1
  funext b e
  grind
 have qB:QR k (rvr s.B):=Qnl (λf hf=>Fk_wd (hs.b f hf)) h1
 have qE:QR k (rvr s.E):=Qnl (λf hf=>Fk_wd (hs.e f hf)) h1
 have rB:=Qlr hB
 have rE:=Qlr hE
 have lB:=Qdr s.B
 have lE:=Qdr s.E
 unfold Y1
 rw[eg]
 generalize rvr s.B=b at *
 generalize rvr s.E=e at *
 rw[←rB,←rE]
 rw[←rB] at lB h8 hl
 rw[←rE] at lE hl
 rw[Vk] at h8 hl
 rw[Vk] at hl
 rw[Xf (λi=>(rR ((List.zipWith (λb e=>b - e) b e).take i),(i:Int))) b.length (rR (List.zipWith (λb e=>b - e) b e))]
 . intro i hi
   have h1':b[i]?=some b[i]:=List.getElem?_eq_getElem hi
   have h2':e[i]?=some (e[i]'(by omega)):=List.getElem?_eq_getElem (by omega)
   have q1:=qB b[i] (List.getElem_mem hi)
   have q2:=qE (e[i]'(by omega)) (List.getElem_mem (by omega))
   generalize b[i]=x at h1' q1
   generalize e[i]'(by omega)=y at h2' q2
   have hz:(List.zipWith (λb e=>b - e) b e)[i]?=some (x - y):=by rw[List.getElem?_zipWith,h1',h2']
   simp only[jn_eq,Vk]
   rw[decide_eq_true (show(i:Int)<(e.length:Int) by omega),bifT,decide_eq_true (show(i:Int)<(b.length:Int) by omega),bifT,J9 (Qka h1'),sbind,J9 (Qka h2'),sbind,Qhj (k:=k) hn (by omega) q1 q2,sbind,Wz (by simp[Vk];omega) (by simp[Vk];omega),sbind,w1 (by omega),Qcx hz,Qms]
 . simp only[jn_eq,Vk]
   rw[decide_eq_false (show ¬(b.length:Int)<(e.length:Int) by omega),bifF,bifF]
   have:(List.zipWith (λb e=>b - e) b e).length=b.length:=by simp;omega
   rw[←this,List.take_length]
 . unfold big at hn;omega
 . rfl
theorem Qwo{n m:Nat}(hn:big≤n)(hm:m≤300):Ym n (m:Int)=some (rR (List.replicate m 0)):=by
 unfold Ym
 rw[Xf (λi=>(rR (List.replicate i 0),(i:Int))) m (rR (List.replicate m 0))]
 . intro i hi
   simp only[jn_eq]
   rw[decide_eq_true (show(i:Int)<(m:Int) by omega),bifT,decide_eq_true (show(i:Int)<300 by omega),bifT,Qdd hn,sbind,Wz (by simp[Vk];omega) (by simp[Vk];omega),sbind,w1 (by omega),List.replicate_succ',Qms]
 . simp only[jn_eq]
   rw[decide_eq_false (by omega),bifF,bifF]
 . unfold big at hn;omega
 . rfl
theorem Qy9:∀ {Y:List Rat}{m:Nat},Y.length=m->addQ (List.replicate m 0) Y=Y
 | [],m,h=>by unfold addQ;simp
 | x::Y,m,h=>by
   obtain⟨j,rfl⟩:∃ j,m=j+1:=⟨m - 1,by simp at h;omega⟩
   have:=Qy9 (Y:=Y) (m:=j) (by simpa using h)
   unfold addQ at this ⊢
   rw[List.replicate_succ,List.zipWith_cons_cons,this]
   congr 1;grind
theorem Qwp{t:Q1}{lim:Int}{T H:Rat}{Y P:List Rat}(hlim:lim≤4096):∀ {r:List (List Rat×Rat)}{i:Nat}{yss kss:List (List Rat)}{z}{j:Nat},(∀ a∈kss,QR 129 a)->kss.length=j->yss.length=j->stagesQ t lim T H Y P r i yss kss=.inr z →
 (∀ a∈z.2,QR 129 a)∧z.2.length=j+r.length∧z.1.length=j+r.length
 | [],i,yss,kss,z,j,h1,h2,h3,h=>by
   simp only[stagesQ] at h
   cases h
   exact⟨h1,h2,h3⟩
 | x::r,i,yss,kss,z,j,h1,h2,h3,h=>by
   simp only[stagesQ] at h
   cases hs:stageQ t lim T H Y P x.1 x.2 i kss with
   | inl f=>rw[hs] at h;cases h
   | inr w=>
     rw[hs] at h
     have hw:QR 129 w.2:=by
      unfold stageQ at hs
      split at hs
      . cases hs
      . cases hf:fieldQ t lim (T+H*x.2) (fromQ H Y x.1 kss) P with
        | inl e=>rw[hf] at hs;cases hs
        | inr k=>rw[hf] at hs;cases hs;exact(Qs8 hlim hf).2
     obtain⟨g1,g2,g3⟩:=Qwp hlim (j:=j+1) (λa ha=>by
      rcases List.mem_append.1 ha with ha | ha
      . exact h1 a ha
      . rw[List.mem_singleton.1 ha];exact hw) (by simp;omega) (by simp;omega) h
     exact⟨g1,by rw[g2,List.length_cons];omega,by rw[g3,List.length_cons];omega⟩
def noMr:Q9:=⟨[],[],[],[]⟩
def toMr(z:MadeQ):Q9:=⟨rRR z.ys,rRR z.ks,rR z.next,rR z.err⟩
theorem Q8r{s:Q3}(h:schR (tS s)):(∀ r∈s.A,∀ f∈r,numR (tF f))∧(∀ f∈s.B,numR (tF f))∧(∀ f∈s.C,numR (tF f))∧∀ f∈s.E,numR (tF f):=by
 obtain⟨hA,hB⟩:=h.2.2.1
 have eB:(tS s).B=s.B.map tF:=rfl
 have eC:(tS s).C=s.C.map tF:=rfl
 have eE:(tS s).E=s.E.map tF:=rfl
 have eA:(tS s).A=s.A.map (·.map tF):=rfl
 rw[eA] at hA
 rw[eB,eC,eE] at hB
 exact⟨λr hr=>Qds.1 (hA (r.map tF) (List.mem_map_of_mem hr)),Qds.1 (hB _ (by simp)),Qds.1 (hB _ (by simp)),Qds.1 (hB _ (by simp))⟩
theorem Q29{s:Q3}(h:schR (tS s)):gapQ (tS s)=[]↔s.E=[]:=by
 obtain⟨⟨⟨g1,g2⟩,g3,g4,g5⟩,g6⟩:=Qns.1 h.2.1
 have eE:(tS s).E=s.E.map tF:=rfl
 have eB:(tS s).B=s.B.map tF:=rfl
 constructor
 . intro hg
   unfold gapQ at hg
   split at hg
   . rename_i hE;rw[eE] at hE;simpa using hE
   . have:=congrArg List.length hg
     rw[Qrr,Qj7,W9,W9,eE,eB] at this
     simp only[List.length_map,List.length_nil] at this
     exact List.eq_nil_of_length_eq_zero (by omega)
 . intro hE;unfold gapQ;rw[if_pos (by rw[eE,hE];rfl)]
theorem Qz1{n k:Nat}{p:Qv}{T H:Rat}{Y:List Rat}(hn:big≤n)(h0:129≤k)(hk:k<8000)(hp:PrbWr k p)(hr:prbR (tP p))(hT:qw T≤k)(hH:qw H≤k)(hY:QR k Y)(hl:(Y.length:Int)=p.Tape.Dim):
 Zf n p (rF T) (rF H) (rR Y)=some (match doQ (tT p.Tape) (tS p.Scheme) (limQ p.Bits) T H Y (rvr p.P) with | .inl f=>(noMr,⟨f.Kind,f.Stage,f.At⟩) | .inr z=>(toMr z,⟨0,0,0⟩)):=by
 obtain⟨hta,hsc,hpl⟩:=hr
 have hta':tapeR (tT p.Tape):=hta
 have hsc':schR (tS p.Scheme):=hsc
 have hpl':(p.P.length:Int)=p.Tape.Par:=by
  have e:((tP p).P.length:Int)=(p.P.length:Int):=by unfold tP;simp
  rw[←e];exact hpl
 obtain⟨nA,nB,nC,nE⟩:=Q8r hsc'
 obtain⟨⟨⟨g1,g2⟩,g3,g4,g5⟩,g6⟩:=Qns.1 hsc'.2.1
 obtain⟨⟨d1,d2⟩,⟨d3,d4⟩,d5,d6⟩:=hta'.1
 have d1':1≤p.Tape.Dim:=d1
 have d2':p.Tape.Dim≤6:=d2
 have hoc:∀ o∈p.Tape.Outs,0≤o∧o<(p.Tape.Code.length:Int):=λo ho=>by
  have:=hta'.2.2 o ho
  have e:(tT p.Tape).Code.length=p.Tape.Code.length:=by unfold tT;simp
  rw[e] at this;exact this
 have hol:(p.Tape.Outs.length:Int)=p.Tape.Dim:=d5
 have hPq:QR k (rvr p.P):=Qnl (λf hf=>Fk_wd (hp.pk f hf)) (by omega)
 have hPl:((rvr p.P).length:Int)=p.Tape.Par:=by rw[Qdr];exact hpl'
 have hNorm:W4 n p.P=some (rR (rvr p.P)):=Qnm hn (by omega) (λf hf=>Fk_wd (hp.pk f hf)) hp.pl
 obtain⟨lim,hlim⟩:∃ lim,lim=limQ p.Bits:=⟨_,rfl⟩
 have hlim4:lim≤4096:=by rw[hlim];unfold limQ;omega
 have eL:Qbl p.Bits=some lim:=by rw[hlim];rfl
 unfold Zf
 rw[eL,sbind,←hlim]
 clear eL hlim
 have key:∀(m i n':Nat) (yss kss:List (List Rat)) (K:(List (List Qa))×(List (List Qa))->Option (Q9×Yr)),i+m=p.Scheme.B.length->m<n'->yss.length=i->kss.length=i->(∀ a∈kss,QR 129 a)->(∀ a∈kss,a.length=Y.length) →
  (loopM (λ(s43:(List (List Qa))×(List (List Qa))×Int)=>
  bif decide (s43.2.2<(p.Scheme.B.length:Int)) then (
   (getI p.Scheme.A s43.2.2).bind λy44=>
   (Ku n (rR Y) y44 s43.2.1 (rF H)).bind λr46=>
   (Va n r46 lim).bind λr48=>
   bif decide (r48<(r46.length:Int)) then (
    some (Lp.out (Lp.out (((⟨[],[],[],[]⟩:Q9),(⟨(6:Int),s43.2.2,wrap64 ((300:Int)+r48)⟩:Yr))))))
   else (
    (Xs n p (rF T) (rF H) s43.2.2).bind λr50=>
    (Xz n p r50 r46).bind λr52=>
    (Yk n p.Tape r52 lim).bind λr54=>
    bif !decide (r54.2.1=(0:Int)) then (
     some (Lp.out (Lp.out (((⟨[],[],[],[]⟩:Q9),(⟨r54.2.1,s43.2.2,r54.2.2⟩:Yr))))))
    else (
     (appM 24 s43.1 ([r46]:List (List Qa))).bind λy56=>
     (Yl n p.Tape r54.1).bind λr58=>
     (appM 24 s43.2.1 ([r58]:List (List Qa))).bind λy60=>
     some (Lp.go (y56,y60,wrap64 (s43.2.2+(1:Int)))))))
  else (
   some (Lp.out (Lp.go (s43.1,s43.2.1))))) n' (rRR yss,rRR kss,(i:Int))).bind (lpK K)=match stagesQ (tT p.Tape) lim T H Y (rvr p.P) ((pairQ (tS p.Scheme)).drop i) i yss kss with | .inl f=>some (noMr,⟨f.Kind,f.Stage,f.At⟩) | .inr z=>K (rRR z.1,rRR z.2):=by
  intro m
  induction m with
  | zero=>
    intro i n' yss kss K hi hn' hy1 hk1 hq hkl
    have he:(pairQ (tS p.Scheme)).drop i=[]:=by
     apply List.drop_eq_nil_of_le
     unfold pairQ tS
     rw[List.length_zip,W9,List.length_map,List.length_map,List.length_map];omega
    rw[Wb (t:=Lp.go (rRR yss,rRR kss)) (by simp only[];rw[decide_eq_false (by omega)];rfl) (by omega),Option.bind_some,Xi,he]
    rfl
  | succ m ih=>
    intro i n' yss kss K hi hn' hy1 hk1 hq hkl
    obtain⟨n'',rfl⟩:∃ n'',n'=n''+1:=⟨n' - 1,by omega⟩
    have ha:p.Scheme.A[i]?=some (p.Scheme.A[i]'(by omega)):=List.getElem?_eq_getElem (by omega)
    have hc:p.Scheme.C[i]?=some (p.Scheme.C[i]'(by omega)):=List.getElem?_eq_getElem (by omega)
    have ham:=List.getElem_mem (l:=p.Scheme.A) (n:=i) (by omega)
    have hcm:=List.getElem_mem (l:=p.Scheme.C) (n:=i) (by omega)
    generalize p.Scheme.A[i]'(by omega)=a at ha ham
    generalize p.Scheme.C[i]'(by omega)=c at hc hcm
    have hal:=g6 i (by omega) a ha
    have hra:=Qlr (nA a ham)
    have hrc:=Qbi (nC c hcm)
    have haq:QR k (rvr a):=Qnl (λf hf=>Fk_wd (hp.s.a a ham f hf)) (by omega)
    have hcq:qw (fr c)≤k:=qw_fr (Fk_wd (hp.s.c c hcm)) (by omega)
    have hpd:=Qy3 (s:=tS p.Scheme) (i:=i) (a:=a.map tF) (c:=tF c) (Qhm _ ha) (Qhm _ hc)
    rw[Qic,fr_tF] at hpd
    rw[hpd]
    simp only[stagesQ]
    have hF:=Qkc (c:=rvr a) hn h0 (by omega) hH hY haq hq (by omega) (by rw[Qdr];omega) hkl (by omega)
    rw[hra] at hF
    have hfb:=Qrs hY hH haq hq (by omega) h0
    have hfl:=Qir (H:=H) (Y:=Y) (c:=rvr a) hkl
    have hRow:=Qho (lim:=lim) hn (show 22*k<274877906944 by omega) hfb (by omega)
    unfold stageQ
    cases hf:fitQ lim (fromQ H Y (rvr a) kss) 0 with
    | some j=>
      rw[hf] at hRow
      have hj:=Qqu hf
      simp only[] at hRow ⊢
      rw[Wb (t:=Lp.out (noMr,⟨6,(i:Int),300+(j:Int)⟩)) (by
       simp only[]
       rw[decide_eq_true (show(i:Int)<(p.Scheme.B.length:Int) by omega),bifT,J9 ha,sbind,hF,sbind,hRow,sbind,Vk,decide_eq_true (by omega),bifT,w64 (by omega) (by omega)];rfl) (by omega),Option.bind_some,Qc2]
    | none=>
      rw[hf] at hRow
      simp only[] at hRow ⊢
      have hmul:=Qab hH hcq
      have hadd:=Qg6 hT hmul
      have hMo:Xs n p (rF T) (rF H) (i:Int)=some (rF (T+H*fr c)):=by
       unfold Xs
       rw[J9 hc,sbind,←hrc,Zk (k:=k) hn (by omega) hH hcq,sbind,fr_rF,Qau (k:=4*k) hn (by omega) (by omega) (by omega),sbind]
      have hPo:Xz n p (rF (T+H*fr c)) (rR (fromQ H Y (rvr a) kss))=some ⟨rF (T+H*fr c),rR (fromQ H Y (rvr a) kss),rR (rvr p.P)⟩:=by
       unfold Xz
       rw[hNorm,sbind]
      have hTa:=Qwm (k:=22*k) (t:=p.Tape) (T:=T+H*fr c) (Y:=fromQ H Y (rvr a) kss) (P:=rvr p.P) (lim:=lim) hn (by omega) (by omega) hta' (λx hx=>Vt (hp.t x hx) (by omega)) (by omega) hfb (X6 hPq (by omega)) (by rw[hfl];exact hl) hPl hlim4
      unfold fieldQ
      cases hru:runQ lim (T+H*fr c) (fromQ H Y (rvr a) kss) (rvr p.P) (tT p.Tape).Code 0 [] with
      | inl e=>
        rw[hru] at hTa
        have hkd:=Qox hru
        simp only[] at hTa ⊢
        rw[Wb (t:=Lp.out (noMr,⟨e.1,(i:Int),(e.2:Int)⟩)) (by
         simp only[]
         rw[decide_eq_true (show(i:Int)<(p.Scheme.B.length:Int) by omega),bifT,J9 ha,sbind,hF,sbind,hRow,sbind,Vk,decide_eq_false (by omega),bifF,hMo,sbind,hPo,sbind,hTa,sbind]
         simp only[]
         rw[decide_eq_false (show ¬ e.1=0 by omega),Bool.not_false,bifT];rfl) (by omega),Option.bind_some,Qc2]
      | inr l=>
        rw[hru] at hTa
        obtain⟨l1,l2⟩:=Qto hlim4 (λ_ h=>by cases h) hru
        have l1':l.length=p.Tape.Code.length:=by rw[l1];unfold tT;simp
        have hOu:=Qwn (t:=p.Tape) (l:=l) hn hp.o (by rw[l1'];exact hoc)
        simp only[] at hTa ⊢
        have hoe:(tT p.Tape).Outs=p.Tape.Outs:=rfl
        rw[hoe]
        rw[Qhf (s':=(rRR (yss++[fromQ H Y (rvr a) kss]),rRR (kss++[p.Tape.Outs.map λo=>l.getD o.toNat 0]),((i+1:Nat):Int))) (by
         simp only[]
         rw[decide_eq_true (show(i:Int)<(p.Scheme.B.length:Int) by omega),bifT,J9 ha,sbind,hF,sbind,hRow,sbind,Vk,decide_eq_false (by omega),bifF,hMo,sbind,hPo,sbind,hTa,sbind]
         simp only[]
         rw[decide_eq_true trivial,Bool.not_true,bifF,Wz (by simp[Qts];omega) (by simp[Qts];omega),sbind,hOu,sbind,Wz (by simp[Qts];omega) (by simp[Qts];omega),sbind,w1 (by omega),Q1z,Q1z])]
        exact ih (i+1) n'' _ _ K (by omega) (by omega) (by simp;omega) (by simp;omega) (λb hb=>by
         rcases List.mem_append.1 hb with h | h
         . exact hq b h
         . rw[List.mem_singleton.1 h]
           intro q hq'
           obtain⟨o,_,rfl⟩:=List.mem_map.1 hq'
           exact Qc3 l2 (by omega)) (λb hb=>by
         rcases List.mem_append.1 hb with h | h
         . exact hkl b h
         . rw[List.mem_singleton.1 h];simp;omega)
 have hkey:=key p.Scheme.B.length 0 n [] [] (λ(t41:(List (List Qa))×(List (List Qa)))=>
 (Ku n (rR Y) p.Scheme.B t41.2 (rF H)).bind λr62=>
 (Va n r62 lim).bind λr64=>
 bif decide (r64<(r62.length:Int)) then (
  some ((⟨[],[],[],[]⟩:Q9),(⟨(6:Int),(p.Scheme.B.length:Int),wrap64 ((300:Int)+r64)⟩:Yr)))
 else (
  jn (λ(j76:((List Qa))->Option _)=>
   bif decide ((0:Int)<(p.Scheme.E.length:Int)) then (
    (Ym n ((rR Y).length:Int)).bind λr79=>
    (Y1 n p.Scheme).bind λr81=>
    (Ku n r79 r81 t41.2 (rF H)).bind λr83=>
    j76 r83)
   else (
    j76 [])) (λ(s78:(List Qa))=>
   (Va n s78 lim).bind λr85=>
   bif decide (r85<(s78.length:Int)) then (
    some ((⟨[],[],[],[]⟩:Q9),(⟨(6:Int),wrap64 ((p.Scheme.B.length:Int)+(1:Int)),wrap64 ((300:Int)+r85)⟩:Yr)))
   else (
    some ((⟨t41.1,t41.2,r62,s78⟩:Q9),(⟨0,0,0⟩:Yr)))))) (by omega) (by unfold big at hn;omega) rfl rfl (λ_ h=>by cases h) (λ_ h=>by cases h)
 refine hkey.trans ?_
 clear hkey key
 rw[List.drop_zero]
 unfold doQ
 have epair:List.zip ((tS p.Scheme).A.map rv) (rv (tS p.Scheme).C)=pairQ (tS p.Scheme):=rfl
 rw[epair]
 cases hst:stagesQ (tT p.Tape) lim T H Y (rvr p.P) (pairQ (tS p.Scheme)) 0 [] [] with
 | inl f=>rfl
 | inr z=>
   simp only[]
   obtain⟨z1,z2,z3,z4⟩:=Qoz (m:=Y.length) hlim4 (by have e:((tT p.Tape).Outs.length:Int)=p.Tape.Dim:=hol;omega) rfl (λ_ h=>by cases h) (λ_ h=>by cases h) hst
   obtain⟨y1,y2,y3⟩:=Qwp hlim4 (λ_ h=>by cases h) rfl rfl hst
   have hzl:z.2.length=p.Scheme.B.length:=by
    rw[y2]
    show 0+(pairQ (tS p.Scheme)).length=_
    unfold pairQ tS
    rw[List.length_zip,W9,List.length_map,List.length_map,List.length_map];omega
   have hrB:=Qlr nB
   have hBq:QR k (rvr p.Scheme.B):=Qnl (λf hf=>Fk_wd (hp.s.b f hf)) (by omega)
   have hF:=Qkc (c:=rvr p.Scheme.B) hn h0 (by omega) hH hY hBq y1 (by omega) (by rw[Qdr];omega) z1 (by omega)
   rw[hrB] at hF
   have hfb:=Qrs hY hH hBq y1 (by omega) h0
   have hfl:=Qir (H:=H) (Y:=Y) (c:=rvr p.Scheme.B) z1
   have hRow:=Qho (lim:=lim) hn (show 22*k<274877906944 by omega) hfb (by omega)
   have eB:rv (tS p.Scheme).B=rvr p.Scheme.B:=Qic _
   have eBl:((tS p.Scheme).B.length:Int)=(p.Scheme.B.length:Int):=by unfold tS;simp
   unfold endQ
   rw[eB,eBl,hF,sbind,hRow,sbind]
   cases hf:fitQ lim (fromQ H Y (rvr p.Scheme.B) z.2) 0 with
   | some j=>
     have hj:=Qqu hf
     simp only[]
     rw[Vk,decide_eq_true (by omega),bifT,w64 (by omega) (by omega)];rfl
   | none=>
     simp only[]
     rw[Vk,decide_eq_false (by omega),bifF,jn_eq]
     by_cases hE:p.Scheme.E=[]
     . have hg:=(Q29 hsc').2 hE
       rw[hE,if_pos hg]
       have h00:=Qho (k:=1) (l:=[]) (lim:=lim) hn (by decide) (λ_ h=>by cases h) (by simp)
       have h00':Va n [] lim=some 0:=h00
       rw[decide_eq_false (by simp),bifF]
       simp only[]
       rw[h00',sbind,decide_eq_false (by simp),bifF]
       rfl
     . have hg:gapQ (tS p.Scheme)≠[]:=λh=>hE ((Q29 hsc').1 h)
       have hEl:p.Scheme.E.length≠0:=λh=>hE (List.eq_nil_of_length_eq_zero h)
       have hgapl:(gapQ (tS p.Scheme)).length=p.Scheme.B.length:=by
        have eE:(tS p.Scheme).E=p.Scheme.E.map tF:=rfl
        have eB2:(tS p.Scheme).B=p.Scheme.B.map tF:=rfl
        unfold gapQ
        rw[if_neg (by rw[eE];simpa using hE),Qrr,Qj7,W9,W9,eE,eB2];simp;omega
       have hgq:QR (2*k+2) (gapQ (tS p.Scheme)):=by
        have hs:SchW k (tS p.Scheme):=⟨λr hr=>by
         have eA:(tS p.Scheme).A=p.Scheme.A.map (·.map tF):=rfl
         rw[eA] at hr
         obtain⟨l,hl',rfl⟩:=List.mem_map.1 hr
         intro x hx
         obtain⟨f,hf',rfl⟩:=List.mem_map.1 hx
         exact hp.s.a l hl' f hf',λx hx=>by
         obtain⟨f,hf',rfl⟩:=List.mem_map.1 hx
         exact hp.s.b f hf',λx hx=>by
         obtain⟨f,hf',rfl⟩:=List.mem_map.1 hx
         exact hp.s.c f hf',λx hx=>by
         obtain⟨f,hf',rfl⟩:=List.mem_map.1 hx
         exact hp.s.e f hf',by
         have:=hp.s.nl
         show p.Scheme.Name.length≤_
         omega⟩
        exact Q5x (by omega) hs
       have hGap:=Qya hn (show 1≤k by omega) (by omega) hp.s nB nE (by omega) g2 hE
       have hF2:=Qkc (k:=2*k+2) (Y:=List.replicate Y.length 0) (c:=gapQ (tS p.Scheme)) hn (by omega) (by omega) (show qw H≤2*k+2 by omega) (X6 (Q1r _) (by omega)) hgq y1 (by omega) (by omega) (by simpa using z1) (by simp;omega)
       have e0:fromQ H (List.replicate Y.length 0) (gapQ (tS p.Scheme)) z.2=towQ H Y.length (gapQ (tS p.Scheme)) z.2:=by
        unfold fromQ
        rw[List.length_replicate,Qy9 (Qmu z1)]
       rw[e0] at hF2
       have htl:=Qmu (H:=H) (c:=gapQ (tS p.Scheme)) z1
       have htb:=Qtp (m:=Y.length) (show qw H≤2*k+2 by omega) hgq y1 (by omega) (by omega)
       have hRow2:=Qho (lim:=lim) hn (show 20*(2*k+2)<274877906944 by omega) htb (by omega)
       rw[if_neg hg,decide_eq_true (show(0:Int)<(p.Scheme.E.length:Int) by omega),bifT,Vk Y,Qwo hn (by omega),sbind,hGap,sbind,hF2,sbind]
       simp only[]
       rw[hRow2,sbind]
       cases hf2:fitQ lim (towQ H Y.length (gapQ (tS p.Scheme)) z.2) 0 with
       | some j=>
         have hj:=Qqu hf2
         simp only[]
         rw[Vk,decide_eq_true (by omega),bifT,w64 (x:=300+(j:Int)) (by omega) (by omega),w1 (by omega)]
         rfl
       | none=>
         simp only[]
         rw[Vk,decide_eq_false (by omega),bifF]
         rfl
theorem Qza{lim:Int}:∀ {l:List Rat}{i:Nat},fitQ lim l i=none->∀ q∈l,(qz q:Int)≤lim
 | [],_,_,q,hq=>by cases hq
 | x::l,i,h,q,hq=>by
   simp only[fitQ] at h
   split at h
   . rename_i hx
     rcases List.mem_cons.1 hq with rfl | hq
     . exact hx
     . exact Qza h q hq
   . cases h
theorem Q3a{lim:Int}{l:List Rat}(hlim:lim≤4096)(h:fitQ lim l 0=none):QR 129 l:=λq hq=>by
 have h1:=Qza h q hq
 have h2:=qw_qz (q:=q) (b:=4096) (by omega)
 omega
theorem Qu6{p:Qw}{T H:Rat}{Y:List Rat}{z:MadeQ}(h:stepQ p T H Y=.inr z):prbR p∧(Y.length:Int)=p.Tape.Dim∧QR 129 z.next∧z.next.length=Y.length∧QR 129 z.err:=by
 unfold stepQ at h
 by_cases hc:prbR p∧(Y.length:Int)=p.Tape.Dim
 case neg=>rw[if_neg hc] at h;cases h
 rw[if_pos hc] at h
 refine⟨hc.1,hc.2,?_⟩
 have hdim:=hc.1.1.1
 unfold doQ at h
 cases hz:stagesQ p.Tape (limQ p.Bits) T H Y (rv p.P) (List.zip (p.Scheme.A.map rv) (rv p.Scheme.C)) 0 [] [] with
 | inl e=>rw[hz] at h;cases h
 | inr w=>
   rw[hz] at h
   simp only[] at h
   obtain⟨g1,g2,g3,g4⟩:=Qoz (m:=Y.length) (by unfold limQ;omega) (by have:=hdim.2.2.1;omega) rfl (λ_ h=>by cases h) (λ_ h=>by cases h) hz
   unfold endQ at h
   have hlim:limQ p.Bits≤4096:=by unfold limQ;omega
   split at h
   . cases h
   . rename_i hf
     split at h
     . cases h
     . rename_i hf2
       cases h
       exact⟨Q3a hlim hf,Qir g1,Q3a hlim hf2⟩
def noH:Ji:=⟨[],⟨⟨false,[]⟩,[]⟩,[]⟩
theorem Q3b{l:List Rat}:scaleQ 1 l=l:=by
 unfold scaleQ
 conv=>rhs;rw[←List.map_id l]
 exact List.map_congr_left λq _=>by show 1*q=q;grind
theorem Qtc{k:Nat}{l:List Rat}(h1:1≤k)(h:QR k l):qw (normQ l)≤k:=by
 have key:∀(l:List Rat) (b:Rat),QR k l->qw b≤k->qw (l.foldl (λb x=>maxQ b (absQ x)) b)≤k:=by
  intro l
  induction l with
  | nil=>intro b _ hb;exact hb
  | cons x l ih=>intro b hl hb;exact ih _ (λq hq=>hl q (.tail _ hq)) (Q1p hb (by rw[Qs6];exact hl x (.head _)))
 exact key l 0 h (by rw[Qbx];exact h1)
theorem Qwq:qw 1=1:=by
 unfold qw;rw[show(1:Rat).num=1 from rfl,show(1:Rat).den=1 from rfl,show(1:Int).natAbs=1 from rfl,toL1];rfl
set_option maxRecDepth 100000
theorem Fk_tF{k:Nat}{x:Qa}(hB:Km x)(h:x.N.length≤k∧x.D.length≤k):Fk k (tF x):=⟨hB.2.1.2,h.1,hB.2.2.1.2,h.2⟩
theorem FR_tF{many k:Nat}{l:List Qa}(hB:K0 l)(h:FL many k l):FR k (l.map tF):=λx hx=>by
 obtain⟨y,hy,rfl⟩:=List.mem_map.1 hx
 exact Fk_tF (hB.2 y hy) (h.2 y hy)
theorem Q8s{a b k:Nat}{p:Qv}{bits:Int}(hB:Qaw p)(hk:k≤129)
 (h:(p.Tape.Code.length≤a∧p.Tape.Outs.length≤a∧∀ c∈p.Tape.Code,c.N.N.length≤k∧c.N.D.length≤k)∧(p.Scheme.Name.length≤50∧p.Scheme.A.length≤b∧FL b 4 p.Scheme.B∧FL b 4 p.Scheme.C∧FL b 4 p.Scheme.E∧∀ r∈p.Scheme.A,FL b 4 r)∧FL 6 k p.P) :
 PrbW 129 ⟨tT p.Tape,tS p.Scheme,p.P.map tF,bits⟩:=by
 obtain⟨bt,bs,bp,_⟩:=hB
 obtain⟨⟨t1,t2,t3⟩,⟨s1,s2,s3,s4,s5,s6⟩,p1⟩:=h
 refine⟨λc hc=>?_,bt.2.2.1,⟨λr hr=>?_,Qcd (FR_tF bs.2.2.2.1 s3) (by omega),Qcd (FR_tF bs.2.1 s4) (by omega),Qcd (FR_tF bs.2.2.2.2.1 s5) (by omega),by show p.Scheme.Name.length≤_;omega⟩,Qcd (FR_tF bp p1) hk⟩
 . obtain⟨d,hd,rfl⟩:=List.mem_map.1 hc
   exact Vt (Fk_tF (bt.1.2 d hd).2.2.2.1 (t3 d hd)) hk
 . obtain⟨d,hd,rfl⟩:=List.mem_map.1 hr
   exact Qcd (FR_tF (bs.2.2.1.2 d hd) (s6 d hd)) (by omega)
theorem PrbW.mono{j k:Nat}{p:Qw}(h:PrbW j p)(hk:j≤k):PrbW k p:=
 ⟨λc hc=>Vt (h.t c hc) hk,h.d,⟨λr hr=>Qcd (h.s.a r hr) hk,Qcd h.s.b hk,Qcd h.s.c hk,Qcd h.s.e hk,h.s.n⟩,Qcd h.p hk⟩
set_option maxRecDepth 100000
theorem Q4c{t:Q1}{lim:Int}{T H:Rat}{Y P a:List Rat}{c:Rat}{i:Nat}{kss:List (List Rat)}{f}(h:stageQ t lim T H Y P a c i kss=.inl f):f.Kind≠0:=by
 unfold stageQ at h
 split at h
 . cases h;show(6:Int)≠0;decide
 . cases hf:fieldQ t lim (T+H*c) (fromQ H Y a kss) P with
   | inl e=>rw[hf] at h;cases h;have:=Quh hf;show e.1≠0;omega
   | inr k=>rw[hf] at h;cases h
theorem Quj{t:Q1}{lim:Int}{T H:Rat}{Y P:List Rat}:∀ {r:List (List Rat×Rat)}{i:Nat}{yss kss:List (List Rat)}{f},stagesQ t lim T H Y P r i yss kss=.inl f->f.Kind≠0
 | [],i,yss,kss,f,h=>by simp only[stagesQ] at h;cases h
 | x::r,i,yss,kss,f,h=>by
   simp only[stagesQ] at h
   cases hs:stageQ t lim T H Y P x.1 x.2 i kss with
   | inl g=>rw[hs] at h;cases h;exact Q4c hs
   | inr w=>rw[hs] at h;exact Quj h
theorem Q68{t:Q1}{s:Qq}{lim:Int}{T H:Rat}{Y P:List Rat}{f}(h:doQ t s lim T H Y P=.inl f):f.Kind≠0:=by
 unfold doQ at h
 cases hst:stagesQ t lim T H Y P (List.zip (s.A.map rv) (rv s.C)) 0 [] [] with
 | inl g=>rw[hst] at h;cases h;exact Quj hst
 | inr z=>
   rw[hst] at h
   simp only[] at h
   unfold endQ at h
   split at h
   . cases h;show(6:Int)≠0;decide
   . split at h
     . cases h;show(6:Int)≠0;decide
     . cases h
theorem Q69{p:Qv}{T H:Rat}{Y:List Rat}(hr:prbR (tP p))(hl:(Y.length:Int)=p.Tape.Dim):stepQ (tP p) T H Y=doQ (tT p.Tape) (tS p.Scheme) (limQ p.Bits) T H Y (rvr p.P):=by
 unfold stepQ
 rw[if_pos ⟨hr,hl⟩,show rv (tP p).P=rvr p.P from Qic p.P]
 rfl
theorem Q7a{a b k:Nat}{p:Qv}(hB:Qaw p)(hk:k≤129)(ha:a≤1000000)(hb:b≤1000000)
 (h:(p.Tape.Code.length≤a∧p.Tape.Outs.length≤a∧∀ c∈p.Tape.Code,c.N.N.length≤k∧c.N.D.length≤k)∧(p.Scheme.Name.length≤50∧p.Scheme.A.length≤b∧FL b 4 p.Scheme.B∧FL b 4 p.Scheme.C∧FL b 4 p.Scheme.E∧∀ r∈p.Scheme.A,FL b 4 r)∧FL 6 k p.P) :
 PrbWr 129 p:=by
 obtain⟨bt,bs,bp,_⟩:=hB
 obtain⟨⟨t1,t2,t3⟩,⟨s1,s2,s3,s4,s5,s6⟩,p1⟩:=h
 have mk:∀ {m j:Nat}{l:List Qa},K0 l->FL m j l->j≤129->FKs 129 l:=λh1 h2 h3 f hf=>Vt (FR_tF h1 h2 (tF f) (List.mem_map_of_mem hf)) h3
 refine⟨λx hx=>Vt (Fk_tF (bt.1.2 x hx).2.2.2.1 (t3 x hx)) hk,by omega,⟨λr hr=>mk (bs.2.2.1.2 r hr) (s6 r hr) (by omega),λr hr=>by have:=(s6 r hr).1;omega,mk bs.2.2.2.1 s3 (by omega),by have:=s3.1;omega,mk bs.2.1 s4 (by omega),by have:=s4.1;omega,mk bs.2.2.2.2.1 s5 (by omega),by have:=s5.1;omega,by omega⟩,mk bp p1 hk,by have:=p1.1;omega⟩
theorem PrbWr.mono{j k:Nat}{p:Qv}(h:PrbWr j p)(hk:j≤k):PrbWr k p:=
 ⟨λx hx=>Vt (h.t x hx) hk,h.o,⟨λr hr f hf=>Vt (h.s.a r hr f hf) hk,h.s.al,λf hf=>Vt (h.s.b f hf) hk,h.s.bl,λf hf=>Vt (h.s.c f hf) hk,h.s.cl,λf hf=>Vt (h.s.e f hf) hk,h.s.el,h.s.nl⟩,λf hf=>Vt (h.pk f hf) hk,h.pl⟩
theorem Q50{p:Qw}{T H:Rat}{Y:List Rat}{z:MadeQ}(h:stepQ p T H Y=.inr z):z.err.length≤6:=by
 unfold stepQ at h
 by_cases hc:prbR p∧(Y.length:Int)=p.Tape.Dim
 case neg=>rw[if_neg hc] at h;cases h
 rw[if_pos hc] at h
 have hdim:=hc.1.1.1
 unfold doQ at h
 cases hz:stagesQ p.Tape (limQ p.Bits) T H Y (rv p.P) (List.zip (p.Scheme.A.map rv) (rv p.Scheme.C)) 0 [] [] with
 | inl e=>rw[hz] at h;cases h
 | inr w=>
   rw[hz] at h
   simp only[] at h
   obtain⟨g1,g2,g3,g4⟩:=Qoz (m:=Y.length) (by unfold limQ;omega) (by have:=hdim.2.2.1;omega) rfl (λ_ h=>by cases h) (λ_ h=>by cases h) hz
   unfold endQ at h
   split at h
   . cases h
   . split at h
     . cases h
     . cases h
       show(if gapQ p.Scheme=[] then [] else towQ H Y.length (gapQ p.Scheme) w.2).length≤6
       split
       . simp
       . rw[Qmu g1];have:=hdim.1;omega
set_option maxRecDepth 100000
def oTry(t:Jf):Qr:=⟨oF t.T,oF t.Want,oF t.H,oF t.Err,t.Y.map oF,t.Ok⟩
theorem Qz2{n:Nat}{h:Ji}(hn:big≤n)(h1:h.Tries.length≤1000000)(h2:h.Y.length≤1000000)(h3:∀ t∈h.Tries,t.Y.length≤1000000):Qa9 n h=some ⟨h.Tries.map oTry,oF h.T,h.Y.map oF⟩:=by
 unfold Qa9
 rw[Ql6,sbind,Qr7 hn h2,sbind]
 rw[Xf (λi=>((h.Tries.take i).map oTry,(i:Int))) h.Tries.length (h.Tries.map oTry)]
 . intro i hi
   have hp:h.Tries[i]?=some h.Tries[i]:=List.getElem?_eq_getElem hi
   have hy:=h3 h.Tries[i] (List.getElem_mem hi)
   generalize h.Tries[i]=t at hp hy
   rw[decide_eq_true (show(i:Int)<(h.Tries.length:Int) by omega),bifT,J9 hp,sbind]
   simp only[Ql6,sbind]
   rw[Qr7 hn hy,sbind,Wz (by simp;omega) (by simp;omega),sbind,w1 (by omega),Qdp oTry hp];rfl
 . rw[decide_eq_false (by omega),bifF,List.take_length]
 . unfold big at hn;omega
 . rfl
def SmF(f:Qa):Prop:=f.N.length≤4611686018427387904∧f.D.length≤4611686018427387904
def SmL(l:List Qa):Prop:=l.length≤1000000∧∀ f∈l,SmF f
def SmT(t:Qr):Prop:=SmF t.T∧SmF t.Want∧SmF t.H∧SmF t.Err∧SmL t.Y
def SmH(h:Qm):Prop:=SmF h.T∧SmL h.Y∧h.Tries.length≤1000000∧∀ t∈h.Tries,SmT t
theorem Qqv{q:Rat}{k:Nat}(h:qw q≤k)(hk:k<274877906944):SmF (rF q):=by
 have:=Q26 h
 exact⟨by omega,by omega⟩
theorem Q51{l:List Rat}{k:Nat}(h:QR k l)(hk:k<274877906944)(hl:l.length≤1000000):SmL (rR l):=⟨by rw[Vk];exact hl,λf hf=>by
 obtain⟨q,hq,rfl⟩:=List.mem_map.1 hf
 exact Qqv (h q hq) hk⟩
theorem Jad{n:Nat}{f:Qa}(hn:big≤n)(h:SmF f):Jb n f f=some true:=by
 rw[Qgf hn h.1 h.2];exact congrArg some (@decide_eq_true _ (Classical.propDecidable _) rfl)
theorem Q10{n:Nat}{l:List Qa}(hn:big≤n)(h:SmL l):We n l l=some true:=by
 rw[Qwb hn h.1 h.2];simp
theorem Qt5{n:Nat}{a:Qm}(hn:big≤n)(h:SmH a):Z0 n a a=some true:=by
 obtain⟨h1,h2,h3,h4⟩:=h
 unfold Z0
 simp only[jn_eq]
 rw[decide_eq_true trivial,Bool.not_true,bifF,Jad hn h1,sbind,Bool.not_true,bifF,Q10 hn h2,sbind,Bool.not_true,bifF]
 rw[Qkv (λ_=>True) a.Tries.length (r:=false)]
 . rw[if_pos (λ_ _=>trivial)]
 . intro i hi
   have hp:a.Tries[i]?=some a.Tries[i]:=List.getElem?_eq_getElem hi
   have ht:=h4 a.Tries[i] (List.getElem_mem hi)
   generalize a.Tries[i]=t at hp ht
   obtain⟨g1,g2,g3,g4,g5⟩:=ht
   refine⟨λ_=>?_,λg=>absurd trivial g⟩
   have hnum:SmL [t.T,t.Want,t.H,t.Err]:=⟨by simp,λf hf=>by
    rcases List.mem_cons.1 hf with rfl | hf
    . exact g1
    rcases List.mem_cons.1 hf with rfl | hf
    . exact g2
    rcases List.mem_cons.1 hf with rfl | hf
    . exact g3
    rw[List.mem_singleton.1 hf];exact g4⟩
   rw[decide_eq_true (show(i:Int)<(a.Tries.length:Int) by omega),bifT,J9 hp,sbind,sbind,bne_self_eq_false,bifF]
   unfold Yt
   rw[sbind,sbind,Q10 hn hnum,sbind,Bool.not_true,bifF,Q10 hn g5,sbind,Bool.not_true,bifF,w1 (by omega)]
 . rw[decide_eq_false (by omega),bifF]
 . unfold big at hn;omega
theorem Qo0{n:Nat}{h:Ji}{a:Qm}(hn:big≤n)(h1:h.Tries.length≤1000000)(h2:h.Y.length≤1000000)(h3:∀ t∈h.Tries,t.Y.length≤1000000)(e:(⟨h.Tries.map oTry,oF h.T,h.Y.map oF⟩:Qm)=a)(hs:SmH a):Vh n h a=some true:=by
 unfold Vh
 rw[Qz2 hn h1 h2 h3,sbind,e,Qt5 hn hs,sbind]
theorem Q3c{n:Nat}(hn:big≤n):Vh n noH ⟨[],⟨false,[],[]⟩,[]⟩=some true:=
 Qo0 hn (by decide) (by decide) (λ_ h=>by cases h) rfl ⟨⟨by decide,by decide⟩,⟨by decide,λ_ h=>by cases h⟩,by decide,λ_ h=>by cases h⟩
set_option maxRecDepth 100000
set_option maxRecDepth 100000
def okT(l:List Jf):List Jf:=l.filter (·.Ok)
def nT(t:Jf):Jf:=⟨toF (fv t.T),toF (fv t.Want),toF (fv t.H),toF (fv t.Err),toR (rv t.Y),true⟩
def FT(k:Nat)(t:Jf):Prop:=FR k [t.T,t.Want,t.H,t.Err]∧FR k t.Y∧t.Y.length≤1000000
theorem Qnt{n k:Nat}{l:List Qb}(hn:big≤n)(h1:1≤k)(hk:k<1099511627776)(h:FR k l)(hl:l.length≤1000000):Qdk n l=some (toR (rv l)):=by
 unfold Qdk
 rw[Qij hn,sbind,Qhk (k:=k) hn h1 hk (Ve (by rw[Qwq];exact h1)) h hl,sbind,Kf,Q3b]
theorem Jae(l:List Jf):(okT l).length≤l.length:=List.length_filter_le _ _
theorem Qtd{n k:Nat}{h:Ji}(hn:big≤n)(h1:1≤k)(hk:k<1099511627776)(hl:h.Tries.length≤1000000)(ht:∀ t∈h.Tries,FT k t):Qd2 n h=some ((okT h.Tries).map nT):=by
 unfold Qd2
 rw[Qi6 (λi=>(okT (h.Tries.take i)).map nT) h.Tries]
 . rw[List.take_length];rfl
 . intro i x hx
   obtain⟨g1,g2,g3⟩:=ht x (Kt hx)
   have hi:=Ky hx
   have hle:=Jae (h.Tries.take i)
   rw[List.length_take] at hle
   rw[Qcx hx]
   have ea:okT (h.Tries.take i++[x])=okT (h.Tries.take i)++okT [x]:=List.filter_append _ _
   rw[ea,List.map_append]
   cases ho:x.Ok
   . rw[bifF,show okT [x]=[] from by unfold okT;simp[ho],List.map_nil,List.append_nil]
   . rw[bifT,show okT [x]=[x] from by unfold okT;simp[ho]]
     unfold Qco
     rw[sbind,Qnt hn h1 hk g1 (by simp),sbind,show getI (toR (rv [x.T,x.Want,x.H,x.Err])) 0=some (toF (fv x.T)) from rfl,sbind,show getI (toR (rv [x.T,x.Want,x.H,x.Err])) 1=some (toF (fv x.Want)) from rfl,sbind,show getI (toR (rv [x.T,x.Want,x.H,x.Err])) 2=some (toF (fv x.H)) from rfl,sbind,show getI (toR (rv [x.T,x.Want,x.H,x.Err])) 3=some (toF (fv x.Err)) from rfl,sbind,Qnt hn h1 hk g2 g3,sbind,Wz (by simp;omega) (by simp;omega),sbind]
     rfl
 . rfl
def szs(h:Ji):List Rat:=(okT h.Tries).map (fv ·.H)
def okR(l:List Qr):List Qr:=l.filter (·.Ok)
theorem Jaf(l:List Qr):(okR l).length≤l.length:=List.length_filter_le _ _
theorem Q7b(l:List Qr)(x:Qr):okR (l++[x])=if x.Ok=true then okR l++[x] else okR l:=by
 have e:okR (l++[x])=okR l++okR [x]:=List.filter_append _ _
 rw[e]
 cases ho:x.Ok
 . rw[if_neg (by decide),show okR [x]=[] from by unfold okR;simp[ho],List.append_nil]
 . rw[if_pos rfl,show okR [x]=[x] from by unfold okR;simp[ho]]
theorem Qu7{n:Nat}{h:Qm}(hn:big≤n)(hl:h.Tries.length≤1000000):Zs n h=some ((okR h.Tries).map (·.H)):=by
 unfold Zs
 rw[Xf (λi=>((okR (h.Tries.take i)).map (·.H),(i:Int))) h.Tries.length ((okR h.Tries).map (·.H))]
 . intro i hi
   have hp:h.Tries[i]?=some h.Tries[i]:=List.getElem?_eq_getElem hi
   generalize h.Tries[i]=t at hp
   have hle:=Jaf (h.Tries.take i)
   rw[List.length_take] at hle
   simp only[jn_eq]
   rw[decide_eq_true (show(i:Int)<(h.Tries.length:Int) by omega),bifT,J9 hp,sbind,Qcx hp,Q7b,w1 (by omega)]
   cases t.Ok
   . rw[bifF,if_neg (by decide)]
   . rw[bifT,if_pos rfl,sbind,Wz (by simp;omega) (by simp;omega),sbind,List.map_append];rfl
 . rw[decide_eq_false (by omega),bifF,List.take_length]
 . unfold big at hn;omega
 . rfl
set_option maxRecDepth 100000
theorem Q8t(q:Rat):0≤(absQ q).num:=by
 unfold absQ
 split
 . show 0≤-q.num;omega
 . omega
theorem Q7c(l:List Rat):0≤(normQ l).num:=by
 have key:∀(l:List Rat) (b:Rat),0≤b.num->0≤(l.foldl (λb x=>maxQ b (absQ x)) b).num:=by
  intro l
  induction l with
  | nil=>intro b hb;exact hb
  | cons x l ih=>
    intro b hb
    refine ih _ ?_
    show 0≤(maxQ b (absQ x)).num
    unfold maxQ
    split
    . exact Q8t x
    . exact hb
 exact key l 0 (Int.le_refl _)
set_option maxRecDepth 100000
set_option maxRecDepth 100000
theorem fl_eq{z q d:Int}(h0:0<d)(h1:q*d≤z)(h2:z<q*d+d):z / d=q:=by
 apply Int.le_antisymm
 . have:z / d<q+1:=(Int.ediv_lt_iff_lt_mul h0).2 (by rw[Int.add_mul,Int.one_mul];exact h2)
   omega
 . exact(Int.le_ediv_iff_mul_le h0).2 h1
theorem Q7d(s:Bool)(x d:Nat)(hd:0<d)(z v:Int)(hz:z=if s=true then -((x / d:Nat):Int) else ((x / d:Nat):Int))(hv:v=if s=true then -(x:Int) else (x:Int)):
 z.natAbs≤x∧(z*(d:Int)).natAbs≤x∧(v - z*(d:Int)).natAbs≤x∧(v - z*(d:Int)<0->v / (d:Int)=z - 1)∧(0≤v - z*(d:Int)->v / (d:Int)=z):=by
 have hq:=Nat.div_mul_le_self x d
 have hq2:x<x / d*d+d:=Nat.lt_div_mul_add hd
 have hle:=Nat.div_le_self x d
 generalize x / d=q at *
 have e1:z*(d:Int)=if s=true then -((q*d:Nat):Int) else ((q*d:Nat):Int):=by
  rw[hz];cases s
  . rw[if_neg (by decide),if_neg (by decide),Int.natCast_mul]
  . rw[if_pos rfl,if_pos rfl,Int.natCast_mul,Int.neg_mul]
 have k1:v - z*(d:Int)<0->v / (d:Int)=z - 1:=λh=>fl_eq (by omega) (by
  rw[Int.sub_mul,Int.one_mul];rw[e1] at h ⊢;rw[hv] at h ⊢
  cases s
  . rw[if_neg (by decide),if_neg (by decide)] at h;omega
  . rw[if_pos rfl,if_pos rfl];omega) (by rw[Int.sub_mul,Int.one_mul];omega)
 have k2:0≤v - z*(d:Int)->v / (d:Int)=z:=λh=>fl_eq (by omega) (by omega) (by
  rw[e1] at h ⊢;rw[hv] at h ⊢
  cases s
  . rw[if_neg (by decide),if_neg (by decide)];omega
  . rw[if_pos rfl,if_pos rfl] at h ⊢;omega)
 refine⟨?_,?_,?_,k1,k2⟩
 . rw[hz];cases s
   . rw[if_neg (by decide)];omega
   . rw[if_pos rfl];omega
 . rw[e1];cases s
   . rw[if_neg (by decide)];omega
   . rw[if_pos rfl];omega
 . rw[e1,hv];cases s
   . rw[if_neg (by decide),if_neg (by decide)];omega
   . rw[if_pos rfl,if_pos rfl];omega
theorem Q11{z:Int}{a:Qf}(ha:Ww a)(h:z.natAbs≤val a.Abs):Ww (toW z):=⟨Qbr _,by
 show(toL z.natAbs).length<_
 exact Nat.lt_of_le_of_lt (Nat.le_trans (K3 h) (Jj ha.1)) ha.2⟩
theorem Qu8{n:Nat}{a:Qf}{d:List Nat}(hn:big≤n)(ha:Ww a)(hd:Wd d)(hl:d.length<4398046511104)(h0:val d≠0):∃ r,Qfx n a ⟨false,d⟩=some (toW (wv a / (val d:Int)),r):=by
 unfold Qfx
 simp only[jn_eq]
 have l1:=ha.2
 have hb:Ww ⟨false,d⟩:=⟨hd,hl⟩
 rw[Qf2 hn l1 hl ha.1 hd,if_neg h0,sbind]
 simp only[]
 rw[Bool.not_true,bifF,Xl,sbind]
 have vb:wv (⟨false,d⟩:Qf)=(val d:Int):=rfl
 have hs:(a.Neg != false)=a.Neg:=by cases a.Neg<;>rfl
 rw[hs]
 obtain⟨g1,g2,g3,g4,g5⟩:=Q7d a.Neg (val a.Abs) (val d) (by omega) _ (wv a) rfl rfl
 have hdp:(0:Int)<(val d:Int):=by omega
 generalize (if a.Neg=true then -((val a.Abs / val d:Nat):Int) else ((val a.Abs / val d:Nat):Int))=z at *
 have wz:=Q11 ha g1
 have wm:=Q11 ha g2
 have wr:=Q11 ha g3
 have tri:∀ x:Int,-1≤x.sign∧x.sign≤1:=λx=>by
  rcases Int.lt_trichotomy x 0 with h | h | h
  . rw[Int.sign_eq_neg_one_of_neg h];omega
  . rw[h];decide
  . rw[Int.sign_eq_one_of_pos h];omega
 have tr:=tri (wv a - z*(val d:Int))
 rw[Qkt hn wz hb,sbind,Zx,vb,Qhi hn ha wm,sbind,Zx,Qd8 hn wr,sbind,Qd8 hn hb,sbind,Zx,vb,Int.sign_eq_one_of_pos hdp,Int.mul_one,w64 (by omega) (by omega)]
 by_cases hneg:(wv a - z*(val d:Int)).sign<0
 . rw[decide_eq_true hneg,bifT,Ql5 hn (by decide) (by decide),sbind,Qhi hn wz ⟨Qbr _,by show(toL 1).length<_;rw[toL1];decide⟩,sbind,Zx,Zx,Qku hn wr hb,sbind,g4 (Int.sign_neg_iff.1 hneg)]
   exact⟨_,rfl⟩
 . rw[decide_eq_false hneg,bifF,g5 (Int.not_lt.1 λh=>hneg (Int.sign_neg_iff.2 h))]
   exact⟨_,rfl⟩
def floorQ(q:Rat):Int:=q.num / (q.den:Int)
theorem Q7e{z:Int}{d:Nat}(hd:d≠0):floorQ (mkRat z d)=z / (d:Int):=by
 obtain⟨e1,e2⟩:=Qci (z:=z) hd
 unfold floorQ
 rw[e1,e2]
 have g1:(Nat.gcd z.natAbs d:Int) ∣ z:=Int.dvd_natAbs.1 (Int.natCast_dvd_natCast.2 (Nat.gcd_dvd_left _ _))
 have g2:Nat.gcd z.natAbs d ∣ d:=Nat.gcd_dvd_right _ _
 have gp:0<Nat.gcd z.natAbs d:=Nat.gcd_pos_of_pos_right _ (by omega)
 generalize Nat.gcd z.natAbs d=g at *
 obtain⟨x,rfl⟩:=g1
 obtain⟨y,rfl⟩:=g2
 rw[Int.mul_ediv_cancel_left _ (by omega),Nat.mul_div_cancel_left _ gp,Int.natCast_mul,Int.mul_ediv_mul_of_pos _ _ (by omega)]
theorem Qwr{n k:Nat}{f:Qb}(hn:big≤n)(h1:1≤k)(hk:k<1099511627776)(hf:Fk k f):Qgw n f=some (toW (floorQ (fv f))):=by
 obtain⟨w,d,e1,e2,e3,e4,e5,e6,e7⟩:=Qdn hn hf h1 (by omega)
 unfold Qgw
 obtain⟨r,hr⟩:=Qu8 hn (a:=w) (d:=d) ⟨e2,by omega⟩ e4 (by omega) e6
 rw[e1,sbind,hr,sbind,←e7,Q7e e6]
theorem Qz3{n:Nat}{w:Qf}{d:List Nat}(hn:big≤n)(hw:Ww w)(hd:Wd d)(hl:d.length<4398046511104)(h0:val d≠0):Qd1 n w d=some (toF (mkRat (wv w) (val d)),true):=by
 unfold Qd1
 rw[Ql2 hn (by omega) hd,sbind,decide_eq_false h0,bifF,Qbw hn hw hd hl h0,sbind]
set_option maxRecDepth 100000
def fracsR(r:Ja):Prop:=∀ x∈[r.Tol,r.Safe,r.Low,r.High,r.Least],numR x
structure RulR(r:Ja):Prop where
 f:fracsR r
 tol:0≤(fv r.Tol).num.sign
 safe:0<(fv r.Safe).num.sign
 safe1:(fv r.Safe - 1).num.sign≤0
 low:0<(fv r.Low).num.sign
 low1:(fv r.Low - 1).num.sign<0
 high:0≤(fv r.High - 1).num.sign
 least:0<(fv r.Least).num.sign
 fine:1≤r.Fine∧r.Fine≤1024
 most:1≤r.Most∧r.Most≤200
def RulW(k:Nat)(r:Ja):Prop:=FR k [r.Tol,r.Safe,r.Low,r.High,r.Least]
theorem RulW.all{k:Nat}{r:Ja}(h:RulW k r):Fk k r.Tol∧Fk k r.Safe∧Fk k r.Low∧Fk k r.High∧Fk k r.Least:=
 ⟨h _ (by simp),h _ (by simp),h _ (by simp),h _ (by simp),h _ (by simp)⟩
theorem Qt6{n k:Nat}{l:List Qb}(hn:big≤n)(hk:k<1048576)(hl:FR k l):Qe0 n l=some (dP (∀ x∈l,numR x)):=by
 unfold Qe0
 rw[Qfg (λ_ (x:Qb)=>numR x) (r:=false),Qnn]
 . by_cases h:∀ x∈l,numR x
   . rw[if_pos h,dP_t h]
   . rw[if_neg h,dP_f h]
 . intro i x hx
   simp only[jn_eq]
   have e:=Q28 hn hk (hl x (Kt hx))
   have e2:∀(K:Bool->Option (Lp Unit Bool)),((Wm n x).bind λr28=>bif !r28 then K true else (Wc n x).bind λr30=>K (decide ((190:Int)<r30)))=(((Wm n x).bind λr69=>bif !r69 then some true else (Wc n x).bind λr71=>some (decide ((190:Int)<r71))).bind K):=by
    intro K
    cases Wm n x with
    | none=>rfl
    | some v=>
      cases v
      . rfl
      . rw[Option.bind_some,Option.bind_some]
        cases Wc n x<;>rfl
   refine⟨λh=>?_,λh=>?_⟩
   . refine(e2 λs=>bif s then some (Lp.out false) else some (Lp.go ())).trans ?_
     rw[e,dP_t h];rfl
   . refine(e2 λs=>bif s then some (Lp.out false) else some (Lp.go ())).trans ?_
     rw[e,dP_f h];rfl
theorem Qkd{n k:Nat}{f:Qb}(hn:big≤n)(h1:1≤k)(hk:k<1099511627776)(hf:Fk k f):Qc7 n f=some (decide (0<(fv f).num.sign)):=by
 unfold Qc7
 rw[Qfd hn h1 hk hf,sbind]
theorem Qws{n k:Nat}{r:Ja}(hn:big≤n)(h1:1≤k)(hk:k<1048576)(hr:RulW k r):Qgz n r=some (dP (RulR r)):=by
 obtain⟨w1,w2,w3,w4,w5⟩:=hr.all
 have k1:Fk k (toF 1):=Ve (by rw[Qwq];exact h1)
 have hk':k<1099511627776:=by omega
 unfold Qgz Qju
 simp only[jn_eq]
 rw[Qij hn,sbind,Qt6 hn hk hr,sbind,bifnP]
 by_cases c1:∀ x∈[r.Tol,r.Safe,r.Low,r.High,r.Least],numR x
 case neg=>rw[if_neg c1,sbind,dP_f λh=>c1 h.f];rfl
 rw[if_pos c1,Qfd hn h1 hk' w1,sbind]
 by_cases c2:(fv r.Tol).num.sign<0
 . rw[decide_eq_true c2,bifT,sbind,dP_f λh=>by have:=h.tol;omega];rfl
 rw[decide_eq_false c2,bifF,Qkd hn h1 hk' w2,sbind]
 by_cases c3:0<(fv r.Safe).num.sign
 case neg=>rw[decide_eq_false c3,Bool.not_false,bifT,bifT,sbind,dP_f λh=>c3 h.safe];rfl
 rw[decide_eq_true c3,Bool.not_true,bifF,Yc (k:=k) hn h1 hk' w2 k1,sbind,Kf]
 by_cases c4:0<(fv r.Safe - 1).num.sign
 . rw[decide_eq_true c4,bifT,sbind,dP_f λh=>by have:=h.safe1;omega];rfl
 rw[decide_eq_false c4,bifF,Qkd hn h1 hk' w3,sbind]
 by_cases c5:0<(fv r.Low).num.sign
 case neg=>rw[decide_eq_false c5,Bool.not_false,bifT,bifT,sbind,dP_f λh=>c5 h.low];rfl
 rw[decide_eq_true c5,Bool.not_true,bifF,Yc (k:=k) hn h1 hk' w3 k1,sbind,Kf]
 by_cases c6:0≤(fv r.Low - 1).num.sign
 . rw[decide_eq_true c6,bifT,sbind,dP_f λh=>by have:=h.low1;omega];rfl
 rw[decide_eq_false c6,bifF,Yc (k:=k) hn h1 hk' w4 k1,sbind,Kf]
 by_cases c7:(fv r.High - 1).num.sign<0
 . rw[decide_eq_true c7,bifT,sbind,dP_f λh=>by have:=h.high;omega];rfl
 rw[decide_eq_false c7,bifF,Qkd hn h1 hk' w5,sbind]
 by_cases c8:0<(fv r.Least).num.sign
 case neg=>rw[decide_eq_false c8,Bool.not_false,bifT,sbind,dP_f λh=>c8 h.least];rfl
 rw[decide_eq_true c8,Bool.not_true,bifF]
 by_cases c9:r.Fine<1
 . rw[decide_eq_true c9,bifT,bifT,sbind,dP_f λh=>by have:=h.fine;omega];rfl
 rw[decide_eq_false c9,bifF]
 by_cases c10:1024<r.Fine
 . rw[decide_eq_true c10,bifT,sbind,dP_f λh=>by have:=h.fine;omega];rfl
 rw[decide_eq_false c10,bifF]
 by_cases c11:r.Most<1
 . rw[decide_eq_true c11,bifT,bifT,sbind,dP_f λh=>by have:=h.most;omega];rfl
 rw[decide_eq_false c11,bifF]
 by_cases c12:200<r.Most
 . rw[decide_eq_true c12,bifT,sbind,dP_f λh=>by have:=h.most;omega];rfl
 rw[decide_eq_false c12,bifF,sbind,dP_t ⟨c1,by omega,c3,by omega,c5,by omega,by omega,c8,by omega,by omega⟩];rfl
def accQ(r:Ja)(e:Rat):Prop:=(e - fv r.Tol).num.sign≤0
def underQ(r:Ja)(w:Rat):Prop:=(w - fv r.Least).num.sign<0
def cutQ(T E W:Rat):Rat:=if 0<(W - (E - T)).num.sign then E - T else W
def downQ(x:Rat)(fine:Int):Rat:=mkRat (floorQ (x*(fine:Rat))) fine.toNat
def factorQ(r:Ja)(e:Rat):Rat:=
 if e=0 then fv r.High else
 if (downQ (fv r.Safe*fv r.Tol / e) r.Fine - fv r.Low).num.sign<0 then fv r.Low else
 if 0<(downQ (fv r.Safe*fv r.Tol / e) r.Fine - fv r.High).num.sign then fv r.High else downQ (fv r.Safe*fv r.Tol / e) r.Fine
theorem Qt7{n k:Nat}{r:Ja}{e:Rat}(hn:big≤n)(h1:1≤k)(hk:k<1099511627776)(hr:Fk k r.Tol)(he:qw e≤k):Qez n r (toF e)=some (dP (accQ r e)):=by
 unfold Qez
 rw[Yc hn h1 hk (Ve he) hr,sbind,Kf,decP];rfl
theorem Qo1{n k:Nat}{r:Ja}{e:Rat}(hn:big≤n)(h1:1≤k)(hk:k<1099511627776)(hr:Fk k r.Least)(he:qw e≤k):Qgx n r (toF e)=some (dP (underQ r e)):=by
 unfold Qgx
 rw[Yc hn h1 hk (Ve he) hr,sbind,Kf,decP];rfl
theorem Qr9{n k:Nat}{e:Qb}{T W:Rat}(hn:big≤n)(h1:1≤k)(hk:k<100000000)(hT:qw T≤k)(hE:Fk k e)(hW:qw W≤k):Qjh n (toF T) e (toF W)=some (toF (cutQ T (fv e) W)):=by
 unfold Qjh cutQ
 have hq:=Qv4 (qw_fv hE h1) hT
 rw[Qr3 (k:=k) hn h1 (by omega) hE (Ve hT),sbind,Kf,Yc (k:=k+k+1) hn (by omega) (by omega) (Ve (by omega)) (Ve hq),sbind,Kf,Kf]
 by_cases h:0<(W - (fv e - T)).num.sign
 . rw[decide_eq_true h,if_pos h];rfl
 . rw[decide_eq_false h,if_neg h,bifF,Vj hn (Fk_Fw (Ve hW) (by omega)),sbind,Kf]
theorem Qtt{z:Int}{k:Nat}(h1:1≤k)(h:(toL z.natAbs).length≤k):qw (z:Rat)≤k:=by
 unfold qw
 rw[show((z:Rat)).num=z from rfl,show((z:Rat)).den=1 from rfl,toL1];omega
theorem Qnu{fine:Int}(h:1≤fine∧fine≤1024):(toL fine.natAbs).length≤1:=Qai (n:=fine.natAbs) (k:=1) (by rw[K5,X5];omega)
theorem Qo2(q:Rat):(floorQ q).natAbs≤q.num.natAbs:=by
 unfold floorQ
 exact Int.natAbs_ediv_le_natAbs _ _
theorem Qyb{n k:Nat}{x:Rat}{fine:Int}(hn:big≤n)(h1:1≤k)(hk:k<100000000)(hx:qw x≤k)(hf:1≤fine∧fine≤1024):Qh4 n (toF x) fine=some (toF (downQ x fine)):=by
 unfold Qh4 downQ
 have hq:qw (fine:Rat)≤1:=Qtt (by omega) (Qnu hf)
 have hm:=Qab hx hq
 rw[Qj5 hn (by omega) (by omega),sbind,Qcj (k:=k) hn h1 (by omega) (Ve hx) (Ve (by omega)),sbind,Kf,Kf,Qwr (k:=k+1) hn (by omega) (by omega) (Ve hm),sbind,Kf,Ql5 hn (by omega) (by omega),sbind]
 have hfl:(toL (floorQ (x*(fine:Rat))).natAbs).length≤k+1:=Nat.le_trans (K3 (Qo2 _)) (Nat.le_trans (Qas _) hm)
 have hv:val (toW fine).Abs=fine.toNat:=by
  show val (toL fine.natAbs)=_
  rw[Qo];omega
 rw[Qz3 hn (w:=toW (floorQ (x*(fine:Rat)))) (d:=(toW fine).Abs) ⟨Qbr _,by show(toL (floorQ (x*(fine:Rat))).natAbs).length<_;omega⟩ (Qbr _) (by show(toL fine.natAbs).length<_;have:=Qnu hf;omega) (by rw[hv];omega),sbind,Zx,hv]
theorem Q8u{x:Rat}{fine:Int}{k:Nat}(hx:qw x≤k)(hf:1≤fine∧fine≤1024):qw (downQ x fine)≤k+1:=by
 unfold downQ
 have hq:qw (fine:Rat)≤1:=Qtt (by omega) (Qnu hf)
 have hm:=Qab hx hq
 refine Qrq (by omega) (Nat.le_trans (K3 (Qo2 _)) (Nat.le_trans (Qas _) hm)) ?_
 have:=Qnu hf
 rw[show fine.toNat=fine.natAbs by omega];omega
theorem Qu9{n k:Nat}{r:Ja}{e:Rat}(hn:big≤n)(h1:1≤k)(hk:k<1000000)(hr:RulW k r)(hf:1≤r.Fine∧r.Fine≤1024)(he:qw e≤k):Qfy n r (toF e)=some (toF (factorQ r e)):=by
 obtain⟨w1,w2,w3,w4,w5⟩:=hr.all
 have hm:=Qab (qw_fv w2 h1) (qw_fv w1 h1)
 have hd:=Qs3 hm he
 have hdn:=Q8u hd hf
 unfold Qfy factorQ
 rw[Qcj (k:=k) hn h1 (by omega) w2 w1,sbind,Qr4 (k:=k+k) hn (by omega) (by omega) (Ve hm) (Ve (by omega)),sbind,Kf,Kf]
 by_cases h0:e=0
 . rw[if_pos h0,if_pos h0]
   simp only[]
   rw[Bool.not_false,bifT,Vj hn (Fk_Fw w4 (by omega)),sbind]
 rw[if_neg h0,if_neg h0]
 simp only[]
 rw[Bool.not_true,bifF,Qyb (k:=k+k+k) hn (by omega) (by omega) hd hf,sbind,Yc (k:=k+k+k+1) hn (by omega) (by omega) (Ve hdn) (Vt w3 (by omega)),sbind,Kf]
 generalize downQ (fv r.Safe*fv r.Tol / e) r.Fine=x at *
 by_cases g1:(x - fv r.Low).num.sign<0
 . rw[decide_eq_true g1,if_pos g1,bifT,Vj hn (Fk_Fw w3 (by omega)),sbind]
 rw[decide_eq_false g1,if_neg g1,bifF,Yc (k:=k+k+k+1) hn (by omega) (by omega) (Ve hdn) (Vt w4 (by omega)),sbind,Kf]
 by_cases g2:0<(x - fv r.High).num.sign
 . rw[decide_eq_true g2,if_pos g2,bifT,Vj hn (Fk_Fw w4 (by omega)),sbind]
 . rw[decide_eq_false g2,if_neg g2,bifF]
set_option maxRecDepth 100000
theorem sg_lt{a b:Rat}:(a - b).num.sign<0↔a<b:=by
 rw[Int.sign_neg_iff,←Int.not_le,Rat.num_nonneg,←Rat.le_iff_sub_nonneg,Rat.not_le]
theorem sg_gt{a b:Rat}:0<(a - b).num.sign↔b<a:=by
 have e:(a - b).num=-(b - a).num:=by rw[←Qtl,Rat.neg_sub]
 rw[Int.sign_pos_iff,e,←sg_lt,Int.sign_neg_iff];omega
theorem sg_ge{a b:Rat}:0≤(a - b).num.sign↔b≤a:=by rw[←Int.not_lt,sg_lt,Rat.not_lt]
theorem Qnv{a:Rat}:0<a.num.sign↔0<a:=by
 have:=@sg_gt a 0
 rwa [show a - 0=a by grind] at this
theorem Q52{a:Rat}:0≤a.num.sign↔0≤a:=by
 have:=@sg_ge a 0
 rwa [show a - 0=a by grind] at this
theorem Q7f{x h:Rat}{fine:Int}{j:Nat}(hf:1≤fine∧fine≤1024)(h0:0<downQ x fine)(h1:downQ x fine≤h)(hj:qw h≤j):qw (downQ x fine)≤j+1:=by
 have hden:(downQ x fine).den≤1024:=by
  unfold downQ
  rw[(Qci (z:=floorQ (x*(fine:Rat))) (d:=fine.toNat) (by omega)).2]
  exact Nat.le_trans (Nat.div_le_self _ _) (by omega)
 generalize downQ x fine=y at *
 have hn:0<y.num:=by
  have:=Qnv.2 h0
  exact Int.sign_pos_iff.1 this
 rw[Rat.le_iff] at h1
 have hd1:(1:Int)≤(h.den:Int):=by have:=h.den_nz;omega
 have a1:y.num≤y.num*(h.den:Int):=by
  have:=Int.mul_le_mul_of_nonneg_left hd1 (Int.le_of_lt hn);rwa [Int.mul_one] at this
 have hpos:0≤h.num:=by
  rcases Int.lt_or_le h.num 0 with g | g
  . have:=Int.mul_neg_of_neg_of_pos g (show(0:Int)<(y.den:Int) by have:=y.den_nz;omega);omega
  . exact g
 have a2:h.num*(y.den:Int)≤h.num*1024:=Int.mul_le_mul_of_nonneg_left (by omega) hpos
 have a3:y.num.natAbs≤h.num.natAbs*1024:=by omega
 have l1:(toL y.num.natAbs).length≤j+1:=by
  refine Nat.le_trans (K3 a3) (Nat.le_trans Yq ?_)
  have:=Nat.le_trans (Qas h) hj
  have:(toL 1024).length≤1:=Qai (n:=1024) (k:=1) (by rw[K5,X5];omega)
  omega
 have l2:(toL y.den).length≤1:=Qai (n:=y.den) (k:=1) (by rw[K5,X5];omega)
 unfold qw;omega
theorem Qrt{r:Ja}(hr:RulR r){j:Nat}(hl:qw (fv r.Low)≤j)(hh:qw (fv r.High)≤j)(e:Rat):qw (factorQ r e)≤j+1:=by
 have h1:=Qnv.1 hr.low
 unfold factorQ
 split
 . omega
 . split
   . omega
   . rename_i g1
     split
     . omega
     . rename_i g2
       have g3:=Rat.not_lt.1 (λh=>g1 (sg_lt.2 h))
       exact Q7f hr.fine (by grind) (Rat.not_lt.1 λh=>g2 (sg_gt.2 h)) hh
structure TryA where
 T:Rat
 Want:Rat
 H:Rat
 Err:Rat
 Y:List Rat
 Ok:Bool
def toTryA(t:TryA):Jf:=⟨toF t.T,toF t.Want,toF t.H,toF t.Err,toR t.Y,t.Ok⟩
noncomputable def tryA(r:Ja)(E T:Rat)(Y:List Rat)(W:Rat)(z:MadeQ):TryA:=⟨T,W,cutQ T E W,normQ z.err,Y,dP (accQ r (normQ z.err))⟩
noncomputable def adaptQ(p:Qw)(r:Ja)(E:Rat):Nat->List TryA->Rat->List Rat->Rat->(List TryA×Rat×List Rat)×Qe
 | 0,tr,T,Y,_=>if T=E then ((tr,T,Y),⟨0,0,0,0⟩) else ((tr,T,Y),⟨5,(tr.length:Int)+1,0,0⟩)
 | m+1,tr,T,Y,W=>if T=E then ((tr,T,Y),⟨0,0,0,0⟩) else
   bif dP (underQ r W) then ((tr,T,Y),⟨4,(tr.length:Int)+1,0,0⟩) else
   match stepQ p T (cutQ T E W) Y with
   | .inl f=>((tr,T,Y),⟨f.Kind,(tr.length:Int)+1,f.Stage,f.At⟩)
   | .inr z=>adaptQ p r E m (tr++[tryA r E T Y W z]) (bif dP (accQ r (normQ z.err)) then T+cutQ T E W else T) (bif dP (accQ r (normQ z.err)) then z.next else Y) (cutQ T E W*factorQ r (normQ z.err))
def gA:Nat->Nat×Nat
 | 0=>(2,2)
 | n+1=>((gA n).1+(gA n).2+1,max ((gA n).1+3) (gA n).2+3)
theorem gA_le:∀ n,n≤12->(gA n).1≤3000∧(gA n).2≤3000:=by decide
theorem Qwt:∀ n,2≤(gA n).1∧2≤(gA n).2
 | 0=>⟨Nat.le_refl _,Nat.le_refl _⟩
 | n+1=>by
   obtain⟨a,b⟩:=Qwt n
   exact⟨by show 2≤(gA n).1+(gA n).2+1;omega,by show 2≤max ((gA n).1+3) (gA n).2+3;omega⟩
theorem Qyc{T E W:Rat}{a b:Nat}(hT:qw T≤a)(hE:qw E≤2)(hW:qw W≤b):qw (cutQ T E W)≤max (a+3) b∧qw (T+cutQ T E W)≤max 2 (a+b+1):=by
 unfold cutQ
 split
 . have:=Qv4 hE hT
   refine⟨by omega,?_⟩
   rw[show T+(E - T)=E by grind];omega
 . have:=Qg6 hT hW
   exact⟨by omega,by omega⟩
set_option maxRecDepth 100000
abbrev AdS:=Jq×(List Jf)×Qb×(List Qb)×Qb×Qe
def adBody(n:Nat)(s57:AdS):Option (Lp AdS AdS):=
 (Yd n s57.1 s57.2.1 s57.2.2.1 s57.2.2.2.1 s57.2.2.2.2.1).bind λr58=>
 bif !r58 then (
  jn (λ(j68:(Jq×(List Jf)×Qb×(List Qb)×Qb×Qe×Bool)->Option _)=>
   (Wr n s57.1 s57.2.1 s57.2.2.1 s57.2.2.2.1 s57.2.2.2.2.1).bind λr71=>
   (Ye r71 s57.2.2.2.2.2).bind λr73=>
   bif r73.1 then (
    j68 (s57.1,s57.2.1,s57.2.2.1,s57.2.2.2.1,s57.2.2.2.2.1,r73.2,true))
   else (
    (Xg n s57.1 s57.2.1 s57.2.2.1 s57.2.2.2.1 s57.2.2.2.2.1).bind λr75=>
    (Ye r75.1 r73.2).bind λr77=>
    j68 (r75.2.1,r75.2.2.2.2.2,r75.2.2.1,r75.2.2.2.1,r75.2.2.2.2.1,r77.2,r77.1))) (λ(s70:Jq×(List Jf)×Qb×(List Qb)×Qb×Qe×Bool)=>
   bif s70.2.2.2.2.2.2 then (
    some (Lp.out (s70.1,s70.2.1,s70.2.2.1,s70.2.2.2.1,s70.2.2.2.2.1,s70.2.2.2.2.2.1)))
   else (
    some (Lp.go (s70.1,s70.2.1,s70.2.2.1,s70.2.2.2.1,s70.2.2.2.2.1,s70.2.2.2.2.2.1)))))
 else (
  some (Lp.out (s57.1,s57.2.1,s57.2.2.1,s57.2.2.2.1,s57.2.2.2.2.1,s57.2.2.2.2.2)))
theorem Q53(n:Nat)(x0:Jq):Qe1 n x0=(Qbj n x0).bind λr1=>
 bif !r1 then (
  some ((⟨[],(⟨(⟨false,[]⟩:Qf),[]⟩:Qb),[]⟩:Ji),(⟨(2:Int),0,0,0⟩:Qe)))
 else (
  (K1 n x0.Start).bind λr3=>
  (Kx n (1:Int)).bind λr5=>
  (Qby n r5 x0.Y).bind λr7=>
  (K1 n x0.First).bind λr9=>
  (loopM (adBody n) n (x0,([]:List Jf),r3,r7,r9,(⟨0,0,0,0⟩:Qe))).bind λ(t55:AdS)=>
  some ((⟨t55.2.1,t55.2.2.1,t55.2.2.2.1⟩:Ji),t55.2.2.2.2.2)):=Eq.symm (Eq.symm rfl)
structure TskW(k:Jq):Prop where
 p:PrbW 4000 k.Problem
 r:RulW 2 k.Rules
 s:Fk 2 k.Start
 e:Fk 2 k.End
 f:Fk 2 k.First
 y:FR 2 k.Y
def TskR(k:Jq):Prop:=prbR k.Problem∧RulR k.Rules∧(k.Y.length:Int)=k.Problem.Tape.Dim∧fv k.Start≤fv k.End∧0<fv k.First
theorem Qis{n:Nat}{k:Jq}(hn:big≤n)(hw:TskW k):Qbj n k=some (dP (TskR k)):=by
 unfold Qbj TskR
 simp only[jn_eq]
 rw[Qwj hn (by decide) (by decide) hw.p,sbind,bifP]
 by_cases c1:prbR k.Problem
 case neg=>rw[if_neg c1,dP_f λh=>c1 h.1]
 rw[if_pos c1,Qws hn (by decide) (by decide) hw.r,sbind,bifP]
 by_cases c2:RulR k.Rules
 case neg=>rw[if_neg c2,dP_f λh=>c2 h.2.1]
 rw[if_pos c2]
 by_cases c3:(k.Y.length:Int)=k.Problem.Tape.Dim
 case neg=>rw[decide_eq_false c3,bifF,dP_f λh=>c3 h.2.2.1]
 rw[decide_eq_true c3,bifT,Yc (k:=2) hn (by decide) (by decide) hw.e hw.s,sbind]
 by_cases c4:0≤(fv k.End - fv k.Start).num.sign
 case neg=>rw[decide_eq_false c4,bifF,dP_f λh=>c4 (sg_ge.2 h.2.2.2.1)]
 rw[decide_eq_true c4,bifT,Qfd (k:=2) hn (by decide) (by decide) hw.f,sbind]
 by_cases c5:0<(fv k.First).num.sign
 . rw[decide_eq_true c5,dP_t ⟨c1,c2,c3,sg_ge.1 c4,Qnv.1 c5⟩]
 . rw[decide_eq_false c5,dP_f λh=>c5 (Qnv.2 h.2.2.2.2)]
theorem Qzb{f:Qe}(h:f.Kind≠0):Q7 f ⟨0,0,0,0⟩=false:=by
 obtain⟨a,b,c,d⟩:=f
 exact Qb4 h
theorem Q8v{n:Nat}{k:Jq}(hn:big≤n)(hw:TskW k)(hp:prbR k.Problem)(hr:RulR k.Rules):∀(m:Nat) (tr:List TryA) (T:Rat) (Y:List Rat) (W:Rat) (n':Nat),
 ((tr.length+m:Nat):Int)=k.Rules.Most->tr.length+m≤12->m<n'->qw T≤(gA tr.length).1->qw W≤(gA tr.length).2->QR 129 Y->(Y.length:Int)=k.Problem.Tape.Dim →
 ∃ w,loopM (adBody n) n' (k,tr.map toTryA,toF T,toR Y,toF W,⟨0,0,0,0⟩) =
   some (k,(adaptQ k.Problem k.Rules (fv k.End) m tr T Y W).1.1.map toTryA,toF (adaptQ k.Problem k.Rules (fv k.End) m tr T Y W).1.2.1,toR (adaptQ k.Problem k.Rules (fv k.End) m tr T Y W).1.2.2,w,(adaptQ k.Problem k.Rules (fv k.End) m tr T Y W).2):=by
 obtain⟨v1,v2,v3,v4,v5⟩:=hw.r.all
 have hE:qw (fv k.End)≤2:=qw_fv hw.e (by decide)
 have over:∀ {tr:List TryA}{T:Rat}{Y:List Rat}{W:Rat},qw T≤3000->Yd n k (tr.map toTryA) (toF T) (toR Y) (toF W)=some (decide (T=fv k.End)):=λhT=>by
  unfold Yd
  rw[Qkw (k:=3000) hn (by decide) (by decide) (Ve hT) (Vt hw.e (by decide)),sbind,Kf]
 intro m
 induction m with
 | zero=>
   intro tr T Y W n' hm h12 hn' hT hW hY hYl
   obtain⟨b1,b2⟩:=gA_le tr.length (by omega)
   refine⟨toF W,Wb ?_ (by omega)⟩
   unfold adBody
   simp only[jn_eq]
   rw[over (by omega),sbind]
   unfold adaptQ
   by_cases hTE:T=fv k.End
   . rw[decide_eq_true hTE,if_pos hTE];rfl
   rw[decide_eq_false hTE,if_neg hTE,Bool.not_false,bifT]
   unfold Wr Ye
   rw[List.length_map,decide_eq_true (by omega),bifT,sbind,sbind,w1 (by omega)]
   rw[Qb4 (by decide)]
   rfl
 | succ m ih=>
   intro tr T Y W n' hm h12 hn' hT hW hY hYl
   obtain⟨b1,b2⟩:=gA_le tr.length (by omega)
   by_cases hTE:T=fv k.End
   . refine⟨toF W,Wb ?_ (by omega)⟩
     unfold adBody adaptQ
     rw[over (by omega),sbind,decide_eq_true hTE,if_pos hTE];rfl
   by_cases hu:underQ k.Rules W
   . refine⟨toF W,Wb ?_ (by omega)⟩
     unfold adBody adaptQ
     simp only[jn_eq]
     rw[over (by omega),sbind,decide_eq_false hTE,if_neg hTE,Bool.not_false,bifT,dP_t hu,bifT]
     unfold Wr Ye
     rw[List.length_map,decide_eq_false (by omega),bifF,Qo1 (k:=3000) hn (by decide) (by decide) (Vt v5 (by decide)) (by omega),sbind,dP_t hu,bifT,sbind,sbind,w1 (by omega),Qb4 (by decide)]
     rfl
   obtain⟨c1,c2⟩:=Qyc (E:=fv k.End) hT hE hW
   have hst:=Qwt tr.length
   have hcut:qw (cutQ T (fv k.End) W)≤3900:=by omega
   obtain⟨d1,d2⟩:=Q1s (k:=4000) (p:=k.Problem) (t:=toF T) (h:=toF (cutQ T (fv k.End) W)) (y:=toR Y) hn (by decide) (by decide) hw.p (Ve (by omega)) (Ve (by omega)) (Qf3 (X6 hY (by decide)))
   rw[Kf,Kf,Qln] at d1 d2
   have hmay:Wr n k (tr.map toTryA) (toF T) (toR Y) (toF W)=some ⟨0,0,0,0⟩:=by
    unfold Wr
    rw[List.length_map,decide_eq_false (by omega),bifF,Qo1 (k:=3000) hn (by decide) (by decide) (Vt v5 (by decide)) (by omega),sbind,dP_f hu,bifF]
   cases hs:stepQ k.Problem T (cutQ T (fv k.End) W) Y with
   | inl f=>
     have hk:=d2 f hs
     refine⟨toF W,Wb ?_ (by omega)⟩
     unfold adBody adaptQ
     simp only[jn_eq]
     rw[over (by omega),sbind,decide_eq_false hTE,if_neg hTE,Bool.not_false,bifT,hmay,sbind,dP_f hu,bifF]
     unfold Xg Ye
     rw[sbind,Qav,Qr9 (k:=3900) hn (by decide) (by decide) (by omega) (Vt hw.e (by decide)) (by omega),sbind,d1,hs]
     simp only[jn_eq]
     rw[sbind,Qzb hk,List.length_map,w1 (by omega)]
     simp only[Bool.not_true,Bool.not_false,bifT,bifF,sbind]
     rw[Qb4 hk]
     rfl
   | inr z=>
     obtain⟨_,_,z1,z2,z3⟩:=Qu6 hs
     have hne:=Qtc (k:=129) (l:=z.err) (by decide) z3
     have hfa:=Qrt hr (j:=2) (qw_fv v3 (by decide)) (qw_fv v4 (by decide)) (normQ z.err)
     have hml:=Qab c1 hfa
     obtain⟨n',rfl⟩:∃ q,n'=q+1:=⟨n' - 1,by omega⟩
     have hlen:(tr++[tryA k.Rules (fv k.End) T Y W z]).length=tr.length+1:=by simp
     have hgo:adBody n (k,tr.map toTryA,toF T,toR Y,toF W,⟨0,0,0,0⟩)=some (Lp.go (k,(tr++[tryA k.Rules (fv k.End) T Y W z]).map toTryA,toF (bif dP (accQ k.Rules (normQ z.err)) then T+cutQ T (fv k.End) W else T),toR (bif dP (accQ k.Rules (normQ z.err)) then z.next else Y),toF (cutQ T (fv k.End) W*factorQ k.Rules (normQ z.err)),⟨0,0,0,0⟩)):=by
      unfold adBody
      simp only[jn_eq]
      rw[over (by omega),sbind,decide_eq_false hTE,Bool.not_false,bifT,hmay,sbind]
      unfold Xg Ye
      rw[sbind,Qav,Qr9 (k:=3900) hn (by decide) (by decide) (by omega) (Vt hw.e (by decide)) (by omega),sbind,d1,hs]
      simp only[jn_eq]
      rw[sbind,Qav]
      simp only[Bool.not_true,bifF]
      rw[show(toM z).Err=toR z.err from rfl,show(toM z).Next=toR z.next from rfl,Qzs (k:=129) hn (by decide) (by decide) (Qf3 z3),sbind,Qln,Qt7 (k:=129) hn (by decide) (by decide) (Vt v1 (by decide)) hne,sbind,Wz (by simp;omega) (by simp;omega),sbind]
      unfold Qk4
      have e1:tr.map toTryA++[(⟨toF T,toF W,toF (cutQ T (fv k.End) W),toF (normQ z.err),toR Y,dP (accQ k.Rules (normQ z.err))⟩:Jf)]=(tr++[tryA k.Rules (fv k.End) T Y W z]).map toTryA:=by rw[List.map_append];rfl
      rw[e1,Qdo (k:=3900) hn (by decide) (by decide) (Ve (by omega)) (Ve hcut),Qu9 (k:=129) hn (by decide) (by decide) (λx hx=>Vt (hw.r x hx) (by decide)) hr.fine hne,sbind,sbind,Qcj (k:=3900) hn (by decide) (by decide) (Ve hcut) (Ve (by omega)),Kf,Kf,Kf]
      cases dP (accQ k.Rules (normQ z.err))
      . rfl
      . rfl
     rw[Qhf hgo]
     have hq:adaptQ k.Problem k.Rules (fv k.End) (m+1) tr T Y W=adaptQ k.Problem k.Rules (fv k.End) m (tr++[tryA k.Rules (fv k.End) T Y W z]) (bif dP (accQ k.Rules (normQ z.err)) then T+cutQ T (fv k.End) W else T) (bif dP (accQ k.Rules (normQ z.err)) then z.next else Y) (cutQ T (fv k.End) W*factorQ k.Rules (normQ z.err)):=by
      conv=>lhs;unfold adaptQ
      rw[if_neg hTE,dP_f hu,bifF,hs]
     rw[hq]
     refine ih _ _ _ _ n' (by rw[hlen];omega) (by rw[hlen];omega) (by omega) ?_ ?_ ?_ ?_
     . rw[hlen]
       show qw _≤(gA tr.length).1+(gA tr.length).2+1
       cases dP (accQ k.Rules (normQ z.err))
       . rw[bifF];omega
       . rw[bifT];omega
     . rw[hlen]
       show qw _≤max ((gA tr.length).1+3) (gA tr.length).2+3
       omega
     . cases dP (accQ k.Rules (normQ z.err))
       . exact hY
       . exact z1
     . cases dP (accQ k.Rules (normQ z.err))
       . exact hYl
       . rw[bifT,z2];exact hYl
theorem Qwu{n:Nat}{k:Jq}(hn:big≤n)(hw:TskW k)(hm:RulR k.Rules->k.Rules.Most≤12)(hyl:k.Y.length≤1000):
 Qe1 n k=some (@ite _ (TskR k) (Classical.propDecidable _) (⟨(adaptQ k.Problem k.Rules (fv k.End) k.Rules.Most.toNat [] (fv k.Start) (rv k.Y) (fv k.First)).1.1.map toTryA,toF (adaptQ k.Problem k.Rules (fv k.End) k.Rules.Most.toNat [] (fv k.Start) (rv k.Y) (fv k.First)).1.2.1,toR (adaptQ k.Problem k.Rules (fv k.End) k.Rules.Most.toNat [] (fv k.Start) (rv k.Y) (fv k.First)).1.2.2⟩,(adaptQ k.Problem k.Rules (fv k.End) k.Rules.Most.toNat [] (fv k.Start) (rv k.Y) (fv k.First)).2) (noH,⟨2,0,0,0⟩)):=by
 rw[Q53,Qis hn hw,sbind,bifnP]
 by_cases hr:TskR k
 case neg=>rw[if_neg hr,if_neg hr];rfl
 have h12:=hm hr.2.1
 have h1:=hr.2.1.most
 rw[if_pos hr,if_pos hr,Vj hn (Fk_Fw hw.s (by decide)),sbind,Qij hn,sbind,Qhk (k:=2) hn (by decide) (by decide) (Ve (by rw[Qwq];decide)) hw.y (by omega),sbind,Kf,Q3b,Vj hn (Fk_Fw hw.f (by decide)),sbind]
 obtain⟨w,hl⟩:=Q8v hn hw hr.1 hr.2.1 k.Rules.Most.toNat [] (fv k.Start) (rv k.Y) (fv k.First) n (by simp;omega) (by simp;omega) (by unfold big at hn;omega) (qw_fv hw.s (by decide)) (qw_fv hw.f (by decide)) (X6 (QR_rv hw.y (by decide)) (by decide)) (by rw[W9];exact hr.2.2.1)
 rw[List.map_nil] at hl
 rw[hl,sbind]
end Go.Proofs.YtlihkcaoachkdaaGreatDoor
