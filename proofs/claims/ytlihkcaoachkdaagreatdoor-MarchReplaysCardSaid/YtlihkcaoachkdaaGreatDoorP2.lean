import Derived.Test.YtlihkcaoachkdaaGreatDoorP1
import Derived.KernelRfl
namespace Go.Proofs.YtlihkcaoachkdaaGreatDoor
open Go Go.RowKit
def tI(x:Jp):Q2:=⟨x.Op,x.A,x.B,⟨⟨x.N.Neg,x.N.N⟩,x.N.D⟩⟩
theorem Qjd(f:Qa)(k:Nat):Ws f (k:Int)=some (!decide (f.N.length≤k∧f.D.length≤k)):=by
 unfold Ws
 simp only[jn_eq,bifd]
 by_cases h:(k:Int)<(f.N.length:Int)
 . rw[if_pos h,decide_eq_false (by omega)];rfl
 . rw[if_neg h]
   by_cases g:(k:Int)<(f.D.length:Int)
   . rw[decide_eq_true g,decide_eq_false (by omega)];rfl
   . rw[decide_eq_false g,decide_eq_true (by omega)];rfl
theorem Qum{n:Nat}{t:Jc}{many k:Nat}(hn:big≤n)(hm:many≤1000000):∃ v,Y9 n t (many:Int) (k:Int)=some v∧(v=false->t.Code.length≤many∧t.Outs.length≤many∧∀ c∈t.Code,c.N.N.length≤k∧c.N.D.length≤k):=by
 unfold Y9
 rw[Qf2 (λi=>∀ c,t.Code[i]?=some c->c.N.N.length≤k∧c.N.D.length≤k) (min t.Code.length many) (r:=true)]
 . by_cases h:∀ i,i<min t.Code.length many->∀ c,t.Code[i]?=some c->c.N.N.length≤k∧c.N.D.length≤k
   . rw[if_pos h]
     simp only[jn_eq,bifd]
     by_cases h1:(many:Int)<(t.Code.length:Int)
     . rw[if_pos h1];exact⟨true,rfl,λh=>by cases h⟩
     . rw[if_neg h1]
       refine⟨_,rfl,λhv=>⟨by omega,by have:=of_decide_eq_false hv;omega,λc hc=>?_⟩⟩
       obtain⟨i,hi⟩:=List.getElem?_of_mem hc
       exact h i (by have:=Jw hi;omega) c hi
   . rw[if_neg h];exact⟨true,rfl,λh=>by cases h⟩
 . intro i hi
   have hp:t.Code[i]?=some t.Code[i]:=List.getElem?_eq_getElem (by omega)
   generalize t.Code[i]=c at hp
   simp only[jn_eq,bifd]
   rw[if_pos (by omega),if_pos (by omega),Jd hp,sbind,Qjd,sbind]
   by_cases h:c.N.N.length≤k∧c.N.D.length≤k
   . rw[decide_eq_true h,Bool.not_true,bifF,w1 (by omega)]
     exact⟨λ_=>rfl,λg=>absurd (λd hd=>by rw[hp] at hd;cases hd;exact h) g⟩
   . rw[decide_eq_false h,Bool.not_false,bifT]
     exact⟨λg=>absurd (g c hp) h,λ_=>rfl⟩
 . simp only[jn_eq,bifd]
   by_cases h:min t.Code.length many<t.Code.length
   . rw[if_pos (by omega),if_neg (by omega)]
   . rw[if_neg (by omega),bifF]
 . unfold big at hn;omega
theorem Qyi{n:Nat}{t:Jc}(hn:big≤n)(h1:t.Code.length≤1000000)(h2:t.Outs.length≤1000000):Z8 n t=some ⟨t.Code.map tI,t.Outs,t.Dim,t.Par⟩:=by
 unfold Z8
 rw[Kf (by simp;omega) (by simp;omega),sbind]
 rw[Vs (λi=>((t.Code.take i).map tI,(i:Int))) t.Code.length (t.Code.map tI)]
 . rfl
 . intro i hi
   have hp:t.Code[i]?=some t.Code[i]:=List.getElem?_eq_getElem hi
   generalize t.Code[i]=p at hp
   simp only[bifd,Kg,sbind]
   rw[if_pos (by omega),Jd hp,sbind,Kf (by simp;omega) (by simp;omega),sbind,w1 (by omega),Xq tI hp];rfl
 . simp only[bifd];rw[if_neg (by omega),List.take_length]
 . unfold big at hn;omega
 . rfl
def tF(x:Qa):Qb:=⟨⟨x.Neg,x.N⟩,x.D⟩
theorem Qbj{n:Nat}{l:List Qa}(hn:big≤n)(h1:l.length≤1000000):Ky n l=some (l.map tF):=by
 unfold Ky
 rw[Vs (λi=>((l.take i).map tF,(i:Int))) l.length (l.map tF)]
 . intro i hi
   have hp:l[i]?=some l[i]:=List.getElem?_eq_getElem hi
   generalize l[i]=p at hp
   simp only[bifd,Kg,sbind]
   rw[if_pos (by omega),Jd hp,sbind,Kf (by simp;omega) (by simp;omega),sbind,w1 (by omega),Xq tF hp];rfl
 . simp only[bifd];rw[if_neg (by omega),List.take_length]
 . unfold big at hn;omega
 . rfl
theorem Qyj{n:Nat}{l:List (List Qa)}(hn:big≤n)(h1:l.length≤1000000)(h2:∀ r∈l,r.length≤1000000):Z7 n l=some (l.map (·.map tF)):=by
 unfold Z7
 rw[Vs (λi=>((l.take i).map (·.map tF),(i:Int))) l.length (l.map (·.map tF))]
 . intro i hi
   have hp:l[i]?=some l[i]:=List.getElem?_eq_getElem hi
   generalize l[i]=p at hp
   simp only[bifd]
   rw[if_pos (by omega),Jd hp,sbind,Qbj hn (h2 p (Jg hp)),sbind,Kf (by simp;omega) (by simp;omega),sbind,w1 (by omega),Xq (·.map tF) hp]
 . simp only[bifd];rw[if_neg (by omega),List.take_length]
 . unfold big at hn;omega
 . rfl
def FL(many k:Nat)(l:List Qa):Prop:=l.length≤many∧∀ x∈l,x.N.length≤k∧x.D.length≤k
theorem Qag{n:Nat}{l:List Qa}{many k:Nat}(hn:big≤n)(hm:many≤1000000):∃ v,Qz n l (many:Int) (k:Int)=some v∧(v=false->FL many k l):=by
 unfold Qz
 rw[Qf2 (λi=>∀ c,l[i]?=some c->c.N.length≤k∧c.D.length≤k) (min l.length many) (r:=true)]
 . by_cases h:∀ i,i<min l.length many->∀ c,l[i]?=some c->c.N.length≤k∧c.D.length≤k
   . rw[if_pos h]
     refine⟨_,rfl,λhv=>⟨by have:=of_decide_eq_false hv;omega,λc hc=>?_⟩⟩
     have:=of_decide_eq_false hv
     obtain⟨i,hi⟩:=List.getElem?_of_mem hc
     exact h i (by have:=Jw hi;omega) c hi
   . rw[if_neg h];exact⟨true,rfl,λh=>by cases h⟩
 . intro i hi
   have hp:l[i]?=some l[i]:=List.getElem?_eq_getElem (by omega)
   generalize l[i]=c at hp
   simp only[jn_eq,bifd]
   rw[if_pos (by omega),if_pos (by omega),Jd hp,sbind,Qjd,sbind]
   by_cases h:c.N.length≤k∧c.D.length≤k
   . rw[decide_eq_true h,Bool.not_true,bifF,w1 (by omega)]
     exact⟨λ_=>rfl,λg=>absurd (λd hd=>by rw[hp] at hd;cases hd;exact h) g⟩
   . rw[decide_eq_false h,Bool.not_false,bifT]
     exact⟨λg=>absurd (g c hp) h,λ_=>rfl⟩
 . simp only[jn_eq,bifd]
   by_cases h:min l.length many<l.length
   . rw[if_pos (by omega),if_neg (by omega)]
   . rw[if_neg (by omega),bifF]
 . unfold big at hn;omega
theorem Qun{n:Nat}{s:Ja}{many k:Nat}(hn:big≤n)(hm:many≤1000000):∃ v,Za n s (many:Int) (k:Int)=some v ∧
 (v=false->s.Name.length≤50∧s.A.length≤many∧FL many k s.B∧FL many k s.C∧FL many k s.E∧∀ r∈s.A,FL many k r):=by
 unfold Za
 simp only[jn_eq,bifd]
 by_cases h1:(50:Int)<(s.Name.length:Int)
 . rw[if_pos h1];exact⟨true,rfl,λh=>by cases h⟩
 rw[if_neg h1]
 by_cases h2:(many:Int)<(s.A.length:Int)
 . rw[if_pos h2];exact⟨true,rfl,λh=>by cases h⟩
 rw[if_neg h2]
 obtain⟨b,e1,e2⟩:=Qag (l:=s.B) (k:=k) hn hm
 rw[e1,sbind]
 cases b
 case true=>exact⟨true,rfl,λh=>by cases h⟩
 rw[bifF]
 obtain⟨c,e3,e4⟩:=Qag (l:=s.C) (k:=k) hn hm
 rw[e3,sbind]
 cases c
 case true=>exact⟨true,rfl,λh=>by cases h⟩
 rw[bifF]
 obtain⟨e,e5,e6⟩:=Qag (l:=s.E) (k:=k) hn hm
 rw[e5,sbind]
 cases e
 case true=>exact⟨true,rfl,λh=>by cases h⟩
 rw[bifF]
 have hb:∀ r,∃ v,Qz n r (many:Int) (k:Int)=some v∧(v=false->FL many k r):=λr=>Qag hn hm
 have hl:=Qf2 (f:=λ(s28:Int)=>
  if s28<(s.A.length:Int) then (
   (getI s.A s28).bind λy29=>
   (Qz n y29 (many:Int) (k:Int)).bind λr31=>
   bif r31 then (
    some (Lp.out (Lp.out (true))))
   else (
    some (Lp.go (wrap64 (s28+(1:Int))))))
  else (
   some (Lp.out (Lp.go ())))) (n:=n) (K:=λ(_:Unit)=>some false) (r:=true) (λi=>∀ r,s.A[i]?=some r->Qz n r (many:Int) (k:Int)=some false) s.A.length (λi hi=>by
  have hp:s.A[i]?=some s.A[i]:=List.getElem?_eq_getElem hi
  generalize s.A[i]=r at hp
  obtain⟨v,g1,g2⟩:=hb r
  rw[if_pos (by omega),Jd hp,sbind,g1,sbind]
  cases v
  . rw[bifF,w1 (by omega)]
    exact⟨λ_=>rfl,λg=>absurd (λd hd=>by rw[hp] at hd;cases hd;exact g1) g⟩
  . rw[bifT]
    exact⟨λg=>(by have:=g r hp;rw[g1] at this;cases this),λ_=>rfl⟩) (by rw[if_neg (by omega)]) (by unfold big at hn;omega)
 rw[hl]
 by_cases h:∀ i,i<s.A.length->∀ r,s.A[i]?=some r->Qz n r (many:Int) (k:Int)=some false
 . rw[if_pos h]
   refine⟨false,rfl,λ_=>⟨by omega,by omega,e2 rfl,e4 rfl,e6 rfl,λr hr=>?_⟩⟩
   obtain⟨i,hi⟩:=List.getElem?_of_mem hr
   obtain⟨v,g1,g2⟩:=hb r
   have:=h i (Jw hi) r hi
   rw[g1] at this
   exact g2 (Option.some.inj this)
 . rw[if_neg h];exact⟨true,rfl,λh=>by cases h⟩
theorem Qup{n:Nat}{p:Qt}{a b k:Nat}(hn:big≤n)(ha:a≤1000000)(hb:b≤1000000):∃ v,Zb n p (a:Int) (b:Int) (k:Int)=some v ∧
 (v=false->(p.Tape.Code.length≤a∧p.Tape.Outs.length≤a∧∀ c∈p.Tape.Code,c.N.N.length≤k∧c.N.D.length≤k)∧(p.Scheme.Name.length≤50∧p.Scheme.A.length≤b∧FL b 4 p.Scheme.B∧FL b 4 p.Scheme.C∧FL b 4 p.Scheme.E∧∀ r∈p.Scheme.A,FL b 4 r)∧FL 6 k p.P):=by
 unfold Zb
 simp only[jn_eq]
 obtain⟨u,e1,e2⟩:=Qum (t:=p.Tape) (k:=k) hn ha
 rw[e1,sbind]
 cases u
 case true=>exact⟨true,rfl,λh=>by cases h⟩
 rw[bifF]
 obtain⟨u,e3,e4⟩:=Qun (s:=p.Scheme) (k:=4) hn hb
 rw[show((4:Nat):Int)=4 from rfl] at e3
 rw[e3,sbind]
 cases u
 case true=>exact⟨true,rfl,λh=>by cases h⟩
 rw[bifF]
 obtain⟨u,e5,e6⟩:=Qag (l:=p.P) (many:=6) (k:=k) hn (by decide)
 rw[show((6:Nat):Int)=6 from rfl] at e5
 rw[e5,sbind]
 exact⟨u,rfl,λh=>⟨e2 rfl,e4 rfl,e6 h⟩⟩
def tS(s:Ja):Qr:=⟨s.Name,s.C.map tF,s.A.map (·.map tF),s.B.map tF,s.E.map tF⟩
def tT(t:Jc):Q0:=⟨t.Code.map tI,t.Outs,t.Dim,t.Par⟩
def tP(p:Qt):Qs:=⟨tT p.Tape,tS p.Scheme,p.P.map tF,p.Bits⟩
theorem Qyk{n:Nat}{p:Qt}(hn:big≤n)(h1:p.Tape.Code.length≤1000000)(h2:p.Tape.Outs.length≤1000000)(h3:p.Scheme.A.length≤1000000)(h4:p.Scheme.B.length≤1000000)(h5:p.Scheme.C.length≤1000000)(h6:p.Scheme.E.length≤1000000)
 (h7:∀ r∈p.Scheme.A,r.length≤1000000) (h8:p.P.length≤1000000):Z9 n p=some (tP p):=by
 unfold Z9 Qbp
 rw[Qyi hn h1 h2,sbind,Qbj hn h5,sbind,Qyj hn h3 h7,sbind,Qbj hn h4,sbind,Qbj hn h6,sbind,sbind,Qbj hn h8,sbind]
 rfl
def rR(l:List Rat):List Qa:=l.map rF
theorem Km(l:List Rat):(rR l).length=l.length:=by unfold rR;simp
theorem Qf3{l:List Rat}{i:Nat}{q:Rat}(h:l[i]?=some q):(rR l)[i]?=some (rF q):=by unfold rR;rw[List.getElem?_map,h];rfl
theorem Qlp(l:List Rat)(q:Rat):rR (l++[q])=rR l++[rF q]:=by unfold rR;simp
theorem Qa5{α:Type}{l:List α}{i:Nat}{x:α}(h:l[i]?=some x):l.take (i+1)=l.take i++[x]:=by rw[List.take_add_one,h];rfl
def FRr(k:Nat)(l:List Qa):Prop:=∀ f∈l,Wd f.N∧Wd f.D∧f.N.length≤k∧f.D.length≤k
def rvr(l:List Qa):List Rat:=l.map fr
theorem Qb1(l:List Qa):(rvr l).length=l.length:=by unfold rvr;simp
theorem fr_tF(f:Qa):fv (tF f)=fr f:=rfl
theorem Qf4(l:List Qa):rv (l.map tF)=rvr l:=by unfold rv rvr;rw[List.map_map];rfl
theorem Q4p(l:List Rat):rvr (rR l)=l:=by
 unfold rvr rR
 rw[List.map_map]
 conv=>rhs;rw[←List.map_id l]
 exact List.map_congr_left λq _=>fr_rF q
theorem qw_fr{f:Qa}{k:Nat}(h:Wd f.N∧Wd f.D∧f.N.length≤k∧f.D.length≤k)(h1:1≤k):qw (fr f)≤k:=by
 rw[←fr_tF];exact qw_fv ⟨h.1,h.2.2.1,h.2.1,h.2.2.2⟩ h1
theorem Qkg{k:Nat}{l:List Qa}(h:FRr k l)(h1:1≤k):QR k (rvr l):=λq hq=>by
 obtain⟨f,hf,rfl⟩:=List.mem_map.1 hq
 exact qw_fr (h f hf) h1
theorem Qel{n k:Nat}{l:List Qa}(hn:big≤n)(hk:k<1099511627776)(h:FRr k l)(hl:l.length≤1000000):K6 n l=some (rR (rvr l)):=by
 unfold K6
 rw[Vs (λi=>(rR (rvr (l.take i)),(i:Int))) l.length (rR (rvr l))]
 . intro i hi
   have hp:l[i]?=some l[i]:=List.getElem?_eq_getElem hi
   have hf:=h l[i] (List.getElem_mem hi)
   generalize l[i]=p at hp hf
   simp only[bifd]
   have e:rvr (l.take (i+1))=rvr (l.take i)++[fr p]:=by rw[Qa5 hp];unfold rvr;simp
   rw[if_pos (by omega),Jd hp,sbind,Xd hn hf.1 hf.2.1 (by omega) (by omega),sbind,Kf (by simp[Km,Qb1];omega) (by simp[Km,Qb1];omega),sbind,w1 (by omega),e,Qlp]
 . simp only[bifd];rw[if_neg (by omega),List.take_length]
 . unfold big at hn;omega
 . rfl
open Classical in
theorem Quq{n:Nat}{a b:List Qa}(hn:big≤n)(hl:a.length≤1000000)(h:∀ f∈a,f.N.length≤4611686018427387904∧f.D.length≤4611686018427387904):Vu n a b=some (decide (a=b)):=by
 unfold Vu
 by_cases hab:a.length=b.length
 . rw[decide_eq_true (show(a.length:Int)=(b.length:Int) by omega),Bool.not_true,bifF]
   rw[Qf2 (λi=>a[i]?=b[i]?) a.length (r:=false)]
   . have e:(∀ i,i<a.length->a[i]?=b[i]?)↔a=b:=by
      constructor
      . intro g
        refine List.ext_getElem? λi=>?_
        rcases Nat.lt_or_ge i a.length with hi | hi
        . exact g i hi
        . rw[List.getElem?_eq_none hi,List.getElem?_eq_none (by omega)]
      . rintro rfl i _;rfl
     by_cases g:a=b
     . rw[if_pos (e.2 g),decide_eq_true g]
     . rw[if_neg (λh=>g (e.1 h)),decide_eq_false g]
   . intro i hi
     have hp:a[i]?=some a[i]:=List.getElem?_eq_getElem hi
     have hp2:b[i]?=some (b[i]'(by omega)):=List.getElem?_eq_getElem (by omega)
     have hf:=h a[i] (List.getElem_mem hi)
     generalize a[i]=x at hp hf
     generalize b[i]'(by omega)=y at hp2
     simp only[bifd]
     rw[if_pos (by omega),Jd hp,sbind,Jd hp2,sbind,Qfb hn hf.1 hf.2,sbind,hp,hp2,w1 (by omega)]
     constructor
     . intro g;rw[decide_eq_true (Option.some.inj g)];rfl
     . intro g;rw[decide_eq_false (λh=>g (by rw[h]))];rfl
   . simp only[bifd];rw[if_neg (by omega)]
   . unfold big at hn;omega
 . rw[decide_eq_false (show ¬(a.length:Int)=(b.length:Int) by omega),Bool.not_false,bifT,decide_eq_false]
   intro g;exact hab (by rw[g])
theorem Qwi{q:Rat}{k:Nat}(h:qw q≤k):(rF q).N.length≤k∧(rF q).D.length≤k:=by
 have:=Qcc q;have:=Qcd q
 exact⟨by show(toL q.num.natAbs).length≤k;omega,by show(toL q.den).length≤k;omega⟩
def oF(x:Qb):Qa:=⟨x.Num.Neg,x.Num.Abs,x.Den⟩
theorem Q4q(q:Rat):oF (toF q)=rF q:=rfl
theorem Q4r(l:List Rat):(toR l).map oF=rR l:=by unfold toR rR;rw[List.map_map];rfl
theorem Qk0(x:Qb):Vq x=some (oF x):=rfl
theorem Qqm{n:Nat}{l:List Qb}(hn:big≤n)(h1:l.length≤1000000):Yo n l=some (l.map oF):=by
 unfold Yo
 rw[Vs (λi=>((l.take i).map oF,(i:Int))) l.length (l.map oF)]
 . intro i hi
   have hp:l[i]?=some l[i]:=List.getElem?_eq_getElem hi
   generalize l[i]=p at hp
   simp only[bifd,Qk0,sbind]
   rw[if_pos (by omega),Jd hp,sbind,Kf (by simp;omega) (by simp;omega),sbind,w1 (by omega),Xq oF hp]
 . simp only[bifd];rw[if_neg (by omega),List.take_length]
 . unfold big at hn;omega
 . rfl
theorem Q4s{many k:Nat}{l:List Qa}(hB:J2 l)(h:FL many k l):FRr k l:=λx hx=>by
 have hb:=hB.2 x hx
 have:=h.2 x hx
 exact⟨hb.2.1.2,hb.2.2.1.2,this.1,this.2⟩
theorem Qwj{n k:Nat}{a:List Rat}(hn:big≤n)(hk:k<274877906944)(h1:1≤k)(ha:QR k a)(hl2:a.length≤1000000):W8 n (rR a)=some (rF (normQ a)):=by
 unfold W8
 rw[Qce hn,sbind]
 have hq:∀(l:List Rat) (b:Rat),QR k l->qw b≤k->qw (l.foldl (λb x=>maxQ b (absQ x)) b)≤k:=by
  intro l
  induction l with
  | nil=>intro b _ hb;exact hb
  | cons x l ih=>intro b hl hb;exact ih _ (λq hq=>hl q (.tail _ hq)) (Q0l hb (by rw[Qro];exact hl x (.head _)))
 rw[Vs (λi=>(rF (normQ (a.take i)),(i:Int))) a.length (rF (normQ a))]
 . intro i hi
   have hp:a[i]?=some a[i]:=List.getElem?_eq_getElem hi
   have q1:=ha a[i] (List.getElem_mem hi)
   generalize a[i]=x at hp q1
   simp only[bifd,jn_eq]
   have e:normQ (a.take (i+1))=maxQ (normQ (a.take i)) (absQ x):=by
    rw[Qa5 hp];unfold normQ;rw[List.foldl_append];rfl
   have hb:qw (normQ (a.take i))≤k:=hq _ _ (λq hq=>ha q (List.mem_of_mem_take hq)) (by rw[Qau];exact h1)
   rw[if_pos (by rw[Km];omega),Jd (Qf3 hp),sbind,Qwf,sbind,Qwg hn hk (by rw[Qro];exact q1) hb,sbind,w1 (by omega),e]
   generalize normQ (a.take i)=b
   generalize absQ x=y
   unfold maxQ
   by_cases h:0<(y - b).num.sign
   . rw[if_pos h,if_pos h]
   . rw[if_neg h,if_neg h]
 . simp only[bifd];rw[if_neg (by rw[Km];omega),List.take_length]
 . unfold big at hn;omega
 . rfl
theorem Qmg{α:Type}{l:List α}{P:α->Prop}:(∀(i:Nat) x,l[i]?=some x->P x)↔∀ a∈l,P a:=by
 constructor
 . intro h a ha
   obtain⟨j,hj⟩:=List.getElem?_of_mem ha
   exact h j a hj
 . intro h i x hx;exact h x (Jg hx)
noncomputable def dP(p:Prop):Bool:=@decide p (Classical.propDecidable p)
theorem decP{p:Prop}[Decidable p]:decide p=dP p:=by unfold dP;congr
theorem dP_t{p:Prop}(h:p):dP p=true:=by unfold dP;exact @decide_eq_true p (Classical.propDecidable p) h
theorem dP_f{p:Prop}(h:¬ p):dP p=false:=by unfold dP;exact @decide_eq_false p (Classical.propDecidable p) h
theorem dP_c{p q:Prop}(h:p↔q):dP p=dP q:=by rw[show p=q from propext h]
theorem Q4t{p:Prop}:dP p=true↔p:=⟨λh=>by by_cases hp:p;exact hp;rw[dP_f hp] at h;exact absurd h (by decide),dP_t⟩
theorem Qaw{p q:Prop}[Decidable p](h:p↔q):some (decide p)=some (dP q):=by rw[decP,dP_c h]
theorem Qwk{p q:Prop}(h:p↔q):some (dP p)=some (dP q):=by rw[dP_c h]
theorem Qe6{p q r:Prop}[Decidable p][Decidable q](h:p∧q↔r):(if p then some (decide q) else some false)=some (dP r):=by
 by_cases hp:p
 . rw[if_pos hp];exact Qaw ⟨λhq=>h.1 ⟨hp,hq⟩,λhr=>(h.2 hr).2⟩
 . rw[if_neg hp,dP_f λhr=>hp (h.2 hr).1]
theorem Q84{p q r:Prop}[Decidable p](h:p∧q↔r):(if p then some (dP q) else some false)=some (dP r):=by
 by_cases hp:p
 . rw[if_pos hp];exact Qwk ⟨λhq=>h.1 ⟨hp,hq⟩,λhr=>(h.2 hr).2⟩
 . rw[if_neg hp,dP_f λhr=>hp (h.2 hr).1]
def blankF(f:Qb):Prop:=f.Num.Neg=false∧f.Num.Abs=[]∧f.Den=[]
theorem Qur(f:Qb):Qfu f=some (dP (blankF f)):=by
 unfold Qfu blankF
 obtain⟨⟨s,a⟩,d⟩:=f
 simp only[jn_eq]
 cases s
 . simp only[Bool.not_false,bifT,bifd]
   refine Qe6 ⟨λh=>⟨trivial,List.eq_nil_of_length_eq_zero (by omega),List.eq_nil_of_length_eq_zero (by omega)⟩,λh=>?_⟩
   obtain⟨_,rfl,rfl⟩:=h
   exact⟨rfl,rfl⟩
 . simp only[Bool.not_true,bifF]
   rw[dP_f λh=>by cases h.1]
theorem bifP{α:Type}(p:Prop)(a b:α):(bif dP p then a else b)=@ite _ p (Classical.propDecidable p) a b:=by
 by_cases h:p
 . rw[dP_t h,if_pos h];rfl
 . rw[dP_f h,if_neg h];rfl
theorem bifnP{α:Type}(p:Prop)(a b:α):(bif !dP p then a else b)=@ite _ p (Classical.propDecidable p) b a:=by
 by_cases h:p
 . rw[dP_t h,if_pos h];rfl
 . rw[dP_f h,if_neg h];rfl
def mayR(t:Q0)(i:Nat)(x:Q2):Prop:=
 if x.Op=1 then x.A=0∧x.B=0∧x.N=toF (fv x.N) else
 blankF x.N∧(∀ r∈rdT x,0≤r∧r<(i:Int)) ∧
 if x.Op=2 then x.A=0∧x.B=0 else if x.Op=3 then (0≤x.A∧x.A<t.Dim)∧x.B=0 else if x.Op=4 then (0≤x.A∧x.A<t.Par)∧x.B=0 else
 if x.Op=6 then x.B=0 else if x.Op=11 then -8≤x.B∧x.B≤8 else (rdT x).length=2
theorem Qyl{n:Nat}{t:Q0}{i:Nat}{x:Q2}(hn:big≤n)(ht:Fw x.N)(hx:t.Code[i]?=some x):Qga n t (i:Int)=some (dP (mayR t i x)):=by
 unfold Qga mayR
 rw[Jd hx,sbind,bifd]
 by_cases h1:x.Op=1
 . have e1:(if x.Op=1 then x.A=0∧x.B=0∧x.N=toF (fv x.N) else blankF x.N∧(∀ r∈rdT x,0≤r∧r<(i:Int)) ∧
    if x.Op=2 then x.A=0∧x.B=0 else if x.Op=3 then (0≤x.A∧x.A<t.Dim)∧x.B=0 else if x.Op=4 then (0≤x.A∧x.A<t.Par)∧x.B=0 else
    if x.Op=6 then x.B=0 else if x.Op=11 then -8≤x.B∧x.B≤8 else (rdT x).length=2)=(x.A=0∧x.B=0∧x.N=toF (fv x.N)):=if_pos h1
   simp only[e1]
   rw[if_pos h1]
   have hR:=Qi7 hn ht
   simp only[jn_eq,Qhp,sbind]
   have e2:Qar (⟨x.Op,x.A,x.B⟩:J6) ⟨1,0,0⟩=decide (x.A=0∧x.B=0):=by
    unfold Qar
    simp only[h1]
    by_cases a:x.A=0<;>by_cases b:x.B=0<;>simp[a,b]
   rw[e2,hR,sbind,bifd]
   rw[@decP _ (Classical.propDecidable _)]
   refine Q84 ⟨λh=>⟨h.1.1,h.1.2,h.2⟩,λh=>⟨⟨h.1,h.2.1⟩,h.2.2⟩⟩
 . have e1:(if x.Op=1 then x.A=0∧x.B=0∧x.N=toF (fv x.N) else blankF x.N∧(∀ r∈rdT x,0≤r∧r<(i:Int)) ∧
    if x.Op=2 then x.A=0∧x.B=0 else if x.Op=3 then (0≤x.A∧x.A<t.Dim)∧x.B=0 else if x.Op=4 then (0≤x.A∧x.A<t.Par)∧x.B=0 else
    if x.Op=6 then x.B=0 else if x.Op=11 then -8≤x.B∧x.B≤8 else (rdT x).length=2)=(blankF x.N∧(∀ r∈rdT x,0≤r∧r<(i:Int)) ∧
    if x.Op=2 then x.A=0∧x.B=0 else if x.Op=3 then (0≤x.A∧x.A<t.Dim)∧x.B=0 else if x.Op=4 then (0≤x.A∧x.A<t.Par)∧x.B=0 else
    if x.Op=6 then x.B=0 else if x.Op=11 then -8≤x.B∧x.B≤8 else (rdT x).length=2):=if_neg h1
   simp only[e1]
   rw[if_neg h1,Qur,sbind,bifnP]
   by_cases hb:blankF x.N
   . rw[if_pos hb,Qnl,sbind,Qc1 (λ_ (r:Int)=>0≤r∧r<(i:Int)) (r:=false)]
     . rw[Qmg]
       by_cases hr:∀ r∈rdT x,0≤r∧r<(i:Int)
       . rw[if_pos hr]
         have fin:∀ {o:Option Bool}{p:Prop},o=some (dP p)->o=some (dP (blankF x.N∧(∀ r∈rdT x,0≤r∧r<(i:Int))∧p)):=λh=>h.trans (Qwk ⟨λg=>⟨hb,hr,g⟩,λg=>g.2.2⟩)
         refine fin ?_
         simp only[jn_eq,Qhp,sbind,Qfc,Qnl,bifd]
         by_cases g2:x.Op=2
         . simp only[if_pos g2]
           refine congrArg some ?_
           unfold Qar
           simp only[g2]
           rw[←decP]
           by_cases a:x.A=0<;>by_cases b:x.B=0<;>simp[a,b]
         simp only[if_neg g2]
         by_cases g3:x.Op=3
         . simp only[if_pos g3];exact Qe6 Iff.rfl
         simp only[if_neg g3]
         by_cases g4:x.Op=4
         . simp only[if_pos g4];exact Qe6 Iff.rfl
         simp only[if_neg g4]
         by_cases g6:x.Op=6
         . simp only[if_pos g6];exact Qaw Iff.rfl
         simp only[if_neg g6]
         by_cases g11:x.Op=11
         . simp only[if_pos g11];exact Qe6 Iff.rfl
         simp only[if_neg g11]
         exact Qaw (by omega)
       . rw[if_neg hr,dP_f λh=>hr h.2.1]
     . intro j r _
       simp only[Qfc,sbind]
       constructor
       . intro h;rw[decide_eq_true h];rfl
       . intro h;rw[decide_eq_false h];rfl
   . rw[if_neg hb,dP_f λh=>hb h.1]
def wholeR(t:Q0):Prop:=(1≤t.Dim∧t.Dim≤6)∧(0≤t.Par∧t.Par≤6)∧(t.Outs.length:Int)=t.Dim∧t.Code.length≤300
def tapeR(t:Q0):Prop:=wholeR t∧(∀(i:Nat) x,t.Code[i]?=some x->mayR t i x)∧∀ o∈t.Outs,0≤o∧o<(t.Code.length:Int)
theorem Qus(t:Q0)(h:-9223372036854775808≤t.Dim∧t.Dim≤9223372036854775807):Qft t=some (dP (wholeR t)):=by
 unfold Qft wholeR
 simp only[jn_eq,Qfc,sbind,bifd]
 have hw:(0≤wrap64 (t.Dim - 1)∧wrap64 (t.Dim - 1)<6)↔(0≤t.Dim - 1∧t.Dim - 1<6):=by unfold wrap64;omega
 by_cases g1:0≤t.Dim - 1∧t.Dim - 1<6
 . rw[if_pos (hw.2 g1)]
   by_cases g2:0≤t.Par∧t.Par<7
   . rw[if_pos g2]
     by_cases g3:(t.Outs.length:Int)=t.Dim
     . rw[if_pos g3];exact Qaw (by omega)
     . rw[if_neg g3,dP_f (by omega)]
   . rw[if_neg g2,dP_f (by omega)]
 . rw[if_neg (λh=>g1 (hw.1 h)),dP_f (by omega)]
theorem Q25{R:Type}{f:Nat->Q2->Unit->Option (Lp Unit R)}{K:Unit->Option R}{xs:List Q2}(P:Nat->Q2->Prop)(r:Nat->R)
 (hb:∀ i x,xs[i]?=some x->(P i x->f i x ()=some (.go ()))∧(¬ P i x->f i x ()=some (.out (r i)))) :
 ((∀(i:Nat) x,xs[i]?=some x->P i x)∧(rangeL f xs 0 ()).bind (lpK K)=K ())∨(¬(∀(i:Nat) x,xs[i]?=some x->P i x)∧∃ j,(rangeL f xs 0 ()).bind (lpK K)=some (r j)):=by
 have key:∀(xs:List Q2) (k:Nat),(∀ i x,xs[i]?=some x->(P (k+i) x->f (k+i) x ()=some (.go ()))∧(¬ P (k+i) x->f (k+i) x ()=some (.out (r (k+i))))) →
  ((∀(i:Nat) x,xs[i]?=some x->P (k+i) x)∧(rangeL f xs k ()).bind (lpK K)=K ())∨(¬(∀(i:Nat) x,xs[i]?=some x->P (k+i) x)∧∃ j,(rangeL f xs k ()).bind (lpK K)=some (r j)):=by
  intro xs
  induction xs with
  | nil=>intro k _;exact .inl ⟨λi x h=>by simp at h,rfl⟩
  | cons x xs ih=>
    intro k hb
    have h0:=hb 0 x rfl
    simp only[Nat.add_zero] at h0
    by_cases hp:P k x
    . have:=ih (k+1) (λi y hy=>by have:=hb (i+1) y (by simpa using hy);rw[show k+(i+1)=k+1+i by omega] at this;exact this)
      simp only[rangeL,h0.1 hp,sbind]
      rcases this with ⟨h3,h4⟩ | ⟨h3,h4⟩
      . refine .inl ⟨λi y hy=>?_,h4⟩
        cases i with
        | zero=>simp at hy;subst hy;exact hp
        | succ i=>rw[show k+(i+1)=k+1+i by omega];exact h3 i y (by simpa using hy)
      . refine .inr ⟨λh=>h3 λi y hy=>?_,h4⟩
        have:=h (i+1) y (by simpa using hy)
        rwa [show k+(i+1)=k+1+i by omega] at this
    . refine .inr ⟨λh=>hp (h 0 x rfl),k,?_⟩
      simp only[rangeL,h0.2 hp,sbind];rfl
 have:=key xs 0 (λi x hx=>by rw[Nat.zero_add];exact hb i x hx)
 simp only[Nat.zero_add] at this
 exact this
theorem Qnm{n:Nat}{t:Q0}(hn:big≤n)(ht:TW t)(hd:-9223372036854775808≤t.Dim∧t.Dim≤9223372036854775807):Z6 n t=some (dP (tapeR t)):=by
 unfold Z6 Qic
 rw[Qus t hd,sbind,bifnP]
 by_cases hw:wholeR t
 . rw[if_pos hw]
   have key:=Q25 (K:=λ(_:Unit)=>(rangeL (λ(_:Nat) (x26:Int) (_:Unit)=>
    (Yg x26 (t.Code.length:Int)).bind λr28=>
    bif !r28 then (
     some (Lp.out ((t.Code.length:Int))))
    else (
     some (Lp.go ()))) t.Outs 0 ()).bind (lpK λ(_:Unit)=>
   some (-1:Int))) (f:=λ(i11:Nat) (_:Q2) (_:Unit)=>
    (Qga n t (i11:Int)).bind λr14=>
    bif !r14 then (
     some (Lp.out ((i11:Int))))
    else (
     some (Lp.go ()))) (xs:=t.Code) (λi x=>mayR t i x) (λi=>(i:Int)) (λi x hx=>by
    rw[Qyl hn (ht x (Jg hx)) hx,sbind]
    constructor
    . intro h;rw[dP_t h];rfl
    . intro h;rw[dP_f h];rfl)
   rcases key with ⟨k1,k2⟩ | ⟨k1,j,k2⟩
   . rw[k2,Qc1 (λ_ (o:Int)=>0≤o∧o<(t.Code.length:Int)) (r:=(t.Code.length:Int))]
     . rw[Qmg]
       by_cases ho:∀ o∈t.Outs,0≤o∧o<(t.Code.length:Int)
       . rw[if_pos ho,sbind];exact Qaw ⟨λ_=>⟨hw,k1,ho⟩,λ_=>rfl⟩
       . rw[if_neg ho,sbind];exact Qaw ⟨λh=>by omega,λh=>absurd h.2.2 ho⟩
     . intro i o _
       simp only[Qfc,sbind]
       constructor
       . intro h;rw[decide_eq_true h];rfl
       . intro h;rw[decide_eq_false h];rfl
   . rw[k2,sbind];exact Qaw ⟨λh=>by omega,λh=>absurd h.2.1 k1⟩
 . rw[if_neg hw,sbind];exact Qaw ⟨λh=>by omega,λh=>absurd h.1 hw⟩
theorem Qa6(f:Qe):Q9 f f=true:=by simp[Q9]
theorem Qec{k a b c:Int}(h:k≠0):Q9 ⟨k,a,b,c⟩ ⟨0,0,0,0⟩=false:=by
 unfold Q9
 rw[show(k == 0)=false by simpa using h];rfl
def noteG(g:Qo)(q:Rat):Qo:=⟨⟨wrap64 (g.Count.Seen+1),max g.Count.Peak (qz q:Int)⟩,g.limit⟩
theorem Qxm{n:Nat}{g:Qo}{q:Rat}(hn:big≤n)(hq:qw q<1099511627776):W1 n g (toF q)=some (decide ((qz q:Int)≤g.limit),noteG g q):=by
 unfold W1 Qa7
 rw[Qnc hn hq,sbind,sbind];rfl
def fitQ(lim:Int):List Rat->Nat->Option Nat
 | [],_=>none
 | q::l,i=>if (qz q:Int)≤lim then fitQ lim l (i+1) else some i
theorem Q5z{n:Nat}{g:Qo}{l:List Rat}(hn:big≤n)(hl:QR 1099511627775 l):
 ∃ g',g'.limit=g.limit∧Z4 n g (toR l)=some (match fitQ g.limit l 0 with | none=>((l.length:Int),true,g') | some i=>((i:Int),false,g')):=by
 unfold Z4
 have key:∀(l:List Rat) (i:Nat) (g:Qo) (K:Qo->Option (Int×Bool×Qo)),QR 1099511627775 l->∃ g',g'.limit=g.limit ∧
  (rangeL (λ(i15:Nat) (x16:Qb) (s14:Qo)=>
   (W1 n s14 x16).bind λr18=>
   bif !r18.1 then (some (Lp.out (((i15:Int),false,r18.2)))) else (some (Lp.go r18.2))) (toR l) i g).bind (lpK K)=match fitQ g.limit l i with | none=>K g' | some i=>some ((i:Int),false,g'):=by
  intro l
  induction l with
  | nil=>intro i g K _;exact⟨g,rfl,rfl⟩
  | cons q l ih=>
    intro i g K hl
    simp only[toR,List.map_cons,rangeL,fitQ]
    rw[Qxm hn (by have:=hl q (.head _);omega),sbind]
    simp only[]
    by_cases h:(qz q:Int)≤g.limit
    . rw[decide_eq_true h,if_pos h,Bool.not_true,bifF,sbind]
      obtain⟨g',h1,h2⟩:=ih (i+1) (noteG g q) K λx hx=>hl x (.tail _ hx)
      exact⟨g',h1,h2⟩
    . rw[decide_eq_false h,if_neg h,Bool.not_false,bifT,sbind]
      exact⟨noteG g q,rfl,rfl⟩
 obtain⟨g',h1,h2⟩:=key l 0 g (λs20=>some (((toR l).length:Int),true,s20)) hl
 refine⟨g',h1,?_⟩
 rw[h2,Wx]
 cases fitQ g.limit l 0<;>rfl
def opQ(x:Q2)(T:Rat)(Y P done:List Rat):Option Rat:=
 if x.Op=6 then some (-done.getD x.A.toNat 0) else
 if x.Op=11 then (if x.B < -8∨8<x.B∨(x.B<0∧done.getD x.A.toNat 0=0) then none else some (done.getD x.A.toNat 0 ^ x.B)) else
 if x.Op=7 then some (done.getD x.A.toNat 0+done.getD x.B.toNat 0) else
 if x.Op=8 then some (done.getD x.A.toNat 0 - done.getD x.B.toNat 0) else
 if x.Op=9 then some (done.getD x.A.toNat 0*done.getD x.B.toNat 0) else
 if x.Op=10 then (if done.getD x.B.toNat 0=0 then none else some (done.getD x.A.toNat 0 / done.getD x.B.toNat 0)) else
 if x.Op=1 then some (fv x.N) else
 if x.Op=3 then some (Y.getD x.A.toNat 0) else
 if x.Op=4 then some (P.getD x.A.toNat 0) else some T
def runQ(lim:Int)(T:Rat)(Y P:List Rat):List Q2->Nat->List Rat->(Int×Nat) ⊕ List Rat
 | [],_,done=>.inr done
 | x::c,i,done=>match opQ x T Y P done with
   | none=>.inl (3,i)
   | some q=>if (qz q:Int)≤lim then runQ lim T Y P c (i+1) (done++[q]) else .inl (6,i)
theorem Qmh{l:List Rat}{r:Int}(h1:0≤r)(h2:r<(l.length:Int)):getI (toR l) r=some (toF (l.getD r.toNat 0)):=by
 obtain⟨k,rfl⟩:∃ k:Nat,r=(k:Int):=⟨r.toNat,by omega⟩
 have hk:k<l.length:=by omega
 rw[Qcw,Int.toNat_natCast]
 unfold toR
 rw[List.getElem?_map,List.getElem?_eq_getElem hk,List.getD_eq_getElem?_getD,List.getElem?_eq_getElem hk];rfl
theorem Qb2{k:Nat}{l:List Rat}{i:Nat}(h:QR k l)(h1:1≤k):qw (l.getD i 0)≤k:=by
 rw[List.getD_eq_getElem?_getD]
 rcases Nat.lt_or_ge i l.length with hi | hi
 . rw[List.getElem?_eq_getElem hi];exact h _ (List.getElem_mem hi)
 . rw[List.getElem?_eq_none hi];show qw 0≤k;rw[Qau];exact h1
theorem rdT_A{x:Q2}(h:x.Op=6∨x.Op=11∨x.Op=7∨x.Op=8∨x.Op=9∨x.Op=10):x.A∈rdT x:=by
 unfold rdT
 by_cases a:x.Op=6∨x.Op=11
 . rw[if_pos a];simp
 . rw[if_neg a,if_pos (by omega)];simp
theorem rdT_B{x:Q2}(h:x.Op=7∨x.Op=8∨x.Op=9∨x.Op=10):x.B∈rdT x:=by
 unfold rdT
 rw[if_neg (by omega),if_pos (by omega)];simp
theorem Q13{t:Q0}{i:Nat}{x:Q2}(h:mayR t i x):∀ r∈rdT x,0≤r∧r<(i:Int):=by
 unfold mayR at h
 by_cases h1:x.Op=1
 . intro r hr
   unfold rdT at hr
   rw[if_neg (by omega),if_neg (by omega)] at hr;cases hr
 . rw[if_neg h1] at h;exact h.2.1
theorem Q4u{t:Q0}{i:Nat}{x:Q2}(h:mayR t i x)(h3:x.Op=3):0≤x.A∧x.A<t.Dim:=by
 unfold mayR at h
 rw[if_neg (by omega),if_neg (by omega),if_pos h3] at h;exact h.2.2.1
theorem Q4v{t:Q0}{i:Nat}{x:Q2}(h:mayR t i x)(h3:x.Op=4):0≤x.A∧x.A<t.Par:=by
 unfold mayR at h
 rw[if_neg (by omega),if_neg (by omega),if_neg (by omega),if_pos h3] at h;exact h.2.2.1
theorem Q26{n k:Nat}{g:Qo}{t:Q0}{x:Q2}{T:Rat}{Y P done:List Rat}(hn:big≤n)(h1:1≤k)(hk:k<1048576)(hx:mayR t done.length x)(hN:Fk k x.N)
 (hT:qw T≤k) (hY:QR k Y) (hP:QR k P) (hD:QR k done) (hy:(Y.length:Int)=t.Dim) (hp:(P.length:Int)=t.Par) :
 ∃ v,J0 n g x ⟨toF T,toR Y,toR P⟩ (toR done)=some (match opQ x T Y P done with | none=>(v,false) | some q=>(toF q,true))∧∀ q,opQ x T Y P done=some q->qw q≤8*k+1:=by
 unfold J0 opQ
 have rd:=Q13 hx
 have dA:x.Op=6∨x.Op=11∨x.Op=7∨x.Op=8∨x.Op=9∨x.Op=10->getI (toR done) x.A=some (toF (done.getD x.A.toNat 0)):=λh=>Qmh (rd _ (rdT_A h)).1 (rd _ (rdT_A h)).2
 have dB:x.Op=7∨x.Op=8∨x.Op=9∨x.Op=10->getI (toR done) x.B=some (toF (done.getD x.B.toNat 0)):=λh=>Qmh (rd _ (rdT_B h)).1 (rd _ (rdT_B h)).2
 have qA:qw (done.getD x.A.toNat 0)≤k:=Qb2 hD h1
 have qB:qw (done.getD x.B.toNat 0)≤k:=Qb2 hD h1
 generalize done.getD x.A.toNat 0=a at dA qA ⊢
 generalize done.getD x.B.toNat 0=b at dB qB ⊢
 have fA:Fk k (toF a):=K4 qA
 have fB:Fk k (toF b):=K4 qB
 simp only[bifd]
 by_cases o6:x.Op=6
 . simp only[if_pos o6]
   unfold Qdd
   rw[dA (by omega),sbind,Qx9 hn (Fk_Fw fA (by omega)),sbind,sbind,J8]
   exact⟨toF 0,rfl,λq hq=>by cases hq;rw[Qrm];omega⟩
 simp only[if_neg o6]
 by_cases o11:x.Op=11
 . simp only[if_pos o11]
   unfold Qde
   rw[dA (by omega),sbind,Qye hn h1 (by omega) fA,sbind,J8]
   refine⟨toF 0,?_,λq hq=>?_⟩
   . split<;>rfl
   . split at hq
     . cases hq
     . rename_i hc
       cases hq
       exact Q12 qA (by omega)
 simp only[if_neg o11]
 by_cases o7:x.Op=7
 . simp only[if_pos o7]
   unfold Qdf
   rw[dA (by omega),sbind,dB (by omega),sbind,Qbi hn h1 (by omega) fA fB,sbind,sbind,J8,J8]
   exact⟨toF 0,rfl,λq hq=>by cases hq;have:=Qc2 qA qB;omega⟩
 simp only[if_neg o7]
 by_cases o8:x.Op=8
 . simp only[if_pos o8]
   unfold Qdg
   rw[dA (by omega),sbind,dB (by omega),sbind,Qx8 hn h1 (by omega) fA fB,sbind,sbind,J8,J8]
   exact⟨toF 0,rfl,λq hq=>by cases hq;have:=Q4c qA qB;omega⟩
 simp only[if_neg o8]
 by_cases o9:x.Op=9
 . simp only[if_pos o9]
   unfold Qdh
   rw[dA (by omega),sbind,dB (by omega),sbind,Qhc hn h1 (by omega) fA fB,sbind,sbind,J8,J8]
   exact⟨toF 0,rfl,λq hq=>by cases hq;have:=Qd7 qA qB;omega⟩
 simp only[if_neg o9]
 by_cases o10:x.Op=10
 . simp only[if_pos o10]
   unfold Qdi
   rw[dA (by omega),sbind,dB (by omega),sbind,Qyc hn h1 (by omega) fA fB,sbind,J8,J8]
   refine⟨toF 0,?_,λq hq=>?_⟩
   . split<;>rfl
   . split at hq
     . cases hq
     . cases hq
       have:=Q4d qA qB;omega
 simp only[if_neg o10]
 unfold Vh
 simp only[bifd]
 by_cases o1:x.Op=1
 . simp only[if_pos o1]
   unfold Qeg
   rw[Vz hn (Fk_Fw hN (by omega)),sbind,sbind,sbind]
   exact⟨toF 0,rfl,λq hq=>by cases hq;have:=qw_fv hN h1;omega⟩
 simp only[if_neg o1]
 by_cases o3:x.Op=3
 . simp only[if_pos o3]
   obtain⟨a1,a2⟩:=Q4u hx o3
   rw[Qmh a1 (by omega),sbind,sbind]
   exact⟨toF 0,rfl,λq hq=>by cases hq;have:=Qb2 (i:=x.A.toNat) hY h1;omega⟩
 simp only[if_neg o3]
 by_cases o4:x.Op=4
 . simp only[if_pos o4]
   obtain⟨a1,a2⟩:=Q4v hx o4
   rw[Qmh a1 (by omega),sbind,sbind]
   exact⟨toF 0,rfl,λq hq=>by cases hq;have:=Qb2 (i:=x.A.toNat) hP h1;omega⟩
 simp only[if_neg o4]
 exact⟨toF 0,rfl,λq hq=>by cases hq;omega⟩
theorem Q50(l:List Rat)(q:Rat):toR l++[toF q]=toR (l++[q]):=by unfold toR;simp
theorem Q51{n k:Nat}{g:Qo}{t:Q0}{T:Rat}{Y P:List Rat}(hn:big≤n)(h1:129≤k)(hk:k<1048576)(ht:tapeR t)(hR:Z6 n t=some true)(hN:∀ c∈t.Code,Fk k c.N)
 (hT:qw T≤k) (hY:QR k Y) (hP:QR k P) (hy:(Y.length:Int)=t.Dim) (hp:(P.length:Int)=t.Par) (hg:g.limit≤4096) :
 ∃ g',Kq n g t ⟨toF T,toR Y,toR P⟩=some (match runQ g.limit T Y P t.Code 0 [] with | .inl e=>([],⟨e.1,0,0,(e.2:Int)⟩,g') | .inr l=>(toR l,⟨0,0,0,0⟩,g')):=by
 unfold Kq
 simp only[jn_eq,hR,sbind,Bool.not_true,bifF]
 rw[Wx,Wx,decide_eq_true hy,decide_eq_true hp,Bool.not_true,bifF,bifF]
 have key:∀(c:List Q2) (done:List Rat) (g:Qo) (K:Qo×List Qb->Option (List Qb×Qe×Qo)),(∀(j:Nat) x,c[j]?=some x->mayR t (done.length+j) x)->(∀ x∈c,Fk k x.N)->QR k done->g.limit≤4096->done.length+c.length≤300 →
  ∃ g',(rangeL (λ(i30:Nat) (x31:Q2) (s29:Qo×(List Qb))=>
    (J0 n s29.1 x31 ⟨toF T,toR Y,toR P⟩ s29.2).bind λr33=>
    bif !r33.2 then (
     some (Lp.out ((([]:List Qb),(⟨(3:Int),0,0,(i30:Int)⟩:Qe),s29.1))))
    else (
     (Qa2 n s29.1 r33.1).bind λr35=>
     bif !r35.1 then (
      some (Lp.out ((([]:List Qb),(⟨(6:Int),0,0,(i30:Int)⟩:Qe),r35.2))))
     else (
      (appM 56 s29.2 ([r33.1]:List Qb)).bind λy37=>
      some (Lp.go (r35.2,y37))))) c done.length (g,toR done)).bind (lpK K)=match runQ g.limit T Y P c done.length done with | .inl e=>some ([],⟨e.1,0,0,(e.2:Int)⟩,g') | .inr l=>K (g',toR l):=by
  intro c
  induction c with
  | nil=>intro done g K _ _ _ _ _;exact⟨g,rfl⟩
  | cons x c ih=>
    intro done g K hm hN hD hg hl
    simp only[rangeL,runQ]
    obtain⟨v,e1,e2⟩:=Q26 (g:=g) hn (by omega) hk (by have:=hm 0 x rfl;rwa [Nat.add_zero] at this) (hN x (.head _)) hT hY hP hD hy hp
    rw[e1,sbind]
    cases hq:opQ x T Y P done with
    | none=>exact⟨g,rfl⟩
    | some q=>
      have hqk:=e2 q hq
      simp only[Bool.not_true,bifF]
      unfold Qa2
      rw[Qxm hn (by omega),sbind,sbind]
      simp only[]
      by_cases hf:(qz q:Int)≤g.limit
      . rw[decide_eq_true hf,if_pos hf,Bool.not_true,bifF,Kf (by rw[Wx];simp at hl ⊢;omega) (by rw[Wx];simp at hl ⊢;omega),sbind,sbind]
        simp only[]
        have hq2:qw q≤k:=by
         have:=qw_qz (q:=q) (b:=4096) (by omega);omega
        have hlen:(done++[q]).length=done.length+1:=by simp
        obtain⟨g',h⟩:=ih (done++[q]) (noteG g q) K (λj y hy=>by
         rw[hlen,show done.length+1+j=done.length+(j+1) by omega];exact hm (j+1) y (by simpa using hy)) (λy hy=>hN y (.tail _ hy)) (λz hz=>by
         rcases List.mem_append.1 hz with hz | hz
         . exact hD z hz
         . rw[List.mem_singleton.1 hz];exact hq2) hg (by rw[hlen];simp at hl;omega)
        refine⟨g',?_⟩
        rw[hlen] at h
        rw[Q50]
        exact h
      . rw[decide_eq_false hf,if_neg hf,Bool.not_false,bifT,sbind]
        exact⟨noteG g q,rfl⟩
 obtain⟨⟨d1,d2,d3,d4⟩,m1,m2⟩:=ht
 obtain⟨g',h⟩:=key t.Code [] g (λs39=>some (s39.2,(⟨0,0,0,0⟩:Qe),s39.1)) (λj x hx=>by rw[show([]:List Rat).length+j=j by simp];exact m1 j x hx) hN (λ_ h=>by cases h) hg (by simpa using d4)
 refine⟨g',?_⟩
 rw[show(([]:List Rat).length)=0 from rfl,show toR []=[] from rfl] at h
 rw[h]
 cases runQ g.limit T Y P t.Code 0 []<;>rfl
def tp(k:Nat):Nat:=10 ^ k
def digB(c:Nat):Bool:=decide (48≤c∧c≤57)
def letB(c:Nat):Bool:=decide (97≤c∧c≤122∨65≤c∧c≤90∨c=95)
def sgnL:List UInt8:=[43,45,42,47,94,40,41,91,93,44,59,61]
def sgnB(c:Nat):Bool:=sgnL.any (λx=>x.toNat=c)
def kindC(c:Nat):Int:=if digB c then 1 else if letB c then 2 else if sgnB c then 3 else 0
def goC(k:Int)(c:Nat):Bool:=(decide (k=1) && digB c) || (decide (k=2) && (letB c || digB c))
def mostC(k:Int):Nat:=if k=1 then 60 else if k=2 then 12 else 1
def wdB(k:Int):List UInt8->Bool
 | []=>false
 | c::r=>decide (k≠0) && (decide (kindC c.toNat=k) && (r.all (λb=>goC k b.toNat) && decide (r.length+1≤mostC k)))
theorem Qpc(c:Nat):Qbw c=some (digB c):=by
 unfold Qbw digB;simp only[jn_eq,bifd];grind
theorem Qnn(c:Nat):Qb5 c=some (letB c):=by
 unfold Qb5 letB;simp only[jn_eq,bifd];grind
theorem Q27{s:List UInt8}{p:Nat}{c:UInt8}(h:s[p]?=some c)(hc:c.toNat<128):decR s p=c.toNat∧decW s p=1:=by
 have h1:((⟨s.toArray⟩:ByteArray).get! (p+0)).toNat=c.toNat:=by
  have hp:=Jw h
  have:((⟨s.toArray⟩:ByteArray).get! (p+0))=c:=by
   show s.toArray[p+0]! = c
   simp[h]
  rw[this]
 unfold decR decW Utf8.decode
 simp only[h1]
 rw[if_pos hc];exact⟨rfl,rfl⟩
theorem Qym{n c:Nat}(hn:big≤n):Qig n c=some (sgnB c):=by
 unfold Qig
 unfold big at hn
 have e:sgnB c=runG (τ:=Bool) (λ_ (x:UInt8) (_:Unit)=>if x.toNat=c then .inr true else .inl ()) (λ_=>false) sgnL 0 ():=by
  unfold sgnB
  have:∀(l:List UInt8) (i:Nat),l.any (λx=>decide (x.toNat=c))=runG (τ:=Bool) (λ_ (x:UInt8) (_:Unit)=>if x.toNat=c then .inr true else .inl ()) (λ_=>false) l i ():=by
   intro l
   induction l with
   | nil=>intro i;rfl
   | cons x l ih=>
     intro i
     simp only[List.any_cons,runG]
     by_cases h:x.toNat=c
     . simp[h]
     . simp only[decide_eq_false h,if_neg h,Bool.false_or];exact ih (i+1)
  exact this _ 0
 rw[e]
 refine Qs6 (λ_ i=>i) (λ_ (x:UInt8) (_:Unit)=>if x.toNat=c then .inr true else .inl ()) (λ_=>()) _ (λ_ _=>True) sgnL () (λi x b hx _=>⟨?_,λ_ _=>trivial⟩) (λb _=>by simp[bifd,sgnL]) (λb _=>rfl) trivial (by simp[sgnL];omega)
 have hi:=Jw hx
 have hlt:x.toNat<128:=by
  have:∀ y∈sgnL,y.toNat<128:=by decide
  exact this x (Jg hx)
 obtain⟨e1,e2⟩:=Q27 hx hlt
 have e1':decR [43,45,42,47,94,40,41,91,93,44,59,61] i=x.toNat:=e1
 have e2':decW [43,45,42,47,94,40,41,91,93,44,59,61] i=1:=e2
 have hi':i<([43,45,42,47,94,40,41,91,93,44,59,61]:List UInt8).length:=hi
 simp only[bifd,if_pos hi',sbind,e1',e2']
 rw[show Int.toNat ((x.toNat:Int)%256)=x.toNat by omega]
 by_cases h:x.toNat=c
 . rw[if_pos h,if_pos h];rfl
 . rw[if_neg h,if_neg h];rfl
theorem Qyn{n c:Nat}(hn:big≤n):Qih n c=some (kindC c):=by
 unfold Qih kindC
 rw[Qpc,sbind]
 cases digB c with
 | true=>rfl
 | false=>
   rw[bifF,Qnn,sbind]
   cases letB c with
   | true=>rfl
   | false=>rw[bifF,Qym hn,sbind];cases sgnB c<;>rfl
theorem Qyo(k:Int)(c:Nat):Qii k c=some (goC k c):=by
 unfold Qii goC
 simp only[jn_eq,Qpc,Qnn,sbind,bifd]
 by_cases h1:k=1
 . subst h1;cases digB c<;>simp
 . by_cases h2:k=2
   . subst h2;cases letB c<;>cases digB c<;>simp
   . simp[h1,h2]
theorem Qyp(k:Int):Qij k=some (mostC k:Int):=by
 unfold Qij mostC;simp only[bifd];grind
def firstL(k:Int)(s:List UInt8):Nat:=1+((s.drop 1).takeWhile (λc=>goC k c.toNat)).length
theorem Qpd{α:Type}(p:α->Bool)(l:List α):(l.takeWhile p)=l.take (l.takeWhile p).length:=by
 induction l with
 | nil=>rfl
 | cons x l ih=>
   rw[List.takeWhile_cons]
   cases p x with
   | true=>simp only[if_true,List.length_cons,List.take_succ_cons];rw[←ih]
   | false=>rfl
theorem Qqn{α:Type}{p:α->Bool}:∀ {l:List α}{i:Nat},i<(l.takeWhile p).length->∃ x,l[i]?=some x∧p x=true
 | [],i,h=>by simp at h
 | y::l,0,h=>by
   cases hy:p y with
   | true=>exact⟨y,rfl,hy⟩
   | false=>rw[List.takeWhile_cons,hy] at h;simp at h
 | y::l,i+1,h=>by
   rw[List.takeWhile_cons] at h
   cases hy:p y with
   | true=>rw[hy] at h;simp only[if_true,List.length_cons] at h;exact Qqn (l:=l) (i:=i) (by omega)
   | false=>rw[hy] at h;simp at h
theorem Qk1{α:Type}{p:α->Bool}:∀ {l:List α}{x:α},l[(l.takeWhile p).length]?=some x->p x=false
 | [],x,h=>by simp at h
 | y::l,x,h=>by
   rw[List.takeWhile_cons] at h
   cases hy:p y with
   | true=>rw[hy] at h;simp only[if_true,List.length_cons,List.getElem?_cons_succ] at h;exact Qk1 h
   | false=>rw[hy] at h;simp at h;rw[←h];exact hy
theorem Qmi{α:Type}(p:α->Bool)(l:List α):(l.takeWhile p).length≤l.length:=(List.takeWhile_sublist p).length_le
theorem Qwl{n:Nat}{s:List UInt8}{k:Int}(hn:big≤n)(hs:s.length≤4611686018427387904):Qgv n s k=some (firstL k s:Int):=by
 unfold Qgv
 unfold big at hn
 generalize hp:(λc:UInt8=>goC k c.toNat)=p
 have hp':∀ c:UInt8,goC k c.toNat=p c:=λc=>by rw[←hp]
 have hlen:((s.drop 1).takeWhile p).length≤s.length:=Nat.le_trans (Qmi _ _) (by simp)
 have hF:firstL k s=1+((s.drop 1).takeWhile p).length:=by unfold firstL;rw[hp]
 rw[hF]
 refine Yj (λs':Int=>s.length+2 - s'.toNat) (λs'=>∃ j:Nat,s'=((1+j:Nat):Int)∧j≤((s.drop 1).takeWhile p).length) (λt=>t=((1+((s.drop 1).takeWhile p).length:Nat):Int)) ⟨0,rfl,Nat.zero_le _⟩ (by simp;omega) (λs' hI=>?_) (λt ht=>by rw[ht])
 obtain⟨j,rfl,hj⟩:=hI
 simp only[jn_eq,bifd]
 by_cases hl:1+j<s.length
 . rw[if_pos (by omega),Q5g hl,sbind,Qyo,sbind]
   have hg:(s.drop 1)[j]?=some s[1+j]:=by rw[List.getElem?_drop,List.getElem?_eq_getElem hl]
   by_cases hj2:j<((s.drop 1).takeWhile p).length
   . obtain⟨x,h1,h2⟩:=Qqn hj2
     rw[hg] at h1;cases h1
     left
     refine⟨((1+(j+1):Nat):Int),?_,⟨j+1,rfl,by omega⟩,by omega⟩
     have:goC k (s[1+j]).toNat=true:=by rw[hp'];exact h2
     rw[this,bifT,w1 (by omega)];rfl
   . right
     obtain rfl:j=((s.drop 1).takeWhile p).length:=by omega
     have h2:=Qk1 hg
     refine⟨_,?_,rfl⟩
     have:goC k (s[1+((s.drop 1).takeWhile p).length]).toNat=false:=by rw[hp'];exact h2
     rw[this,bifF]
 . right
   rw[if_neg (by omega)]
   refine⟨_,rfl,?_⟩
   have:((s.drop 1).takeWhile p).length≤(s.drop 1).length:=Qmi _ _
   rw[List.length_drop] at this
   have:j=((s.drop 1).takeWhile p).length:=by omega
   rw[this]
theorem Qhe{α:Type}{p:α->Bool}:∀ {l:List α},(l.takeWhile p).length=l.length↔l.all p=true
 | []=>by simp
 | x::l=>by
   rw[List.takeWhile_cons]
   cases hx:p x with
   | true=>simp[hx,Qhe]
   | false=>simp[hx]
theorem Qwm{n:Nat}{w:Qf7}(hn:big≤n)(hs:w.Text.length≤4611686018427387904):Qe4 n w=some (wdB w.Kind w.Text):=by
 unfold Qe4
 simp only[jn_eq,Qwl hn hs,sbind,Qyp,bifd]
 cases hw:w.Text with
 | nil=>rfl
 | cons c r=>
   rw[if_neg (by simp)]
   by_cases h0:w.Kind=0
   . rw[if_pos h0,bifT];simp[wdB,h0]
   . rw[if_neg h0,show getS (c::r) (0:Int)=some c.toNat by rfl,sbind,Qyn hn,sbind]
     by_cases hk:kindC c.toNat=w.Kind
     . simp only[decide_eq_true hk,Bool.not_true,bifF]
       have hl:(firstL w.Kind (c::r):Int)=((c::r).length:Int)↔r.all (λb=>goC w.Kind b.toNat)=true:=by
        rw[←Qhe];unfold firstL;simp only[List.drop_succ_cons,List.drop_zero,List.length_cons];omega
       by_cases ha:r.all (λb=>goC w.Kind b.toNat)=true
       . rw[if_pos (hl.2 ha)];simp only[wdB,ha,hk];simp
         congr 1
         rw[Bool.eq_iff_iff];simp;omega
       . rw[if_neg (λh=>ha (hl.1 h))]
         have:r.all (λb=>goC w.Kind b.toNat)=false:=by simpa using ha
         simp only[wdB,this,Bool.false_and,Bool.and_false]
     . simp only[decide_eq_false hk,Bool.not_false,bifT]
       simp[wdB,hk]
theorem Qmj(c:Nat):Vl c=some (digB c):=by
 unfold Vl digB;simp only[jn_eq,bifd];grind
theorem Qk3(c:Nat):V6 c=some (letB c):=by
 unfold V6 letB;simp only[jn_eq,bifd];grind
theorem Qut(k:Int)(c:Nat):Zc k c=some (goC k c):=by
 unfold Zc goC
 simp only[jn_eq,Qmj,Qk3,sbind,bifd]
 by_cases h1:k=1
 . subst h1;cases digB c<;>simp
 . by_cases h2:k=2
   . subst h2;cases letB c<;>cases digB c<;>simp
   . simp[h1,h2]
theorem Quu(k:Int):Ze k=some (mostC k:Int):=by
 unfold Ze mostC;simp only[bifd];grind
theorem Quv{n c:Nat}(hn:big≤n):Zd n c=some (kindC c):=by
 unfold Zd kindC
 rw[Qmj,sbind]
 cases digB c with
 | true=>rfl
 | false=>
   rw[bifF,Qk3,sbind]
   cases letB c with
   | true=>rfl
   | false=>
     rw[bifF]
     unfold big at hn
     have e:(if sgnB c=true then (3:Int) else 0)=runG (τ:=Int) (λ_ (x:UInt8) (_:Unit)=>if x.toNat=c then .inr 3 else .inl ()) (λ_=>0) sgnL 0 ():=by
      unfold sgnB
      have:∀(l:List UInt8) (i:Nat),(if l.any (λx=>decide (x.toNat=c))=true then (3:Int) else 0)=runG (τ:=Int) (λ_ (x:UInt8) (_:Unit)=>if x.toNat=c then .inr 3 else .inl ()) (λ_=>0) l i ():=by
       intro l
       induction l with
       | nil=>intro i;rfl
       | cons x l ih=>
         intro i
         simp only[List.any_cons,runG]
         by_cases h:x.toNat=c
         . simp[h]
         . simp only[decide_eq_false h,if_neg h,Bool.false_or];exact ih (i+1)
      exact this _ 0
     simp only[Bool.false_eq_true,if_false]
     rw[e]
     refine Qs6 (λ_ i=>(i:Int)) (λ_ (x:UInt8) (_:Unit)=>if x.toNat=c then .inr (3:Int) else .inl ()) (λ_=>()) _ (λ_ _=>True) sgnL () (λi x b hx _=>⟨?_,λ_ _=>trivial⟩) (λb _=>by simp[bifd,sgnL]) (λb _=>rfl) trivial (by simp[sgnL];omega)
     have hi:=Jw hx
     have hi':i<([43,45,42,47,94,40,41,91,93,44,59,61]:List UInt8).length:=hi
     have hg:getS [43,45,42,47,94,40,41,91,93,44,59,61] (i:Int)=some x.toNat:=by
      rw[Qrg];have:([43,45,42,47,94,40,41,91,93,44,59,61]:List UInt8)[i]?=some x:=hx
      rw[this];rfl
     simp only[bifd,sbind,if_pos (show(i:Int)<(([43,45,42,47,94,40,41,91,93,44,59,61]:List UInt8).length:Int) by omega),hg]
     by_cases h:x.toNat=c
     . rw[if_pos h,if_pos h];rfl
     . rw[if_neg h,if_neg h,w1 (by simp at hi';omega)];rfl
theorem Qr2{lim T Y P}(hlim:lim≤4096):∀ {c:List Q2}{i:Nat}{done l:List Rat},QR 129 done->runQ lim T Y P c i done=.inr l->l.length=done.length+c.length∧QR 129 l
 | [],i,done,l,hd,h=>by
   simp only[runQ] at h
   cases h
   exact⟨rfl,hd⟩
 | x::c,i,done,l,hd,h=>by
   simp only[runQ] at h
   cases hq:opQ x T Y P done with
   | none=>rw[hq] at h;cases h
   | some q=>
     rw[hq] at h
     simp only[] at h
     by_cases hf:(qz q:Int)≤lim
     . rw[if_pos hf] at h
       obtain⟨h1,h2⟩:=Qr2 hlim (λz hz=>by
        rcases List.mem_append.1 hz with hz | hz
        . exact hd z hz
        . rw[List.mem_singleton.1 hz]
          have:=qw_qz (q:=q) (b:=4096) (by omega);omega) h
       exact⟨by rw[h1];simp;omega,h2⟩
     . rw[if_neg hf] at h;cases h
theorem Qno{lim T Y P}:∀ {c:List Q2}{i:Nat}{done:List Rat}{e},runQ lim T Y P c i done=.inl e->e.1=3∨e.1=6
 | [],i,done,e,h=>by simp only[runQ] at h;cases h
 | x::c,i,done,e,h=>by
   simp only[runQ] at h
   cases hq:opQ x T Y P done with
   | none=>rw[hq] at h;cases h;exact .inl rfl
   | some q=>
     rw[hq] at h
     simp only[] at h
     by_cases hf:(qz q:Int)≤lim
     . rw[if_pos hf] at h;exact Qno h
     . rw[if_neg hf] at h;cases h;exact .inr rfl
def fieldQ(t:Q0)(lim:Int)(T:Rat)(Y P:List Rat):(Int×Nat) ⊕ List Rat:=
 match runQ lim T Y P t.Code 0 [] with
 | .inl e=>.inl e
 | .inr l=>.inr (t.Outs.map λo=>l.getD o.toNat 0)
structure Q4w(n k:Nat)(t:Q0):Prop where
 r:tapeR t
 h:Z6 n t=some true
 w:∀ c∈t.Code,Fk k c.N
theorem Qwn{n k:Nat}{t:Q0}{p:Ye}{bits:Int}(hn:big≤n)(h1:129≤k)(hk:k<1048576)(ht:Q4w n k t)(hT:Fk k p.T)(hY:FR k p.Y)(hP:FR k p.P)(hy:(p.Y.length:Int)=t.Dim)(hp:(p.P.length:Int)=t.Par):
 Qgu n t p bits=some (match fieldQ t (min (max bits 0) 4096) (fv p.T) (rv p.Y) (rv p.P) with | .inl e=>([],⟨e.1,0,0,(e.2:Int)⟩) | .inr l=>(toR l,⟨0,0,0,0⟩)):=by
 obtain⟨r,h,w⟩:=ht
 have hd:=r.1
 obtain⟨⟨d1,d2⟩,⟨d3,d4⟩,d5,d6⟩:=hd
 have eT:=qw_fv hT (by omega)
 have eY:=QR_rv hY (by omega)
 have eP:=QR_rv hP (by omega)
 unfold Qgu Qk8 Qj2 Qe1
 rw[Vz hn (Fk_Fw hT (by omega)),sbind,Qnh hn (by omega) hY (by omega),sbind,Qnh hn (by omega) hP (by omega),sbind,sbind,sbind]
 simp only[]
 obtain⟨g',e⟩:=Q51 (g:=⟨⟨0,0⟩,min (max bits 0) 4096⟩) hn h1 hk r h w eT eY eP (by rw[Vj];exact hy) (by rw[Vj];exact hp) (by simp only[];omega)
 rw[e,sbind]
 unfold fieldQ
 simp only[]
 cases hr:runQ (min (max bits 0) 4096) (fv p.T) (rv p.Y) (rv p.P) t.Code 0 [] with
 | inl q=>
   have hk:=Qno hr
   simp only[]
   rw[sbind]
   simp only[]
   rw[Qec (by omega),Bool.not_false,bifT]
 | inr l=>
   obtain⟨l1,l2⟩:=Qr2 (by omega) (λ_ h=>by cases h) hr
   have hl:l.length=t.Code.length:=by simpa using l1
   simp only[]
   rw[sbind]
   simp only[]
   rw[Qa6,Bool.not_true,bifF]
   unfold Qk9
   simp only[jn_eq,h,sbind,Bool.not_true,bifF]
   rw[Wx,decide_eq_true (show(l.length:Int)=(t.Code.length:Int) by omega),Bool.not_true,bifF,Qwc (g:=λo:Int=>l.getD o.toNat 0) hn (by omega) λi o s ho=>?_,sbind]
   have hb:=r.2.2 o (Jg ho)
   rw[Qmh hb.1 (by omega),sbind,Vz hn (Fk_Fw (K4 (Qb2 l2 (by omega))) (by omega)),sbind,J8]
theorem Qrq{t:Q0}{lim T Y P l}(hlim:lim≤4096)(h:fieldQ t lim T Y P=.inr l):l.length=t.Outs.length∧QR 129 l:=by
 unfold fieldQ at h
 cases hr:runQ lim T Y P t.Code 0 [] with
 | inl q=>rw[hr] at h;cases h
 | inr l'=>
   rw[hr] at h;cases h
   obtain⟨l1,l2⟩:=Qr2 hlim (λ_ h=>by cases h) hr
   refine⟨by simp,λq hq=>?_⟩
   obtain⟨o,_,rfl⟩:=List.mem_map.1 hq
   exact Qb2 l2 (by omega)
theorem Qsw{t:Q0}{lim T Y P e}(h:fieldQ t lim T Y P=.inl e):e.1=3∨e.1=6:=by
 unfold fieldQ at h
 cases hr:runQ lim T Y P t.Code 0 [] with
 | inl q=>rw[hr] at h;cases h;exact Qno hr
 | inr l'=>rw[hr] at h;cases h
def sumQ(l:List Rat):Rat:=l.foldl (λo x=>o+x) 0
theorem Qlq{k:Nat}:∀ {l:List Rat}{b:Nat}{z:Rat},QR k l->qw z≤b->qw (l.foldl (λo x=>o+x) z)≤b+l.length*(k+1)
 | [],b,z,_,h=>by simpa using h
 | x::l,b,z,hl,h=>by
   rw[List.foldl_cons]
   have:=Qlq (l:=l) (λq hq=>hl q (.tail _ hq)) (Qc2 h (hl x (.head _)))
   rw[List.length_cons,Nat.succ_mul];omega
theorem Qnp{n k:Nat}{a:List Qb}(hn:big≤n)(h1:1≤k)(hk:k<1048576)(ha:FR k a)(hl:a.length≤1000):Qa3 n a=some (toF (sumQ (rv a))):=by
 unfold Qa3
 rw[Z0 hn,sbind,Qc0 (λi=>toF ((rv (a.take i)).foldl (λo x=>o+x) 0)) a,Wq,List.take_length]
 . rfl
 . intro i x hx
   have hi:=Jw hx
   have e1:a.take (i+1)=a.take i++[x]:=by rw[List.take_add_one,hx];rfl
   have e3:rv (a.take (i+1))=rv (a.take i)++[fv x]:=by unfold rv;rw[e1,List.map_append];rfl
   have hb:=Qlq (l:=rv (a.take i)) (b:=1) (z:=0) (QR_rv (λy hy=>ha y (List.mem_of_mem_take hy)) h1) (by rw[Qau];exact Nat.le_refl _)
   have hc:(rv (a.take i)).length*(k+1)≤1000*1048576:=Nat.mul_le_mul (by rw[Vj];simp;omega) (by omega)
   rw[Qbi (k:=2000000000) hn (by omega) (by omega) (K4 (by omega)) (X6 (ha x (Jg hx)) (by omega)),sbind,e3,List.foldl_append,J8]
   rfl
 . rfl
def numR(x:Qb):Prop:=x=toF (fv x)∧qz (fv x)≤190
theorem Q7d{n k:Nat}{x:Qb}(hn:big≤n)(hk:k<1048576)(hx:Fk k x):
 ((Xo n x).bind λr69=>bif !r69 then some true else (Xr n x).bind λr71=>some (decide ((190:Int)<r71)))=some (!dP (numR x)):=by
 rw[Qi7 hn (Fk_Fw hx (by omega)),sbind,@decP _ (Classical.propDecidable _),bifnP]
 unfold numR
 by_cases h:x=toF (fv x)
 . have h1:qw (fv x)<1099511627776:=by
    rcases Nat.eq_zero_or_pos k with h0 | h0
    . subst h0
      have:=qw_fv (X6 hx (show 0≤1 by omega)) (Nat.le_refl 1);omega
    . have:=qw_fv hx h0;omega
   have e:Xr n x=some (qz (fv x):Int):=by
    conv=>lhs;rw[h]
    exact Qnc hn h1
   rw[if_pos h,e,sbind]
   by_cases h2:qz (fv x)≤190
   . rw[dP_t ⟨h,h2⟩,decide_eq_false (by omega)];rfl
   . rw[dP_f λg=>h2 g.2,decide_eq_true (by omega)];rfl
 . rw[if_neg h,dP_f λg=>h g.1];rfl
theorem Qjh{n k:Nat}{l:List (List Qb)}(hn:big≤n)(hk:k<1048576)(hl:∀ r∈l,FR k r):Qas n l=some (dP (∀ r∈l,∀ x∈r,numR x)):=by
 unfold Qas
 rw[Qc1 (λ_ (r:List Qb)=>∀ x∈r,numR x) (r:=false)]
 . rw[Qmg]
   by_cases h:∀ r∈l,∀ x∈r,numR x
   . rw[if_pos h,dP_t h]
   . rw[if_neg h,dP_f h]
 . intro i r hr
   have key:(rangeL (λ(_:Nat) (x60:Qb) (_:Unit)=>
    jn (λ(j66:(Bool)->Option _)=>
     (Xo n x60).bind λr69=>
     bif !r69 then (
      j66 true)
     else (
      (Xr n x60).bind λr71=>
      j66 (decide ((190:Int)<r71)))) (λ(s68:Bool)=>
     bif s68 then (
      some (Lp.out (Lp.out (false))))
     else (
      some (Lp.go ())))) r 0 ()).bind (lpK λ(_:Unit)=>some (Lp.go ()))=@ite _ (∀ x∈r,numR x) (Classical.propDecidable _) (some (Lp.go ())) (some (Lp.out (σ:=Unit) (τ:=Bool) false)):=by
    rw[Qc1 (λ_ (x:Qb)=>numR x) (r:=Lp.out false),Qmg]
    intro j x hx
    have e:=Q7d hn hk (hl r (Jg hr) x (Jg hx))
    have e2:(jn (λ(j66:(Bool)->Option (Lp Unit (Lp Unit Bool)))=>
     (Xo n x).bind λr69=>
     bif !r69 then (
      j66 true)
     else (
      (Xr n x).bind λr71=>
      j66 (decide ((190:Int)<r71)))) (λ(s68:Bool)=>
     bif s68 then (
      some (Lp.out (Lp.out (false))))
     else (
      some (Lp.go ()))))=((Xo n x).bind λr69=>bif !r69 then some true else (Xr n x).bind λr71=>some (decide ((190:Int)<r71))).bind λs68=>bif s68 then (
      some (Lp.out (Lp.out (false))))
     else (
      some (Lp.go ())):=by
     rw[jn_eq]
     cases Xo n x with
     | none=>rfl
     | some b=>
       rw[sbind,sbind]
       cases b
       . rfl
       . rw[Bool.not_true,bifF,bifF]
         cases Xr n x with
         | none=>rfl
         | some z=>rfl
    rw[e2,e,sbind]
    constructor
    . intro h;rw[dP_t h];rfl
    . intro h;rw[dP_f h];rfl
   rw[key]
   constructor
   . intro h;rw[if_pos h]
   . intro h;rw[if_neg h]
def shapeR(s:Qr):Prop:=(1≤s.B.length∧s.B.length≤8)∧s.C.length=s.B.length∧s.A.length=s.B.length∧(s.E.length=s.B.length∨s.E.length=0)∧∀(i:Nat) r,s.A[i]?=some r->r.length=i
theorem Qsf(s:Qr):Qdt s=some (dP (shapeR s)):=by
 unfold Qdt shapeR
 simp only[jn_eq,bifd,bifnd]
 by_cases c1:(s.B.length:Int)<1
 . rw[if_pos c1,bifT,dP_f (by omega)]
 rw[if_neg c1]
 by_cases c2:(8:Int)<(s.B.length:Int)
 . rw[if_pos c2,bifT,dP_f (by omega)]
 rw[if_neg c2]
 by_cases c3:(s.C.length:Int)=(s.B.length:Int)
 case neg=>rw[if_neg c3,bifT,dP_f (by omega)]
 rw[if_pos c3]
 by_cases c4:(s.A.length:Int)=(s.B.length:Int)
 case neg=>rw[if_neg c4,bifT,dP_f (by omega)]
 rw[if_pos c4]
 have hr:=Qc1 (f:=λ(i10:Nat) (x11:List Qb) (_:Unit)=>bif !decide ((x11.length:Int)=(i10:Int)) then some (Lp.out false) else some (Lp.go ())) (K:=λ_=>some true) (r:=false) (λi (r:List Qb)=>r.length=i) s.A (λi x hx=>by
  constructor
  . intro h;rw[decide_eq_true (by omega)];rfl
  . intro h;rw[decide_eq_false (by omega)];rfl)
 have hr':(rangeL (λ(i10:Nat) (x11:List Qb) (_:Unit)=>if (x11.length:Int)=(i10:Int) then some (Lp.go ()) else some (Lp.out false)) s.A 0 ()).bind (lpK λ_=>some true)=(rangeL (λ(i10:Nat) (x11:List Qb) (_:Unit)=>bif !decide ((x11.length:Int)=(i10:Int)) then some (Lp.out false) else some (Lp.go ())) s.A 0 ()).bind (lpK λ_=>some true):=by simp only[bifnd]
 have fin:(s.E.length=s.B.length∨s.E.length=0)->(rangeL (λ(i10:Nat) (x11:List Qb) (_:Unit)=>if (x11.length:Int)=(i10:Int) then some (Lp.go ()) else some (Lp.out false)) s.A 0 ()).bind (lpK λ_=>some true)=some (dP ((1≤s.B.length∧s.B.length≤8)∧s.C.length=s.B.length∧s.A.length=s.B.length∧(s.E.length=s.B.length∨s.E.length=0)∧∀(i:Nat) r,s.A[i]?=some r->r.length=i)):=by
  intro hE
  rw[hr',hr]
  by_cases h:∀(i:Nat) r,s.A[i]?=some r->r.length=i
  . rw[if_pos h,dP_t ⟨by omega,by omega,by omega,hE,h⟩]
  . rw[if_neg h,dP_f λg=>h g.2.2.2.2]
 by_cases c5:(s.E.length:Int)=(s.B.length:Int)
 . rw[if_pos c5,bifF];exact fin (.inl (by omega))
 . rw[if_neg c5]
   by_cases c6:(s.E.length:Int)=0
   . rw[if_pos c6];exact fin (.inr (by omega))
   . rw[if_neg c6,dP_f (by omega)]
structure SchW(k:Nat)(s:Qr):Prop where
 a:∀ r∈s.A,FR k r
 b:FR k s.B
 c:FR k s.C
 e:FR k s.E
 n:s.Name.length≤4611686018427387904
def rowsR(s:Qr):Prop:=∀(i:Nat) r,s.A[i]?=some r->sumQ (rv r)=fv (s.C.getD i ⟨⟨false,[]⟩,[]⟩)
theorem Qtd{n k:Nat}{s:Qr}(hn:big≤n)(h1:1≤k)(hk:k<1048576)(hs:SchW k s)(hsh:shapeR s):Qer n s=some (dP (rowsR s)):=by
 unfold Qer
 obtain⟨⟨g1,g2⟩,g3,g4,g5,g6⟩:=hsh
 rw[Qc1 (λi (r:List Qb)=>sumQ (rv r)=fv (s.C.getD i ⟨⟨false,[]⟩,[]⟩)) (r:=false)]
 . unfold rowsR
   by_cases h:∀(i:Nat) r,s.A[i]?=some r->sumQ (rv r)=fv (s.C.getD i ⟨⟨false,[]⟩,[]⟩)
   . rw[if_pos h,dP_t h]
   . rw[if_neg h,dP_f h]
 . intro i r hr
   have hi:=Jw hr
   have hc:s.C[i]?=some (s.C.getD i ⟨⟨false,[]⟩,[]⟩):=by
    rw[List.getD_eq_getElem?_getD,List.getElem?_eq_getElem (show i<s.C.length by omega)];rfl
   have hrk:=hs.a r (Jg hr)
   have hrl:=g6 i r hr
   have hck:=hs.c _ (Jg hc)
   have hb:=Qlq (l:=rv r) (b:=1) (z:=0) (QR_rv hrk h1) (by rw[Qau];exact Nat.le_refl _)
   have hcc:(rv r).length*(k+1)≤8*1048576:=Nat.mul_le_mul (by rw[Vj];omega) (by omega)
   rw[Qnp hn h1 hk hrk (by omega),sbind,Jd hc,sbind,Qb0 (k:=10000000) hn (by omega) (by omega) (K4 (by unfold sumQ;omega)) (X6 hck (by omega)),sbind,J8]
   constructor
   . intro h;rw[decide_eq_true h];rfl
   . intro h;rw[decide_eq_false h];rfl
def schR(s:Qr):Prop:=wdB 2 s.Name=true∧shapeR s∧((∀ r∈s.A,∀ x∈r,numR x)∧∀ r∈[s.B,s.C,s.E],∀ x∈r,numR x)∧rowsR s∧sumQ (rv s.B)=1∧(s.E≠[]->sumQ (rv s.E)=1)
theorem Qxn{n k:Nat}{a:List Qb}(hn:big≤n)(h1:1≤k)(hk:k<1048576)(ha:FR k a)(hl:a.length≤8){β:Type}(f:Bool->Option β):
 ((Qa3 n a).bind λr20=>(Wr n r20 (toF 1)).bind f)=f (decide (sumQ (rv a)=1)):=by
 have hb:=Qlq (l:=rv a) (b:=1) (z:=0) (QR_rv ha h1) (by rw[Qau];exact Nat.le_refl _)
 have hcc:(rv a).length*(k+1)≤8*1048576:=Nat.mul_le_mul (by rw[Vj];omega) (by omega)
 have q1:qw 1≤10000000:=by unfold qw;rw[show(1:Rat).num=1 from rfl,show(1:Rat).den=1 from rfl,show(1:Int).natAbs=1 from rfl,toL1];omega
 rw[Qnp hn h1 hk ha (by omega),sbind,Qb0 (k:=10000000) hn (by omega) (by omega) (K4 (by unfold sumQ;omega)) (K4 q1),sbind,J8,J8]
theorem Qsg{n k:Nat}{s:Qr}(hn:big≤n)(h1:1≤k)(hk:k<1048576)(hs:SchW k s):∃ v,Qbx n s=some v∧(v=0↔schR s):=by
 unfold Qbx
 rw[Qkz hn,sbind,Qwm (w:=⟨2,s.Name,0⟩) hn hs.n,sbind]
 simp only[]
 unfold schR
 cases hw:wdB 2 s.Name
 . exact⟨1,rfl,by simp⟩
 rw[Bool.not_true,bifF,Qsf,sbind,bifnP]
 by_cases hsh:shapeR s
 case neg=>rw[if_neg hsh];exact⟨2,rfl,λh=>by omega,λh=>absurd h.2.1 hsh⟩
 rw[if_pos hsh]
 have hl:=hsh
 obtain⟨⟨g1,g2⟩,g3,g4,g5,g6⟩:=hl
 simp only[jn_eq]
 rw[Qjh hn hk hs.a,sbind,bifnP]
 have hs3:∀ r∈[s.B,s.C,s.E],FR k r:=λr hr=>by
  rcases List.mem_cons.1 hr with rfl | hr
  . exact hs.b
  rcases List.mem_cons.1 hr with rfl | hr
  . exact hs.c
  rcases List.mem_cons.1 hr with rfl | hr
  . exact hs.e
  cases hr
 by_cases hA:∀ r∈s.A,∀ x∈r,numR x
 case neg=>rw[if_neg hA,bifT];exact⟨3,rfl,λh=>by omega,λh=>absurd h.2.2.1.1 hA⟩
 rw[if_pos hA,Qjh hn hk hs3,sbind,bifnP]
 by_cases hB:∀ r∈[s.B,s.C,s.E],∀ x∈r,numR x
 case neg=>rw[if_neg hB];exact⟨3,rfl,λh=>by omega,λh=>absurd h.2.2.1.2 hB⟩
 rw[if_pos hB,Qtd hn h1 hk hs hsh,sbind,bifnP]
 by_cases hR:rowsR s
 case neg=>rw[if_neg hR];exact⟨4,rfl,λh=>by omega,λh=>absurd h.2.2.2.1 hR⟩
 rw[if_pos hR,Qxn hn h1 hk hs.b (by omega),bifnd]
 by_cases h5:sumQ (rv s.B)=1
 case neg=>rw[if_neg h5];exact⟨5,rfl,λh=>by omega,λh=>absurd h.2.2.2.2.1 h5⟩
 rw[if_pos h5,bifd]
 by_cases hE:(0:Int)<(s.E.length:Int)
 . have hE':s.E≠[]:=λh=>by rw[h] at hE;simp at hE
   rw[if_pos hE,Qxn hn h1 hk hs.e (by omega),bifnd]
   by_cases h6:sumQ (rv s.E)=1
   . rw[if_pos h6];exact⟨0,rfl,λ_=>⟨by trivial,hsh,⟨hA,hB⟩,hR,h5,λ_=>h6⟩,λ_=>rfl⟩
   . rw[if_neg h6];exact⟨6,rfl,λh=>by omega,λh=>absurd (h.2.2.2.2.2 hE') h6⟩
 . have hE':s.E=[]:=List.eq_nil_of_length_eq_zero (by omega)
   rw[if_neg hE,bifF];exact⟨0,rfl,λ_=>⟨by trivial,hsh,⟨hA,hB⟩,hR,h5,λh=>absurd hE' h⟩,λ_=>rfl⟩
theorem Qk4{n k:Nat}{s:Qr}(hn:big≤n)(h1:1≤k)(hk:k<1048576)(hs:SchW k s):Qby n s=some (dP (schR s)):=by
 obtain⟨v,e1,e2⟩:=Qsg hn h1 hk hs
 unfold Qby
 rw[e1,sbind];exact Qaw e2
def gapQ(s:Qr):List Rat:=if s.E=[] then [] else addQ (rv s.B) (scaleQ (-1) (rv s.E))
theorem Quw{n k:Nat}{s:Qr}(hn:big≤n)(h1:1≤k)(hk:k<1048576)(hs:SchW k s)(hr:schR s):Qdu n s=some (toR (gapQ s)):=by
 unfold Qdu gapQ
 simp only[jn_eq]
 rw[Qk4 hn h1 hk hs,sbind,dP_t hr,Bool.not_true,bifF]
 obtain⟨⟨g1,g2⟩,g3,g4,g5,g6⟩:=hr.2.1
 by_cases hE:s.E=[]
 . rw[if_pos hE,hE];rfl
 . have hl:s.E.length≠0:=λh=>hE (List.eq_nil_of_length_eq_zero h)
   have q1:qw (((-1:Int):Int):Rat)≤1:=by unfold qw;rw[Rat.num_intCast,Rat.den_intCast,show(-1:Int).natAbs=1 from rfl,toL1];omega
   have e1:(((-1:Int):Int):Rat)=-1:=rfl
   rw[if_neg hE,decide_eq_false (by omega),bifF]
   unfold Qm5
   rw[Qme hn (by decide) (by decide),sbind,Qgg (k:=k+1) hn (by omega) (by omega) (K4 (by omega)) (Qbc hs.e (by omega)) (by omega),sbind,J8]
   rw[Qrn (k:=k+1) hn (by omega) (by omega) (Qbc hs.b (by omega)) (Qa4 (K2 (Qs9 q1 (QR_rv hs.e h1)) (by omega))) (by omega),sbind,Wx,Qja,Vj,if_pos (by omega),sbind,Qeu,e1]
theorem Q4x{k:Nat}{s:Qr}(h1:1≤k)(hs:SchW k s):QR (2*k+2) (gapQ s):=by
 unfold gapQ
 split
 . intro x hx;cases hx
 . have q1:qw (-1:Rat)≤1:=by unfold qw;rw[show(-1:Rat).num=-1 from rfl,show(-1:Rat).den=1 from rfl,show(-1:Int).natAbs=1 from rfl,toL1];omega
   exact K2 (Q4n (QR_rv hs.b h1) (Qs9 q1 (QR_rv hs.e h1))) (by omega)
theorem Qpe{lim:Int}:∀ {l:List Rat}{i j:Nat},fitQ lim l i=some j->j<i+l.length
 | [],i,j,h=>by simp[fitQ] at h
 | q::l,i,j,h=>by
   simp only[fitQ] at h
   split at h
   . have:=Qpe h;simp;omega
   . cases h;simp
structure MadeQ where
 ys:List (List Rat)
 ks:List (List Rat)
 next:List Rat
 err:List Rat
def towQ(H:Rat)(m:Nat)(c:List Rat)(kss:List (List Rat)):List Rat:=scaleQ H (mixQ c kss (List.replicate m 0))
def fromQ(H:Rat)(Y c:List Rat)(kss:List (List Rat)):List Rat:=addQ Y (towQ H Y.length c kss)
def stageQ(t:Q0)(lim:Int)(T H:Rat)(Y P:List Rat)(a:List Rat)(c:Rat)(i:Nat)(kss:List (List Rat)):Qe ⊕ (List Rat×List Rat):=
 match fitQ lim (fromQ H Y a kss) 0 with
 | some j=>.inl ⟨6,0,(i:Int),300+(j:Int)⟩
 | none=>match fieldQ t lim (T+H*c) (fromQ H Y a kss) P with
   | .inl e=>.inl ⟨e.1,0,(i:Int),(e.2:Int)⟩
   | .inr k=>.inr (fromQ H Y a kss,k)
def stagesQ(t:Q0)(lim:Int)(T H:Rat)(Y P:List Rat):List (List Rat×Rat)->Nat->List (List Rat)->List (List Rat)->Qe ⊕ (List (List Rat)×List (List Rat))
 | [],_,yss,kss=>.inr (yss,kss)
 | x::r,i,yss,kss=>match stageQ t lim T H Y P x.1 x.2 i kss with
   | .inl f=>.inl f
   | .inr z=>stagesQ t lim T H Y P r (i+1) (yss++[z.1]) (kss++[z.2])
def endQ(s:Qr)(lim:Int)(H:Rat)(Y:List Rat)(yss kss:List (List Rat)):Qe ⊕ MadeQ:=
 match fitQ lim (fromQ H Y (rv s.B) kss) 0 with
 | some j=>.inl ⟨6,0,(s.B.length:Int),300+(j:Int)⟩
 | none=>match fitQ lim (if gapQ s=[] then [] else towQ H Y.length (gapQ s) kss) 0 with
   | some j=>.inl ⟨6,0,(s.B.length:Int)+1,300+(j:Int)⟩
   | none=>.inr ⟨yss,kss,fromQ H Y (rv s.B) kss,if gapQ s=[] then [] else towQ H Y.length (gapQ s) kss⟩
def doQ(t:Q0)(s:Qr)(lim:Int)(T H:Rat)(Y P:List Rat):Qe ⊕ MadeQ:=
 match stagesQ t lim T H Y P (List.zip (s.A.map rv) (rv s.C)) 0 [] [] with
 | .inl f=>.inl f
 | .inr z=>endQ s lim H Y z.1 z.2
def toRR(l:List (List Rat)):List (List Qb):=l.map toR
theorem Qmk(l:List (List Rat)):(toRR l).length=l.length:=by unfold toRR;simp
theorem Q7e(l:List (List Rat)):(toRR l).map rv=l:=by
 unfold toRR
 rw[List.map_map]
 conv=>rhs;rw[←List.map_id l]
 exact List.map_congr_left λq _=>Qeu q
theorem Q0m{l:List (List Rat)}{P:List Qb->Prop}(h:∀ a∈l,P (toR a)):∀ a∈toRR l,P a:=λa ha=>by
 obtain⟨q,hq,rfl⟩:=List.mem_map.1 ha
 exact h q hq
theorem Q0n(m:Nat):QR 1 (List.replicate m 0):=λq hq=>by rw[(List.mem_replicate.1 hq).2,Qau];exact Nat.le_refl _
theorem Qr3{k m:Nat}{H:Rat}{c:List Rat}{kss:List (List Rat)}(hH:qw H≤k)(hc:QR k c)(hk:∀ a∈kss,QR 129 a)(hl:kss.length≤8)(h0:129≤k):QR (20*k) (towQ H m c kss):=by
 have h2:=Qul (z:=List.replicate m 0) hc hk (Q0n m)
 have h3:kss.length*(k+129+1)≤8*(k+129+1):=Nat.mul_le_mul_right _ hl
 exact K2 (Qs9 hH h2) (by omega)
theorem Qp7{k:Nat}{H:Rat}{Y c:List Rat}{kss:List (List Rat)}(hY:QR k Y)(hH:qw H≤k)(hc:QR k c)(hk:∀ a∈kss,QR 129 a)(hl:kss.length≤8)(h0:129≤k):QR (22*k) (fromQ H Y c kss):=
 K2 (Q4n hY (Qr3 hH hc hk hl h0)) (by omega)
theorem Qlr{m:Nat}{H:Rat}{c:List Rat}{kss:List (List Rat)}(hk:∀ a∈kss,a.length=m):(towQ H m c kss).length=m:=by
 unfold towQ;rw[Qja];exact Qmf hk (by simp)
theorem Qhk{H:Rat}{Y c:List Rat}{kss:List (List Rat)}(hk:∀ a∈kss,a.length=Y.length):(fromQ H Y c kss).length=Y.length:=by
 unfold fromQ;rw[Qp6,Qlr hk,Nat.min_self]
section
variable {n k:Nat}{p:Qs}{t h:Qb}{y:List Qb}{g:Qo}{ys ks:List (List Qb)}{nx er:List Qb}
theorem Qsx{c:List Qb}{kss:List (List Rat)}(hn:big≤n)(h0:129≤k)(hk:k<16384)(hh:Fk k h)(hc:FR k c)(hkq:∀ a∈kss,QR 129 a)(hl:kss.length≤8)(hcl:c.length=kss.length)(hkl:∀ a∈kss,a.length=y.length)(hy:y.length≤6):
 Va n p t h y g ys (toRR kss) nx er c=some (toR (towQ (fv h) y.length (rv c) kss)):=by
 unfold Va
 rw[Qta,Q0k (j:=k) (k:=129) hn (by omega) (by omega) (by omega) (by omega) hc (Q0m λa ha=>Qa4 (hkq a ha)) (by omega) (by rw[Qmk];omega),sbind,if_pos ⟨by rw[Qmk,hcl],Q0m λa ha=>by rw[Wx];exact hkl a ha⟩]
 rw[Q7e]
 have hm:=Qul (z:=List.replicate y.length 0) (QR_rv hc (by omega)) hkq (Q0n y.length)
 have h3:kss.length*(k+129+1)≤8*(k+129+1):=Nat.mul_le_mul_right _ hl
 have hml:=Qmf (cs:=rv c) hkl (show(List.replicate y.length (0:Rat)).length=y.length by simp)
 rw[Qgg (k:=20*k) hn (by omega) (by omega) (X6 hh (by omega)) (Qa4 (K2 hm (by omega))) (by rw[Wx,hml];omega),sbind,Qeu]
 rfl
theorem Qxo{c:List Qb}{kss:List (List Rat)}(hn:big≤n)(h0:129≤k)(hk:k<16384)(hh:Fk k h)(hyk:FR k y)(hc:FR k c)(hkq:∀ a∈kss,QR 129 a)(hl:kss.length≤8)(hcl:c.length=kss.length)(hkl:∀ a∈kss,a.length=y.length)(hy:y.length≤6):
 Xj n p t h y g ys (toRR kss) nx er c=some (toR (fromQ (fv h) (rv y) (rv c) kss)):=by
 unfold Xj
 have hb:=Qr3 (m:=y.length) (qw_fv hh (by omega)) (QR_rv hc (by omega)) hkq hl h0
 have htl:=Qlr (H:=fv h) (c:=rv c) hkl
 rw[Qsx hn h0 hk hh hc hkq hl hcl hkl hy,sbind,Qrn (k:=20*k) hn (by omega) (by omega) (Qbc hyk (by omega)) (Qa4 hb) (by omega),sbind,Wx,htl,if_pos rfl,Qeu]
 unfold fromQ
 rw[Vj]
theorem Qrr{l:List Rat}{x2:Int}(hn:big≤n)(hl:QR 1099511627775 l)(hll:l.length≤1000):
 ∃ g',g'.limit=g.limit∧Vp n p t h y g ys ks nx er (toR l) x2=some (match fitQ g.limit l 0 with | none=>(⟨0,0,0,0⟩,g') | some j=>(⟨6,0,x2,300+(j:Int)⟩,g')):=by
 obtain⟨g',h1,h2⟩:=Q5z (g:=g) hn hl
 refine⟨g',h1,?_⟩
 unfold Vp
 rw[h2,sbind]
 cases hf:fitQ g.limit l 0 with
 | none=>rfl
 | some j=>
   have:=Qpe hf
   simp only[Bool.not_false,bifT]
   rw[w64 (by omega) (by omega)]
structure PrbOK(n k:Nat)(p:Qs)(t h:Qb)(y:List Qb):Prop where
 tp:Q4w n k p.Tape
 sw:SchW k p.Scheme
 sr:schR p.Scheme
 pk:FR k p.P
 pl:(p.P.length:Int)=p.Tape.Par
 tk:Fk k t
 hk:Fk k h
 yk:FR k y
 yl:(y.length:Int)=p.Tape.Dim
def limQ(bits:Int):Int:=min (max bits 0) 4096
theorem Q1e{i:Nat}{c:Qb}(hn:big≤n)(h0:129≤k)(hk:k<16384)(ht:Fk k t)(hh:Fk k h)(hck:Fk k c)(hc:p.Scheme.C[i]?=some c):Qeq n p t h (i:Int)=some (toF (fv t+fv h*fv c)):=by
 have hi:=Jw hc
 have hmul:=Qd7 (qw_fv hh (by omega)) (qw_fv hck (by omega))
 unfold Qeq
 simp only[jn_eq]
 rw[decide_eq_false (show ¬(i:Int)<0 by omega),bifF,decide_eq_false (show ¬(p.Scheme.C.length:Int)≤(i:Int) by omega),bifF,Jd hc,sbind,Qhc hn (by omega) (by omega) hh hck,sbind,Qbi (k:=4*k) hn (by omega) (by omega) (X6 ht (by omega)) (K4 (by omega)),sbind,J8]
theorem Q28{i:Nat}{a:List Qb}{c:Qb}{kss:List (List Rat)}(hn:big≤n)(h0:129≤k)(hk:k<16384)(ok:PrbOK n k p t h y)(hg:g.limit=limQ p.Bits)
 (ha:p.Scheme.A[i]?=some a) (hc:p.Scheme.C[i]?=some c) (hys:ys.length≤8) (hkq:∀ a∈kss,QR 129 a) (hki:kss.length=i) (hkl:∀ a∈kss,a.length=y.length) :
 ∃ g',g'.limit=g.limit∧∃ r,W2 n p t h y g ys (toRR kss) nx er (i:Int)=some r ∧
   match stageQ p.Tape (limQ p.Bits) (fv t) (fv h) (rv y) (rv p.P) (rv a) (fv c) i kss with
   | .inl f=>r.1=f∧f.Kind≠0
   | .inr z=>r=(⟨0,0,0,0⟩,p,t,h,y,nx,er,g',ys++[toR z.1],toRR (kss++[z.2]))∧QR 129 z.2∧z.2.length=y.length:=by
 obtain⟨⟨d1,d2⟩,⟨d3,d4⟩,d5,d6⟩:=ok.tp.r.1
 obtain⟨⟨g1,g2⟩,g3,g4,g5,g6⟩:=ok.sr.2.1
 have hi:=Jw ha
 have hyl:=ok.yl
 have hak:=ok.sw.a a (Jg ha)
 have hck:=ok.sw.c c (Jg hc)
 have hal:=g6 i a ha
 have hb:=Qp7 (QR_rv ok.yk (by omega)) (qw_fv ok.hk (by omega)) (QR_rv hak (by omega)) hkq (by omega) h0
 have hfl:=Qhk (H:=fv h) (Y:=rv y) (c:=rv a) (kss:=kss) (by rw[Vj];exact hkl)
 rw[Vj] at hfl
 unfold W2
 rw[Jd ha,sbind,Qxo hn h0 hk ok.hk ok.yk hak hkq (by omega) (by omega) hkl (by omega),sbind]
 obtain⟨g',e1,e2⟩:=Qrr (p:=p) (t:=t) (h:=h) (y:=y) (g:=g) (ys:=ys) (ks:=toRR kss) (nx:=nx) (er:=er) (x2:=(i:Int)) hn (K2 hb (show 22*k≤1099511627775 by omega)) (by omega)
 refine⟨g',e1,?_⟩
 rw[e2,sbind,hg]
 unfold stageQ
 cases hf:fitQ (limQ p.Bits) (fromQ (fv h) (rv y) (rv a) kss) 0 with
 | some j=>
   simp only[]
   rw[Qec (by decide),Bool.not_false,bifT]
   exact⟨_,rfl,rfl,by decide⟩
 | none=>
   simp only[]
   rw[Qa6,Bool.not_true,bifF]
   unfold Qm4
   have hmul:=Qd7 (qw_fv ok.hk (by omega)) (qw_fv hck (by omega))
   have hadd:=Qc2 (qw_fv ok.tk (by omega)) hmul
   rw[Q1e hn h0 hk ok.tk ok.hk hck hc,sbind,sbind]
   have hF:=Qwn (k:=22*k) (t:=p.Tape) (p:=⟨toF (fv t+fv h*fv c),toR (fromQ (fv h) (rv y) (rv a) kss),p.P⟩) (bits:=p.Bits) hn (by omega) (by omega) ⟨ok.tp.r,ok.tp.h,λx hx=>X6 (ok.tp.w x hx) (by omega)⟩ (K4 (by omega)) (Qa4 hb) (Qbc ok.pk (by omega)) (by simp only[Wx,hfl];exact hyl) ok.pl
   rw[hF,sbind]
   simp only[]
   rw[J8,Qeu]
   have hlim:limQ p.Bits=min (max p.Bits 0) 4096:=rfl
   rw[hlim]
   cases hq:fieldQ p.Tape (min (max p.Bits 0) 4096) (fv t+fv h*fv c) (fromQ (fv h) (rv y) (rv a) kss) (rv p.P) with
   | inl e=>
     have hkd:=Qsw hq
     simp only[]
     rw[Qec (by omega),Bool.not_false,bifT]
     exact⟨_,rfl,rfl,by show e.1≠0;omega⟩
   | inr l=>
     obtain⟨q1,q2⟩:=Qrq (by omega) hq
     simp only[]
     rw[Qa6,Bool.not_true,bifF,Kf (by simp;omega) (by simp;omega),sbind,Kf (by rw[Qmk];simp;omega) (by rw[Qmk];simp;omega),sbind]
     refine⟨_,rfl,?_,q2,by omega⟩
     unfold toRR
     rw[List.map_append];rfl
end
section
variable {n k:Nat}{p:Qs}{t h:Qb}{y:List Qb}
def pairQ(s:Qr):List (List Rat×Rat):=List.zip (s.A.map rv) (rv s.C)
theorem Qxp{s:Qr}{i:Nat}{a:List Qb}{c:Qb}(ha:s.A[i]?=some a)(hc:s.C[i]?=some c):(pairQ s).drop i=(rv a,fv c)::(pairQ s).drop (i+1):=by
 have h1:(pairQ s)[i]?=some (rv a,fv c):=by
  unfold pairQ rv
  rw[List.getElem?_zip_eq_some]
  simp only[List.getElem?_map]
  exact⟨by rw[ha];rfl,by rw[hc];rfl⟩
 have hi:=Jw h1
 rw[List.drop_eq_getElem_cons hi]
 congr 1
 rw[List.getElem?_eq_getElem hi] at h1
 exact Option.some.inj h1
theorem Q52{g:Qo}(hn:big≤n)(h0:129≤k)(hk:k<8000)(ok:PrbOK n k p t h y)(hg:g.limit=limQ p.Bits):
 ∃ r,Qao n p t h y g [] [] [] []=some r ∧
   match doQ p.Tape p.Scheme (limQ p.Bits) (fv t) (fv h) (rv y) (rv p.P) with
   | .inl f=>r.1=f∧f.Kind≠0
   | .inr z=>∃ g',r=(⟨0,0,0,0⟩,p,t,h,y,toR z.next,toR z.err,g',toRR z.ys,toRR z.ks)∧z.ys.length=p.Scheme.B.length∧z.ks.length=p.Scheme.B.length:=by
 obtain⟨⟨d1,d2⟩,⟨d3,d4⟩,d5,d6⟩:=ok.tp.r.1
 obtain⟨⟨g1,g2⟩,g3,g4,g5,g6⟩:=ok.sr.2.1
 have hyl:=ok.yl
 unfold Qao
 have key:∀(bs:List Qb) (i:Nat) (g:Qo) (yss kss:List (List Rat)) (K:(Qs×Qb×Qb×(List Qb)×Qo×(List (List Qb))×(List (List Qb))×(List Qb)×(List Qb))->Option (Qe×Qs×Qb×Qb×(List Qb)×(List Qb)×(List Qb)×Qo×(List (List Qb))×(List (List Qb)))),
  i+bs.length=p.Scheme.B.length->yss.length=i->kss.length=i->(∀ a∈kss,QR 129 a)->(∀ a∈kss,a.length=y.length)->g.limit=limQ p.Bits →
  match stagesQ p.Tape (limQ p.Bits) (fv t) (fv h) (rv y) (rv p.P) ((pairQ p.Scheme).drop i) i yss kss with
  | .inl f=>∃ r,(rangeL (λ(i15:Nat) (_:Qb) (s14:Qs×Qb×Qb×(List Qb)×Qo×(List (List Qb))×(List (List Qb))×(List Qb)×(List Qb))=>
  (W2 n s14.1 s14.2.1 s14.2.2.1 s14.2.2.2.1 s14.2.2.2.2.1 s14.2.2.2.2.2.1 s14.2.2.2.2.2.2.1 s14.2.2.2.2.2.2.2.1 s14.2.2.2.2.2.2.2.2 (i15:Int)).bind λr18=>
  bif !(Q9 r18.1 (⟨0,0,0,0⟩:Qe)) then (
   some (Lp.out ((r18.1,r18.2.1,r18.2.2.1,r18.2.2.2.1,r18.2.2.2.2.1,r18.2.2.2.2.2.1,r18.2.2.2.2.2.2.1,r18.2.2.2.2.2.2.2.1,r18.2.2.2.2.2.2.2.2.1,r18.2.2.2.2.2.2.2.2.2))))
  else (
   some (Lp.go (r18.2.1,r18.2.2.1,r18.2.2.2.1,r18.2.2.2.2.1,r18.2.2.2.2.2.2.2.1,r18.2.2.2.2.2.2.2.2.1,r18.2.2.2.2.2.2.2.2.2,r18.2.2.2.2.2.1,r18.2.2.2.2.2.2.1)))) bs i (p,t,h,y,g,toRR yss,toRR kss,[],[])).bind (lpK K)=some r∧r.1=f∧f.Kind≠0
   | .inr z=>∃ g',g'.limit=limQ p.Bits∧(rangeL (λ(i15:Nat) (_:Qb) (s14:Qs×Qb×Qb×(List Qb)×Qo×(List (List Qb))×(List (List Qb))×(List Qb)×(List Qb))=>
  (W2 n s14.1 s14.2.1 s14.2.2.1 s14.2.2.2.1 s14.2.2.2.2.1 s14.2.2.2.2.2.1 s14.2.2.2.2.2.2.1 s14.2.2.2.2.2.2.2.1 s14.2.2.2.2.2.2.2.2 (i15:Int)).bind λr18=>
  bif !(Q9 r18.1 (⟨0,0,0,0⟩:Qe)) then (
   some (Lp.out ((r18.1,r18.2.1,r18.2.2.1,r18.2.2.2.1,r18.2.2.2.2.1,r18.2.2.2.2.2.1,r18.2.2.2.2.2.2.1,r18.2.2.2.2.2.2.2.1,r18.2.2.2.2.2.2.2.2.1,r18.2.2.2.2.2.2.2.2.2))))
  else (
   some (Lp.go (r18.2.1,r18.2.2.1,r18.2.2.2.1,r18.2.2.2.2.1,r18.2.2.2.2.2.2.2.1,r18.2.2.2.2.2.2.2.2.1,r18.2.2.2.2.2.2.2.2.2,r18.2.2.2.2.2.1,r18.2.2.2.2.2.2.1)))) bs i (p,t,h,y,g,toRR yss,toRR kss,[],[])).bind (lpK K)=K (p,t,h,y,g',toRR z.1,toRR z.2,[],[])∧z.1.length=p.Scheme.B.length∧z.2.length=p.Scheme.B.length∧(∀ a∈z.2,QR 129 a)∧∀ a∈z.2,a.length=y.length:=by
  intro bs
  induction bs with
  | nil=>
    intro i g yss kss K hi hy1 hk1 hq hl hg
    have he:(pairQ p.Scheme).drop i=[]:=by
     apply List.drop_eq_nil_of_le
     unfold pairQ
     simp only[List.length_nil,Nat.add_zero] at hi
     rw[List.length_zip,Vj,List.length_map];omega
    rw[he]
    simp only[stagesQ]
    simp only[List.length_nil,Nat.add_zero] at hi
    exact⟨g,hg,rfl,by omega,by omega,hq,hl⟩
  | cons b bs ih=>
    intro i g yss kss K hi hy1 hk1 hq hl hg
    rw[List.length_cons] at hi
    have ha:p.Scheme.A[i]?=some (p.Scheme.A[i]'(by omega)):=List.getElem?_eq_getElem (by omega)
    have hc:p.Scheme.C[i]?=some (p.Scheme.C[i]'(by omega)):=List.getElem?_eq_getElem (by omega)
    rw[Qxp ha hc]
    generalize p.Scheme.A[i]'(by omega)=a at ha
    generalize p.Scheme.C[i]'(by omega)=c at hc
    simp only[stagesQ,rangeL]
    obtain⟨g',e1,r,e2,e3⟩:=Q28 (g:=g) (ys:=toRR yss) (nx:=[]) (er:=[]) hn h0 (by omega) ok hg ha hc (by rw[Qmk];omega) hq hk1 hl
    rw[e2,sbind]
    cases hs:stageQ p.Tape (limQ p.Bits) (fv t) (fv h) (rv y) (rv p.P) (rv a) (fv c) i kss with
    | inl f=>
      rw[hs] at e3
      obtain⟨e4,e5⟩:=e3
      obtain⟨⟨f1,f2,f3,f4⟩,r⟩:=r
      simp only[] at e4
      subst e4
      simp only[]
      rw[Qec e5,Bool.not_false,bifT,sbind]
      exact⟨_,rfl,rfl,e5⟩
    | inr z=>
      rw[hs] at e3
      obtain⟨e4,e5,e6⟩:=e3
      subst e4
      simp only[]
      rw[Qa6,Bool.not_true,bifF,sbind]
      have:=ih (i+1) g' (yss++[z.1]) (kss++[z.2]) K (by omega) (by simp;omega) (by simp;omega) (λa ha=>by
       rcases List.mem_append.1 ha with ha | ha
       . exact hq a ha
       . rw[List.mem_singleton.1 ha];exact e5) (λa ha=>by
       rcases List.mem_append.1 ha with ha | ha
       . exact hl a ha
       . rw[List.mem_singleton.1 ha];exact e6) (by omega)
      have e7:toRR yss++[toR z.1]=toRR (yss++[z.1]):=by unfold toRR;rw[List.map_append];rfl
      rw[e7]
      exact this
 generalize hK:(λ(s20:Qs×Qb×Qb×(List Qb)×Qo×(List (List Qb))×(List (List Qb))×(List Qb)×(List Qb))=>
  (Xj n s20.1 s20.2.1 s20.2.2.1 s20.2.2.2.1 s20.2.2.2.2.1 s20.2.2.2.2.2.1 s20.2.2.2.2.2.2.1 s20.2.2.2.2.2.2.2.1 s20.2.2.2.2.2.2.2.2 p.Scheme.B).bind λr21=>
 (Vp n s20.1 s20.2.1 s20.2.2.1 s20.2.2.2.1 s20.2.2.2.2.1 s20.2.2.2.2.2.1 s20.2.2.2.2.2.2.1 r21 s20.2.2.2.2.2.2.2.2 r21 (p.Scheme.B.length:Int)).bind λr23=>
 bif !(Q9 r23.1 (⟨0,0,0,0⟩:Qe)) then (
  some (r23.1,s20.1,s20.2.1,s20.2.2.1,s20.2.2.2.1,r21,s20.2.2.2.2.2.2.2.2,r23.2,s20.2.2.2.2.2.1,s20.2.2.2.2.2.2.1))
 else (
  jn (λ(j29:((List Qb))->Option _)=>
   (Qdu n p.Scheme).bind λr32=>
   bif decide ((0:Int)<(r32.length:Int)) then (
    (Va n s20.1 s20.2.1 s20.2.2.1 s20.2.2.2.1 r23.2 s20.2.2.2.2.2.1 s20.2.2.2.2.2.2.1 r21 s20.2.2.2.2.2.2.2.2 r32).bind λr34=>
    j29 r34)
   else (
    j29 s20.2.2.2.2.2.2.2.2)) (λ(s31:(List Qb))=>
   (Vp n s20.1 s20.2.1 s20.2.2.1 s20.2.2.2.1 r23.2 s20.2.2.2.2.2.1 s20.2.2.2.2.2.2.1 r21 s31 s31 (wrap64 ((p.Scheme.B.length:Int)+(1:Int)))).bind λr36=>
   some (r36.1,s20.1,s20.2.1,s20.2.2.1,s20.2.2.2.1,r21,s31,r36.2,s20.2.2.2.2.2.1,s20.2.2.2.2.2.2.1))))=K
 have h1:=key p.Scheme.B 0 g [] [] K (by omega) rfl rfl (λ_ h=>by cases h) (λ_ h=>by cases h) hg
 unfold doQ
 rw[List.drop_zero] at h1
 unfold pairQ at h1
 cases hs:stagesQ p.Tape (limQ p.Bits) (fv t) (fv h) (rv y) (rv p.P) (List.zip (p.Scheme.A.map rv) (rv p.Scheme.C)) 0 [] [] with
 | inl f=>
   rw[hs] at h1
   exact h1
 | inr z=>
   rw[hs] at h1
   obtain⟨g',q1,q2,q3,q4,q5,q6⟩:=h1
   obtain⟨yss,kss⟩:=z
   simp only[] at q2 q3 q4 q5 q6 ⊢
   have e0:toRR []=[]:=rfl
   rw[e0] at q2
   rw[q2,←hK]
   simp only[]
   have hbB:=Qp7 (QR_rv ok.yk (by omega)) (qw_fv ok.hk (by omega)) (QR_rv ok.sw.b (by omega)) q5 (by omega) h0
   have hlB:=Qhk (H:=fv h) (Y:=rv y) (c:=rv p.Scheme.B) (kss:=kss) (by rw[Vj];exact q6)
   rw[Vj] at hlB
   have hgq:=Q4x (k:=k) (s:=p.Scheme) (by omega) ok.sw
   rw[Qxo hn h0 (by omega) ok.hk ok.yk ok.sw.b q5 (by omega) (by omega) q6 (by omega),sbind]
   obtain⟨g2',e1,e2⟩:=Qrr (p:=p) (t:=t) (h:=h) (y:=y) (g:=g') (ys:=toRR yss) (ks:=toRR kss) (nx:=toR (fromQ (fv h) (rv y) (rv p.Scheme.B) kss)) (er:=[]) (x2:=(p.Scheme.B.length:Int)) hn (K2 hbB (show 22*k≤1099511627775 by omega)) (by omega)
   rw[e2,sbind,q1]
   unfold endQ
   cases hf:fitQ (limQ p.Bits) (fromQ (fv h) (rv y) (rv p.Scheme.B) kss) 0 with
   | some j=>
     simp only[]
     rw[Qec (by decide),Bool.not_false,bifT]
     exact⟨_,rfl,rfl,by decide⟩
   | none=>
     simp only[]
     rw[Qa6,Bool.not_true,bifF,jn_eq,Quw hn (by omega) (by omega) ok.sw ok.sr,sbind,Wx]
     have hE:((Va n p t h y g2' (toRR yss) (toRR kss) (toR (fromQ (fv h) (rv y) (rv p.Scheme.B) kss)) [] (toR (gapQ p.Scheme)))=some (toR (towQ (fv h) y.length (gapQ p.Scheme) kss))∨gapQ p.Scheme=[])∧QR (41*k+1000) (if gapQ p.Scheme=[] then [] else towQ (fv h) y.length (gapQ p.Scheme) kss)∧(if gapQ p.Scheme=[] then [] else towQ (fv h) y.length (gapQ p.Scheme) kss).length≤1000:=by
      by_cases he:gapQ p.Scheme=[]
      . rw[if_pos he];exact⟨.inr he,λ_ h=>(by cases h),by simp⟩
      . have hEl:p.Scheme.E.length=p.Scheme.B.length:=by
         rcases g5 with g5 | g5
         . exact g5
         . exact absurd (by unfold gapQ;rw[if_pos (List.eq_nil_of_length_eq_zero g5)]) he
        have hgl:(gapQ p.Scheme).length=p.Scheme.B.length:=by
         unfold gapQ
         rw[if_neg (λh=>by rw[h] at hEl;simp at hEl;omega),Qp6,Qja,Vj,Vj];omega
        rw[if_neg he]
        have ht:=Qsx (k:=2*k+2) (p:=p) (t:=t) (h:=h) (y:=y) (g:=g2') (ys:=toRR yss) (nx:=toR (fromQ (fv h) (rv y) (rv p.Scheme.B) kss)) (er:=[]) (c:=toR (gapQ p.Scheme)) (kss:=kss) hn (by omega) (by omega) (X6 ok.hk (by omega)) (Qa4 hgq) q5 (by omega) (by rw[Wx];omega) q6 (by omega)
        rw[Qeu] at ht
        refine⟨.inl ht,K2 (Qr3 (k:=2*k+2) (Nat.le_trans (qw_fv ok.hk (by omega)) (by omega)) hgq q5 (by omega) (by omega)) (by omega),?_⟩
        rw[Qlr q6];omega
     obtain⟨hE1,hE2,hE3⟩:=hE
     have hj:∀ {β:Type}(f:List Qb->Option β),(bif decide ((0:Int)<((gapQ p.Scheme).length:Int)) then (Va n p t h y g2' (toRR yss) (toRR kss) (toR (fromQ (fv h) (rv y) (rv p.Scheme.B) kss)) [] (toR (gapQ p.Scheme))).bind λr34=>f r34 else f [])=f (toR (if gapQ p.Scheme=[] then [] else towQ (fv h) y.length (gapQ p.Scheme) kss)):=by
      intro β f
      by_cases he:gapQ p.Scheme=[]
      . rw[if_pos he,he];rfl
      . have:(gapQ p.Scheme).length≠0:=λh=>he (List.eq_nil_of_length_eq_zero h)
        rw[if_neg he,decide_eq_true (by omega),bifT,hE1.resolve_right he,sbind]
     rw[hj,w1 (by omega),Vj]
     generalize (if gapQ p.Scheme=[] then [] else towQ (fv h) y.length (gapQ p.Scheme) kss)=er at hE2 hE3 ⊢
     obtain⟨g3',e3,e4⟩:=Qrr (p:=p) (t:=t) (h:=h) (y:=y) (g:=g2') (ys:=toRR yss) (ks:=toRR kss) (nx:=toR (fromQ (fv h) (rv y) (rv p.Scheme.B) kss)) (er:=toR er) (x2:=((p.Scheme.B.length+1:Nat):Int)) hn (K2 hE2 (show 41*k+1000≤1099511627775 by omega)) hE3
     rw[e4,sbind,show g2'.limit=limQ p.Bits by omega]
     cases hf2:fitQ (limQ p.Bits) er 0 with
     | some j=>exact⟨_,rfl,rfl,by show(6:Int)≠0;decide⟩
     | none=>exact⟨_,rfl,g3',rfl,q3,q4⟩
theorem Qux(hn:big≤n)(h1:1≤k)(hk:k<1048576)(ht:TW p.Tape)(hd:-9223372036854775808≤p.Tape.Dim∧p.Tape.Dim≤9223372036854775807)(hs:SchW k p.Scheme):
 Qb6 n p=some (dP (tapeR p.Tape∧schR p.Scheme∧(p.P.length:Int)=p.Tape.Par)):=by
 unfold Qb6
 simp only[jn_eq]
 rw[Qnm hn ht hd,sbind,bifP]
 by_cases c1:tapeR p.Tape
 . rw[if_pos c1,Qk4 hn h1 hk hs,sbind,bifP]
   by_cases c2:schR p.Scheme
   . rw[if_pos c2];exact Qaw ⟨λh=>⟨c1,c2,h⟩,λh=>h.2.2⟩
   . rw[if_neg c2,dP_f λh=>c2 h.2.1]
 . rw[if_neg c1,dP_f λh=>c1 h.1]
end
structure PrbW(k:Nat)(p:Qs):Prop where
 t:∀ c∈p.Tape.Code,Fk k c.N
 d:-9223372036854775808≤p.Tape.Dim∧p.Tape.Dim≤9223372036854775807
 s:SchW k p.Scheme
 p:FR k p.P
def prbR(p:Qs):Prop:=tapeR p.Tape∧schR p.Scheme∧(p.P.length:Int)=p.Tape.Par
theorem PrbW.tw{k:Nat}{p:Qs}(h:PrbW k p)(hk:k<1048576):TW p.Tape:=λc hc=>Fk_Fw (h.t c hc) (by omega)
theorem Quy{n k:Nat}{p:Qs}(hn:big≤n)(h0:129≤k)(hk:k<8000)(hw:PrbW k p):Qb6 n p=some (dP (prbR p)):=
 Qux hn (by omega) (by omega) (hw.tw (by omega)) hw.d hw.s
theorem PrbW.ok{n k:Nat}{p:Qs}{t h:Qb}{y:List Qb}(hw:PrbW k p)(hn:big≤n)(hk:k<8000)(hr:prbR p)(ht:Fk k t)(hh:Fk k h)(hy:FR k y)(hl:(y.length:Int)=p.Tape.Dim):PrbOK n k p t h y:=
 ⟨⟨hr.1,by rw[Qnm hn (hw.tw (by omega)) hw.d,dP_t hr.1],hw.t⟩,hw.s,hr.2.1,hw.p,hr.2.2,ht,hh,hy,hl⟩
def toM(z:MadeQ):Z2:=⟨toRR z.ys,toRR z.ks,toR z.next,toR z.err⟩
def noM:Z2:=⟨[],[],[],[]⟩
noncomputable def stepQ(p:Qs)(T H:Rat)(Y:List Rat):Qe ⊕ MadeQ:=
 @ite _ (prbR p∧(Y.length:Int)=p.Tape.Dim) (Classical.propDecidable _) (doQ p.Tape p.Scheme (limQ p.Bits) T H Y (rv p.P)) (.inl ⟨2,0,0,0⟩)
theorem Q0o{n k:Nat}{p:Qs}{t h:Qb}{y:List Qb}(hn:big≤n)(h0:129≤k)(hk:k<8000)(hw:PrbW k p)(ht:Fk k t)(hh:Fk k h)(hy:FR k y):
 Qhq n p t h y=some (match stepQ p (fv t) (fv h) (rv y) with | .inl f=>(noM,f) | .inr z=>(toM z,⟨0,0,0,0⟩))∧∀ f,stepQ p (fv t) (fv h) (rv y)=.inl f->f.Kind≠0:=by
 unfold Qhq stepQ
 simp only[jn_eq]
 rw[Quy hn h0 hk hw,sbind,bifnP,Vj]
 by_cases hr:prbR p
 case neg=>rw[if_neg hr,if_neg (λh=>hr h.1),bifT];exact⟨rfl,λf h=>by cases h;decide⟩
 rw[if_pos hr]
 by_cases hl:(y.length:Int)=p.Tape.Dim
 case neg=>rw[decide_eq_false hl,if_neg (λh=>hl h.2),Bool.not_false,bifT];exact⟨rfl,λf h=>by cases h;decide⟩
 rw[decide_eq_true hl,if_pos ⟨hr,hl⟩,Bool.not_true,bifF]
 have ok:=hw.ok hn hk hr ht hh hy hl
 unfold Qe1
 rw[sbind]
 obtain⟨r,e1,e2⟩:=Q52 (g:=⟨⟨0,0⟩,min (max p.Bits 0) 4096⟩) hn h0 hk ok rfl
 rw[e1,sbind]
 cases hd:doQ p.Tape p.Scheme (limQ p.Bits) (fv t) (fv h) (rv y) (rv p.P) with
 | inl f=>
   rw[hd] at e2
   obtain⟨e3,e4⟩:=e2
   refine⟨?_,λg hg=>by cases hg;exact e4⟩
   rw[e3]
   obtain⟨f1,f2,f3,f4⟩:=f
   rw[Qec e4,Bool.not_false,bifT];rfl
 | inr z=>
   rw[hd] at e2
   obtain⟨g',e3,_⟩:=e2
   subst e3
   simp only[]
   rw[Qa6,Bool.not_true,bifF]
   exact⟨rfl,λg hg=>by cases hg⟩
theorem Qnq{t:Q0}{lim:Int}{T H:Rat}{Y P:List Rat}{m:Nat}(hlim:lim≤4096)(hm:t.Outs.length=m)(hY:Y.length=m):∀ {r:List (List Rat×Rat)}{i:Nat}{yss kss:List (List Rat)}{z},(∀ a∈kss,a.length=m)->(∀ a∈yss,a.length=m)->stagesQ t lim T H Y P r i yss kss=.inr z →
 (∀ a∈z.2,a.length=m)∧(∀ a∈z.1,a.length=m)∧(∃ e,z.1=yss++e)∧∃ e,z.2=kss++e
 | [],i,yss,kss,z,h1,h2,h=>by
   simp only[stagesQ] at h
   cases h
   exact⟨h1,h2,⟨[],by simp⟩,[],by simp⟩
 | x::r,i,yss,kss,z,h1,h2,h=>by
   simp only[stagesQ] at h
   cases hs:stageQ t lim T H Y P x.1 x.2 i kss with
   | inl f=>rw[hs] at h;cases h
   | inr w=>
     rw[hs] at h
     have hw:w.2.length=m∧w.1.length=m:=by
      unfold stageQ at hs
      split at hs
      . cases hs
      . cases hf:fieldQ t lim (T+H*x.2) (fromQ H Y x.1 kss) P with
        | inl e=>rw[hf] at hs;cases hs
        | inr k=>
          rw[hf] at hs;cases hs
          exact⟨by rw[(Qrq hlim hf).1,hm],by show(fromQ H Y x.1 kss).length=m;rw[Qhk (by rw[hY];exact h1),hY]⟩
     obtain⟨g1,g2,⟨e,g3⟩,e',g4⟩:=Qnq hlim hm hY (λa ha=>by
      rcases List.mem_append.1 ha with ha | ha
      . exact h1 a ha
      . rw[List.mem_singleton.1 ha];exact hw.1) (λa ha=>by
      rcases List.mem_append.1 ha with ha | ha
      . exact h2 a ha
      . rw[List.mem_singleton.1 ha];exact hw.2) h
     exact⟨g1,g2,⟨w.1::e,by rw[g3];simp⟩,w.2::e',by rw[g4];simp⟩
def blkB(c:Nat):Bool:=decide (c=32∨c=9∨c=10∨c=13)
theorem Qf5{α:Type}(p:α->Bool):∀(l:List α),(l.dropWhile p).length≤l.length
 | []=>Nat.le_refl _
 | x::l=>by
   rw[List.dropWhile_cons];split
   . exact Nat.le_succ_of_le (Qf5 p l)
   . exact Nat.le_refl _
def wcons(w:Qh):List Qh ⊕ Nat->List Qh ⊕ Nat
 | .inl l=>.inl (w::l)
 | .inr p=>.inr p
def tailK(k:Int)(r:List UInt8):List UInt8:=r.takeWhile (λb=>goC k b.toNat)
def scanS:List UInt8->Nat->List Qh ⊕ Nat
 | [],_=>.inl []
 | c::r,i=>
   if blkB c.toNat then scanS r (i+1)
   else if c.toNat=35 then scanS (r.dropWhile (λb=>b.toNat≠10)) (i+1+(r.takeWhile (λb=>b.toNat≠10)).length)
   else if kindC c.toNat=0 then .inr i
   else if mostC (kindC c.toNat)<1+(tailK (kindC c.toNat) r).length then .inr (i+mostC (kindC c.toNat))
   else wcons ⟨kindC c.toNat,c::tailK (kindC c.toNat) r,i⟩ (scanS (r.drop (tailK (kindC c.toNat) r).length) (i+1+(tailK (kindC c.toNat) r).length))
termination_by s=>s.length
decreasing_by
 all_goals simp only[List.length_cons,List.length_drop]
 . omega
 . have:=Qf5 (λb:UInt8=>decide (b.toNat≠10)) r;omega
 . omega
theorem Qkh(i:Nat):scanS [] i=.inl []:=by rw[scanS]
theorem Qje(c:UInt8)(r:List UInt8)(i:Nat):scanS (c::r) i =
 if blkB c.toNat then scanS r (i+1)
 else if c.toNat=35 then scanS (r.dropWhile (λb=>b.toNat≠10)) (i+1+(r.takeWhile (λb=>b.toNat≠10)).length)
 else if kindC c.toNat=0 then .inr i
 else if mostC (kindC c.toNat)<1+(tailK (kindC c.toNat) r).length then .inr (i+mostC (kindC c.toNat))
 else wcons ⟨kindC c.toNat,c::tailK (kindC c.toNat) r,i⟩ (scanS (r.drop (tailK (kindC c.toNat) r).length) (i+1+(tailK (kindC c.toNat) r).length)):=by rw[scanS]
def rstep(i:Nat)(c:UInt8)(b:List Qh×Bool):(List Qh×Bool) ⊕ (List Qh×Int):=
 let note:=if c.toNat=35 then true else if c.toNat=10 then false else b.2
 if note || blkB c.toNat then .inl (b.1,note)
 else match b.1.getLast? with
  | some w=>if w.At+w.Text.length=i∧goC w.Kind c.toNat=true then
   (if w.Kind=0∨mostC w.Kind<w.Text.length+1 then .inr ([],(i:Int)) else .inl (b.1.dropLast++[⟨w.Kind,w.Text++[c],w.At⟩],note))
    else if kindC c.toNat=0 then .inr ([],(i:Int)) else .inl (b.1++[⟨kindC c.toNat,[c],i⟩],note)
  | none=>if kindC c.toNat=0 then .inr ([],(i:Int)) else .inl (b.1++[⟨kindC c.toNat,[c],i⟩],note)
def rscan(s:List UInt8)(i:Nat)(b:List Qh×Bool):List Qh×Int:=runG rstep (λb=>(b.1,(-1:Int))) s i b
theorem Qte(k:Int):1≤mostC k∧mostC k≤60:=by unfold mostC;grind
theorem Q7f{α:Type}{s:List α}{i:Nat}{x:α}(h:s[i]?=some x)(hs:s.length≤4611686018427387904):sub s (i:Int) (wrap64 ((i:Int)+1))=some [x]:=by
 have hi:=Jw h
 rw[w1 (by omega),Q6t (by omega) (by omega),Kc hi]
 have:s[i]=x:=by have:=List.getElem?_eq_getElem hi;rw[h] at this;exact(Option.some.inj this).symm
 rw[this,List.drop_append_of_le_length (by simp;omega),List.drop_of_length_le (by simp;omega)];rfl
theorem Quz{n:Nat}{s:List UInt8}(hn:big≤n):Xw n s=some (if 4000<s.length then ([],4000) else rscan s 0 ([],false)):=by
 unfold Xw
 simp only[bifd]
 by_cases hs:4000<s.length
 . rw[if_pos (by omega),if_pos hs]
 . rw[if_neg (by omega),if_neg hs]
   have hn':=hn
   unfold big at hn
   unfold rscan
   refine Qs6 (λb i=>(b.1,b.2,(i:Int))) rstep (λb=>b.1) _ (λi b=>b.1.length≤i∧∀ w∈b.1,0≤w.At∧w.At+w.Text.length≤i) s ([],false) (λi c b hx hI=>?_) (λb _=>by simp) (λb _=>rfl) (by simp) (by omega)
   obtain⟨hI1,hI2⟩:=hI
   have hi:=Jw hx
   have hsub:=Q7f hx (by omega)
   have hg:getS s (i:Int)=some c.toNat:=by rw[Qrg,hx];rfl
   obtain⟨out,note⟩:=b
   simp only at hI1 hI2
   simp only[if_pos (show(i:Int)<(s.length:Int) by omega),jn_eq,hg,sbind,hsub,Quv hn',Qut,Quu]
   have hw1:wrap64 ((i:Int)+1)=((i+1:Nat):Int):=w1 (by omega)
   have hkeep:∀ nt:Bool,rstep i c (out,note)=.inl (out,nt)->∀ b':List Qh×Bool,rstep i c (out,note)=.inl b'->b'.1.length≤i+1∧∀ w∈b'.1,0≤w.At∧w.At+w.Text.length≤((i+1:Nat):Int):=by
    intro nt h b' hb'
    rw[h] at hb';cases hb'
    exact⟨by simp only[];omega,λw hw=>by have:=hI2 w hw;omega⟩
   by_cases h35:c.toNat=35
   . have hr:rstep i c (out,note)=.inl (out,true):=by simp[rstep,h35]
     refine⟨?_,hkeep true hr⟩
     rw[hr];simp[h35,hw1,toLpp]
   . by_cases h10:c.toNat=10
     . have hr:rstep i c (out,note)=.inl (out,false):=by simp[rstep,h10,blkB]
       refine⟨?_,hkeep false hr⟩
       rw[hr];simp[h10,hw1,toLpp]
     . cases note with
       | true=>
         have hr:rstep i c (out,true)=.inl (out,true):=by simp[rstep,h10,h35]
         refine⟨?_,hkeep true hr⟩
         rw[hr];simp[h10,h35,hw1,toLpp]
       | false=>
         by_cases hb:blkB c.toNat=true
         . have hr:rstep i c (out,false)=.inl (out,false):=by simp[rstep,h10,h35,hb]
           refine⟨?_,hkeep false hr⟩
           rw[hr]
           simp only[blkB,decide_eq_true_eq,h10,false_or] at hb
           rcases hb with h | h | h<;>simp[h,hw1,toLpp]
         . have hb':blkB c.toNat=false:=by simpa using hb
           have g1:c.toNat≠32:=λh=>hb (by simp[blkB,h])
           have g2:c.toNat≠9:=λh=>hb (by simp[blkB,h])
           have g3:c.toNat≠13:=λh=>hb (by simp[blkB,h])
           simp only[if_neg h35,if_neg h10,if_neg g1,if_neg g2,bifF,decide_eq_false g3]
           have hnew:((appM 32 out [(⟨kindC c.toNat,[c],(i:Int)⟩:Qh)]).bind λy596=>
            (getI y596 (wrap64 ((y596.length:Int) - 1))).bind λy598=>
             if y598.Kind=0 then bif true then some (Lp.out (Lp.out (([]:List Qh),(i:Int)))) else some (Lp.go (y596,false,wrap64 ((i:Int)+1)))
             else bif decide ((mostC y598.Kind:Int)<(y598.Text.length:Int)) then some (Lp.out (Lp.out (([]:List Qh),(i:Int)))) else some (Lp.go (y596,false,wrap64 ((i:Int)+1)))) =
            some (toLpp (τ0:=List Qh) (λ(b:List Qh×Bool) i=>(b.1,b.2,(i:Int))) i (if kindC c.toNat=0 then .inr ([],(i:Int)) else .inl (out++[⟨kindC c.toNat,[c],i⟩],false))):=by
            rw[Kf (by simp;omega) (by simp;omega),sbind,Qp5 (by omega),sbind]
            by_cases h0:kindC c.toNat=0
            . simp only[h0,if_true,bifT,toLpp]
            . simp only[if_neg h0]
              rw[decide_eq_false (by have:=(Qte (kindC c.toNat)).1;simp;omega),hw1];rfl
           have hinv:∀ b':List Qh×Bool,(if kindC c.toNat=0 then (.inr ([],(i:Int)):(List Qh×Bool) ⊕ (List Qh×Int)) else .inl (out++[⟨kindC c.toNat,[c],i⟩],false))=.inl b' →
            b'.1.length≤i+1∧∀ w∈b'.1,0≤w.At∧w.At+w.Text.length≤((i+1:Nat):Int):=by
            intro b' h
            by_cases h0:kindC c.toNat=0
            . rw[if_pos h0] at h;cases h
            . rw[if_neg h0] at h;cases h
              refine⟨by simp;omega,λw hw=>?_⟩
              rcases List.mem_append.1 hw with h | h
              . have:=hI2 w h;omega
              . rw[List.mem_singleton.1 h];simp
           rcases List.eq_nil_or_concat out with rfl | ⟨l,w,rfl⟩
           . have hr:rstep i c ([],false)=(if kindC c.toNat=0 then .inr ([],(i:Int)) else .inl ([]++[⟨kindC c.toNat,[c],i⟩],false)):=by simp[rstep,h10,h35,hb']
             rw[hr]
             refine⟨?_,hinv⟩
             rw[if_neg (by simp)]
             exact hnew
           . rw[List.concat_eq_append] at *
             have hw:=hI2 w (by simp)
             have hll:l.length+1≤i:=by simpa using hI1
             have hlast:getI (l++[w]) (wrap64 (((l++[w]).length:Int) - 1))=some w:=Qp5 (by omega)
             have hr:rstep i c (l++[w],false)=(if w.At+w.Text.length=i∧goC w.Kind c.toNat=true then
              (if w.Kind=0∨mostC w.Kind<w.Text.length+1 then .inr ([],(i:Int)) else .inl (l++[⟨w.Kind,w.Text++[c],w.At⟩],false))
              else if kindC c.toNat=0 then .inr ([],(i:Int)) else .inl (l++[w]++[⟨kindC c.toNat,[c],i⟩],false)):=by simp[rstep,h10,h35,hb']
             rw[hr]
             rw[if_pos (show 0<((l++[w]).length:Int) by rw[List.length_append,List.length_singleton];omega)]
             simp only[hlast,sbind]
             rw[w64 (by omega) (by omega)]
             by_cases hat:w.At+w.Text.length=i
             . rw[if_pos hat]
               by_cases hgo:goC w.Kind c.toNat=true
               . rw[if_pos ⟨hat,hgo⟩]
                 simp only[hgo,bifT]
                 rw[Q6u (by simp;omega),sbind,Q4b (by omega),Qp5 (by omega),sbind]
                 by_cases h0:w.Kind=0
                 . simp only[h0,if_true,true_or,toLpp]
                   exact⟨trivial,λb' hb'=>by cases hb'⟩
                 . by_cases hm:mostC w.Kind<w.Text.length+1
                   . have hd:decide ((mostC w.Kind:Int)<((w.Text++[c]).length:Int))=true:=decide_eq_true (by simp;omega)
                     simp only[h0,if_false,hd,bifT,false_or,if_pos hm]
                     exact⟨rfl,λb' hb'=>by cases hb'⟩
                   . have hd:decide ((mostC w.Kind:Int)<((w.Text++[c]).length:Int))=false:=decide_eq_false (by simp;omega)
                     simp only[h0,if_false,hd,bifF,false_or,if_neg hm,hw1]
                     refine⟨rfl,λb' hb'=>?_⟩
                     cases hb'
                     refine⟨by simp;omega,λv hv=>?_⟩
                     rcases List.mem_append.1 hv with h | h
                     . have:=hI2 v (by simp[h]);omega
                     . rw[List.mem_singleton.1 h];simp;omega
               . rw[if_neg (λh=>hgo h.2)]
                 simp only[show goC w.Kind c.toNat=false by simpa using hgo,bifF]
                 exact⟨hnew,hinv⟩
             . rw[if_neg hat,if_neg (λh=>hat h.1)]
               exact⟨hnew,hinv⟩
def wsR(out:List Qh):List Qh ⊕ Nat->List Qh×Int
 | .inl ws=>(out++ws,-1)
 | .inr p=>([],(p:Int))
theorem Q7g(out ws):wsR out (.inl ws)=(out++ws,-1):=Eq.symm (Eq.symm rfl)
theorem Q7h(out p):wsR out (.inr p)=([],(p:Int)):=Eq.symm (Eq.symm rfl)
theorem Qxq(i b):rscan [] i b=(b.1,(-1:Int)):=Eq.symm (Eq.symm rfl)
theorem Qh2{c r i b b'}(h:rstep i c b=.inl b'):rscan (c::r) i b=rscan r (i+1) b':=by unfold rscan;simp only[runG,h]
theorem Qxr{c r i b t}(h:rstep i c b=.inr t):rscan (c::r) i b=t:=by unfold rscan;simp only[runG,h]
theorem Q0p{c:Nat}(h:kindC c≠0):blkB c=false∧c≠35:=by
 constructor
 . cases hb:blkB c with
   | false=>rfl
   | true=>
     exfalso;apply h
     simp only[blkB,decide_eq_true_eq] at hb
     rcases hb with rfl | rfl | rfl | rfl<;>decide
 . rintro rfl;exact h (by decide)
theorem Q7i{k:Int}{c:Nat}(h:goC k c=true):kindC c≠0:=by
 unfold goC at h;unfold kindC
 simp only[Bool.or_eq_true,Bool.and_eq_true] at h
 rcases h with ⟨_,h⟩ | ⟨_,h | h⟩
 . rw[if_pos h];decide
 . rw[if_pos h];split<;>decide
 . rw[if_pos h];decide
theorem blk10:blkB 10=true:=by decide
theorem Q0q:∀(s:List UInt8) (i:Nat) (out),rscan s i (out,true)=rscan (s.dropWhile (λb=>b.toNat≠10)) (i+(s.takeWhile (λb=>b.toNat≠10)).length) (out,true)
 | [],i,out=>rfl
 | c::s,i,out=>by
   rw[List.dropWhile_cons,List.takeWhile_cons]
   by_cases h:c.toNat=10
   . simp[h]
   . simp only[ne_eq,h,not_false_eq_true,decide_true,if_true,List.length_cons]
     have hr:rstep i c (out,true)=.inl (out,true):=by unfold rstep;simp only[h,if_false];split<;>simp
     rw[Qh2 hr,Q0q s (i+1) out]
     rw[show i+((s.takeWhile (λb=>decide (b.toNat≠10))).length+1)=i+1+(s.takeWhile (λb=>decide (b.toNat≠10))).length by omega]
theorem Qxs(l:List Qh)(w):(l++[w]).getLast?=some w:=by simp
theorem Q29{i:Nat}{c:UInt8}{l}{k:Int}{t:List UInt8}{a:Nat}(hgo:goC k c.toNat=true)(ha:a+t.length=i)(hk:k≠0):
 rstep i c (l++[⟨k,t,a⟩],false)=if mostC k<t.length+1 then .inr ([],(i:Int)) else .inl (l++[⟨k,t++[c],a⟩],false):=by
 obtain⟨g1,g2⟩:=Q0p (Q7i hgo)
 have g3:c.toNat≠10:=λh=>by rw[h,blk10] at g1;cases g1
 unfold rstep
 simp only[if_neg g2,if_neg g3,g1,Bool.or_self,Bool.false_eq_true,if_false,Qxs]
 rw[if_pos ⟨by omega,hgo⟩]
 simp only[hk,false_or,List.dropLast_concat]
theorem Q0r:∀(p s:List UInt8) (i:Nat) (l:List Qh) (k:Int) (t:List UInt8) (a:Nat),(∀ b∈p,goC k b.toNat=true)->a+t.length=i->k≠0->t.length≤mostC k →
 rscan (p++s) i (l++[⟨k,t,a⟩],false)=if mostC k<t.length+p.length then ([],((a+mostC k:Nat):Int)) else rscan s (i+p.length) (l++[⟨k,t++p,a⟩],false)
 | [],s,i,l,k,t,a,_,_,_,hl=>by
   rw[if_neg (by simp;omega)];simp
 | c::p,s,i,l,k,t,a,hp,ha,hk,hl=>by
   have hs:=Q29 (l:=l) (hp c (.head _)) ha hk
   rw[List.cons_append]
   by_cases hm:mostC k<t.length+1
   . rw[if_pos hm] at hs
     rw[Qxr hs,if_pos (by simp;omega)]
     rw[show i=a+mostC k by omega]
   . rw[if_neg hm] at hs
     rw[Qh2 hs,Q0r p s (i+1) l k (t++[c]) a (λb hb=>hp b (.tail _ hb)) (by simp;omega) hk (by simp;omega)]
     simp only[List.length_append,List.length_cons,List.append_assoc,List.singleton_append,List.length_nil]
     rw[show t.length+(0+1)+p.length=t.length+(p.length+1) by omega,show i+1+p.length=i+(p.length+1) by omega]
def fresh(out:List Qh)(i:Nat)(s:List UInt8):Prop:=∀ w,out.getLast?=some w->w.At+w.Text.length≤i∧∀ c r,s=c::r->w.At+w.Text.length=(i:Int)->goC w.Kind c.toNat=false
theorem Qxt{out:List Qh}{i j:Nat}{s s'}(h:fresh out i s)(hj:i<j):fresh out j s':=λw hw=>by
 obtain⟨h1,_⟩:=h w hw
 exact⟨by omega,λc r _ h3=>by omega⟩
theorem Q1f{i:Nat}{c:UInt8}{r out}(hf:fresh out i (c::r))(h1:blkB c.toNat=false)(h2:c.toNat≠35):
 rstep i c (out,false)=if kindC c.toNat=0 then .inr ([],(i:Int)) else .inl (out++[⟨kindC c.toNat,[c],i⟩],false):=by
 have g3:c.toNat≠10:=λh=>by rw[h,blk10] at h1;cases h1
 unfold rstep
 simp only[if_neg h2,if_neg g3,h1,Bool.or_self,Bool.false_eq_true,if_false]
 cases ho:out.getLast? with
 | none=>rfl
 | some w=>
   obtain⟨k1,k2⟩:=hf w ho
   simp only[]
   rw[if_neg (λh=>by have:=k2 c r rfl h.1;rw[h.2] at this;cases this)]
theorem Q4y(out w x):wsR out (wcons w x)=wsR (out++[w]) x:=by cases x<;>simp[wsR,wcons]
theorem Qr4:∀(m:Nat) (s:List UInt8) (i:Nat) (out),s.length≤m->fresh out i s->rscan s i (out,false)=wsR out (scanS s i)
 | _,[],i,out,_,_=>by rw[Qxq,Qkh];simp[wsR]
 | 0,_::_,_,_,h,_=>by simp at h
 | m+1,c::r,i,out,hm,hf=>by
   rw[Qje]
   have hrm:r.length≤m:=by simp at hm;omega
   by_cases hb:blkB c.toNat=true
   . rw[if_pos hb]
     have h35:c.toNat≠35:=λh=>by rw[h] at hb;exact absurd hb (by decide)
     have hs:rstep i c (out,false)=.inl (out,false):=by unfold rstep;simp only[if_neg h35,hb,Bool.or_true,if_true];split<;>rfl
     rw[Qh2 hs]
     exact Qr4 m r (i+1) out hrm (Qxt hf (by omega))
   . rw[if_neg hb]
     have hb':blkB c.toNat=false:=by simpa using hb
     by_cases h35:c.toNat=35
     . rw[if_pos h35]
       have hs:rstep i c (out,false)=.inl (out,true):=by unfold rstep;simp only[if_pos h35,Bool.true_or,if_true]
       rw[Qh2 hs,Q0q]
       have hd:=Qf5 (λb:UInt8=>decide (b.toNat≠10)) r
       generalize hj:i+1+(r.takeWhile (λb=>decide (b.toNat≠10))).length=j
       have hij:i<j:=by omega
       cases hq:r.dropWhile (λb=>decide (b.toNat≠10)) with
       | nil=>rw[Qxq,Qkh];simp[wsR]
       | cons d q=>
         have hd10:d.toNat=10:=by
          have:=List.head?_dropWhile_not (λb:UInt8=>decide (b.toNat≠10)) r
          rw[hq] at this;simpa using this
         have hs2:rstep j d (out,true)=.inl (out,false):=by unfold rstep;simp[hd10,blkB]
         rw[Qh2 hs2,Qje,if_pos (by rw[hd10];decide)]
         rw[hq] at hd
         exact Qr4 m q (j+1) out (by simp at hd;omega) (Qxt hf (by omega))
     . rw[if_neg h35]
       have hs:=Q1f hf hb' h35
       by_cases h0:kindC c.toNat=0
       . rw[if_pos h0] at hs ⊢
         rw[Qxr hs];rfl
       . rw[if_neg h0] at hs ⊢
         rw[Qh2 hs]
         generalize hk:kindC c.toNat=k at *
         have hall:∀ b∈tailK k r,goC k b.toNat=true:=λb hb=>by
          have:=List.all_takeWhile (p:=λb:UInt8=>goC k b.toNat) (l:=r)
          exact(List.all_eq_true.1 this) b hb
         have hsplit:r=tailK k r++r.drop (tailK k r).length:=by
          have h1:=Qpd (λb:UInt8=>goC k b.toNat) r
          have h2:tailK k r=r.take (tailK k r).length:=h1
          conv=>lhs;rw[←List.take_append_drop (tailK k r).length r]
          rw[←h2]
         have hrun:=Q0r (tailK k r) (r.drop (tailK k r).length) (i+1) out k [c] i hall (by simp) h0 (Qte k).1
         rw[←hsplit] at hrun
         rw[hrun]
         simp only[List.length_singleton,List.singleton_append]
         by_cases hm2:mostC k<1+(tailK k r).length
         . rw[if_pos hm2,if_pos hm2];rfl
         . rw[if_neg hm2,if_neg hm2,Q4y]
           refine Qr4 m _ _ _ (by rw[List.length_drop];omega) ?_
           intro w hw
           rw[Qxs] at hw
           cases hw
           refine⟨by simp;omega,λd q hq _=>?_⟩
           have:r[(tailK k r).length]?=some d:=by
            have:=congrArg (λl=>l[0]?) hq
            simpa using this
           exact Qk1 (p:=λb:UInt8=>goC k b.toNat) this
theorem Qsh{n:Nat}{s:List UInt8}(hn:big≤n):Xw n s=some (if 4000<s.length then ([],4000) else wsR [] (scanS s 0)):=by
 rw[Quz hn,Qr4 s.length s 0 [] (Nat.le_refl _) (λw h=>by cases h)]
theorem Qki:∀(m:Nat) (s:List UInt8) (i:Nat) (ws),s.length≤m->scanS s i=.inl ws->∀ w∈ws,w.Text.length≤s.length
 | _,[],i,ws,_,h=>by rw[Qkh] at h;cases h;simp
 | 0,_::_,_,_,h,_=>by simp at h
 | m+1,c::r,i,ws,hm,h=>by
   have hrm:r.length≤m:=by simp at hm;omega
   rw[Qje] at h
   intro w hw
   rw[List.length_cons]
   by_cases hb:blkB c.toNat=true
   . rw[if_pos hb] at h
     have:=Qki m r _ ws hrm h w hw;omega
   . rw[if_neg hb] at h
     by_cases h35:c.toNat=35
     . rw[if_pos h35] at h
       have hd:=Qf5 (λb:UInt8=>decide (b.toNat≠10)) r
       have:=Qki m _ _ ws (by omega) h w hw;omega
     . rw[if_neg h35] at h
       by_cases h0:kindC c.toNat=0
       . rw[if_pos h0] at h;cases h
       . rw[if_neg h0] at h
         by_cases hm2:mostC (kindC c.toNat)<1+(tailK (kindC c.toNat) r).length
         . rw[if_pos hm2] at h;cases h
         . rw[if_neg hm2] at h
           cases hq:scanS (r.drop (tailK (kindC c.toNat) r).length) (i+1+(tailK (kindC c.toNat) r).length) with
           | inr p=>rw[hq] at h;cases h
           | inl l=>
             rw[hq] at h;cases h
             rcases List.mem_cons.1 hw with rfl | h'
             . simp only[List.length_cons]
               have:(tailK (kindC c.toNat) r).length≤r.length:=Qmi _ _
               omega
             . have:=Qki m _ _ l (by rw[List.length_drop];omega) hq w h'
               rw[List.length_drop] at this;omega
theorem Qtf(k:Int)(c:UInt8)(r:List UInt8):wdB k (c::r)=true↔k≠0∧kindC c.toNat=k∧r.all (λb=>goC k b.toNat)=true∧r.length+1≤mostC k:=by
 simp[wdB]
theorem Q4z{k:Int}{r:List UInt8}(h:r.all (λb=>goC k b.toNat)=true):tailK k r=r:=by
 have h1:=Qhe.2 h
 have h2:=Qpd (λb:UInt8=>goC k b.toNat) r
 unfold tailK
 rw[h2,h1,List.take_length]
theorem Q53{k:Int}{t:List UInt8}(h:wdB k t=true)(i:Nat):scanS t i=.inl [⟨k,t,i⟩]:=by
 cases t with
 | nil=>cases h
 | cons c r=>
   obtain⟨h1,h2,h3,h4⟩:=(Qtf k c r).1 h
   obtain⟨g1,g2⟩:=Q0p (c:=c.toNat) (by rw[h2];exact h1)
   rw[Qje,if_neg (by rw[g1];decide),if_neg g2,h2,if_neg h1,Q4z h3,if_neg (by omega),List.drop_length,Qkh];rfl
theorem Qtg{n:Nat}{w:Qh}(hn:big≤n):Yz n w=some (wdB w.Kind w.Text):=by
 unfold Yz
 rw[Qsh hn,sbind]
 by_cases hl:4000<w.Text.length
 . rw[if_pos hl]
   have:wdB w.Kind w.Text=false:=by
    cases hw:w.Text with
    | nil=>rfl
    | cons c r=>
      rw[hw] at hl
      cases hb:wdB w.Kind (c::r) with
      | false=>rfl
      | true=>have:=((Qtf _ c r).1 hb).2.2.2;have:=(Qte w.Kind).2;simp at hl;omega
   rw[this];rfl
 . rw[if_neg hl]
   cases hb:wdB w.Kind w.Text with
   | true=>rw[Q53 hb];simp[wsR,jn_eq,getI]
   | false=>
     cases hs:scanS w.Text 0 with
     | inr p=>rw[Q7h];simp only[jn_eq,bifd];rw[if_neg (by omega)]
     | inl ws=>
       rw[Q7g,List.nil_append]
       simp only[jn_eq,bifd]
       rw[if_pos (by decide)]
       match ws,hs with
       | [],_=>rfl
       | [v],hs=>
         simp only[show(([v].length:Nat):Int)=1 by rfl,if_true,show getI [v] (0:Int)=some v by rfl,sbind]
         by_cases hk:v.Kind=w.Kind
         . rw[if_pos hk]
           by_cases ht:v.Text=w.Text
           . exfalso
             cases hw:w.Text with
             | nil=>rw[hw,Qkh] at hs;cases hs
             | cons c r=>
               rw[hw] at hs hb ht
               rw[Qje] at hs
               by_cases g1:blkB c.toNat=true
               . rw[if_pos g1] at hs
                 have:=Qki r.length r _ _ (Nat.le_refl _) hs v (by simp)
                 rw[ht] at this;simp at this;omega
               . rw[if_neg g1] at hs
                 by_cases h35:c.toNat=35
                 . rw[if_pos h35] at hs
                   have hd:=Qf5 (λb:UInt8=>decide (b.toNat≠10)) r
                   have:=Qki _ _ _ _ (Nat.le_refl _) hs v (by simp)
                   rw[ht] at this;simp at this;simp at hd;omega
                 . rw[if_neg h35] at hs
                   by_cases h0:kindC c.toNat=0
                   . rw[if_pos h0] at hs;cases hs
                   . rw[if_neg h0] at hs
                     by_cases hm2:mostC (kindC c.toNat)<1+(tailK (kindC c.toNat) r).length
                     . rw[if_pos hm2] at hs;cases hs
                     . rw[if_neg hm2] at hs
                       cases hq:scanS (r.drop (tailK (kindC c.toNat) r).length) (0+1+(tailK (kindC c.toNat) r).length) with
                       | inr p=>rw[hq] at hs;cases hs
                       | inl l=>
                         rw[hq] at hs
                         simp only[wcons,Sum.inl.injEq,List.cons.injEq] at hs
                         obtain⟨rfl,_⟩:=hs
                         simp only at ht hk
                         have ht':tailK (kindC c.toNat) r=r:=(List.cons.inj ht).2
                         have:wdB w.Kind (c::r)=true:=by
                          rw[Qtf,←hk]
                          refine⟨h0,rfl,?_,by rw[ht'] at hm2;omega⟩
                          exact Qhe.1 (by have:=congrArg List.length ht';exact this)
                         rw[this] at hb;cases hb
           . simp[ht]
         . rw[if_neg hk]
       | v::u::l,_=>rw[if_neg (by simp;omega)]
theorem Qth{R:Type}{f:Int->Option (Lp Int (Lp Unit R))}{K:Unit->Option R}{n:Nat}(P:Nat->Prop)(r:Nat->R)(N:Nat)
 (hb:∀ i,i<N->(P i->f (i:Int)=some (.go ((i+1:Nat):Int)))∧(¬ P i->f (i:Int)=some (.out (.out (r i))))) (he:f (N:Int)=some (.out (.go ()))) (hn:N<n) :
 ((∀ i,i<N->P i)∧(loopM f n 0).bind (lpK K)=K ())∨(¬(∀ i,i<N->P i)∧∃ j,(loopM f n 0).bind (lpK K)=some (r j)):=by
 have key:∀(m k n:Nat),k+m=N->m<n->((∀ i,k≤i->i<N->P i)∧(loopM f n (k:Int)).bind (lpK K)=K ())∨(¬(∀ i,k≤i->i<N->P i)∧∃ j,(loopM f n (k:Int)).bind (lpK K)=some (r j)):=by
  intro m
  induction m with
  | zero=>
    intro k n hk hn
    obtain rfl:k=N:=by omega
    exact .inl ⟨λi h1 h2=>by omega,by rw[Yk he (by omega),Option.bind_some,Wq]⟩
  | succ m ih=>
    intro k n hk hn
    obtain⟨n',rfl⟩:∃ n',n=n'+1:=⟨n - 1,by omega⟩
    obtain⟨h1,h2⟩:=hb k (by omega)
    by_cases hp:P k
    . rw[Qh0 (h1 hp)]
      rcases ih (k+1) n' (by omega) (by omega) with ⟨g1,g2⟩ | ⟨g1,g2⟩
      . refine .inl ⟨λi a b=>?_,g2⟩
        rcases Nat.eq_or_lt_of_le a with c | c
        . exact c ▸ hp
        . exact g1 i c b
      . exact .inr ⟨λh=>g1 λi a b=>h i (by omega) b,g2⟩
    . exact .inr ⟨λh=>hp (h k (Nat.le_refl _) (by omega)),k,by rw[Yk (h2 hp) (by omega),Option.bind_some,Qbb]⟩
 have:=key N 0 n (by omega) hn
 simp only[Nat.zero_le,true_implies] at this
 exact this
theorem Qk5(x a b:Int):Jh x a b=some (decide (a≤x∧x≤b)):=by
 unfold Jh;simp only[jn_eq,bifd]
 by_cases h:a≤x
 . rw[if_pos h];simp[h]
 . rw[if_neg h];simp[h]
theorem Q85{a b:Qa}(h:tF a=tF b):a=b:=by
 obtain⟨s,x,d⟩:=a;obtain⟨t,y,e⟩:=b
 unfold tF at h;simp only[] at h;cases h;rfl
theorem Q86(q:Rat):tF (rF q)=toF q:=rfl
theorem Qnr{f:Qa}:rF (fr f)=f↔tF f=toF (fv (tF f)):=by
 rw[fr_tF,←Q86]
 exact⟨λh=>by rw[h],λh=>(Q85 h).symm⟩
theorem Fk_wd{k:Nat}{f:Qa}(h:Fk k (tF f)):Wd f.N∧Wd f.D∧f.N.length≤k∧f.D.length≤k:=⟨h.1,h.2.2.1,h.2.1,h.2.2.2⟩
theorem Q0s{n k:Nat}{f:Qa}{β:Type}(g:Bool->Option β)(hn:big≤n)(hk:k<274877906944)(h1:1≤k)(h:Fk k (tF f)):((Jl n f).bind λr=>(Jq n r f).bind g)=g (dP (tF f=toF (fv (tF f)))):=by
 obtain⟨w1,w2,w3,w4⟩:=Fk_wd h
 have hq:=qw_fr (Fk_wd h) h1
 have hl:=Qwi hq
 rw[Xd hn w1 w2 (by omega) (by omega),sbind,Qfb hn (by omega) (by omega),sbind,@decP _ (Classical.propDecidable _),dP_c Qnr]
theorem Qwo{n k i:Nat}{t:Jc}{x:Jp}(hn:big≤n)(hk:k<274877906944)(h1:1≤k)(hx:Fk k (tF x.N))(hi:i<1000000)
 (hd:-9223372036854775807≤t.Dim) (hd2:t.Dim≤9223372036854775807) (hp:-9223372036854775807≤t.Par) (hp2:t.Par≤9223372036854775807):Yc n x (i:Int) t.Dim t.Par=some (dP (mayR (tT t) i (tI x))):=by
 unfold Yc mayR
 have eN:(tI x).N=tF x.N:=rfl
 have eO:(tI x).Op=x.Op:=rfl
 have eA:(tI x).A=x.A:=rfl
 have eB:(tI x).B=x.B:=rfl
 have eD:(tT t).Dim=t.Dim:=rfl
 have eP:(tT t).Par=t.Par:=rfl
 simp only[eN,eO,eA,eB,eD,eP]
 rw[bifd]
 by_cases c1:x.Op=1
 . rw[if_pos c1]
   simp only[if_pos c1,jn_eq,bifd]
   by_cases a:x.A=0
   . rw[if_pos a]
     by_cases b:x.B=0
     . rw[if_pos b,Q0s (λr=>some r) hn hk h1 hx]
       exact Qwk ⟨λh=>⟨a,b,h⟩,λh=>h.2.2⟩
     . rw[if_neg b,dP_f λh=>b h.2.1]
   . rw[if_neg a,dP_f λh=>a h.1]
 rw[if_neg c1]
 simp only[if_neg c1,jn_eq]
 have hb:blankF (tF x.N)↔x.N.Neg=false∧x.N.N.length=0∧x.N.D.length=0:=by
  unfold blankF tF
  exact⟨λh=>⟨h.1,congrArg List.length h.2.1,congrArg List.length h.2.2⟩,λh=>⟨h.1,List.eq_nil_of_length_eq_zero h.2.1,List.eq_nil_of_length_eq_zero h.2.2⟩⟩
 by_cases hN:x.N.Neg=true
 . rw[hN,bifT,bifT,dP_f λh=>by have:=(hb.1 h.1).1;rw[hN] at this;cases this]
 have hN':x.N.Neg=false:=by simpa using hN
 rw[hN',bifF]
 simp only[bifd]
 by_cases l1:(0:Int)<(x.N.N.length:Int)
 . rw[if_pos l1,bifT,dP_f λh=>by have:=(hb.1 h.1).2.1;omega]
 rw[if_neg l1]
 by_cases l2:(0:Int)<(x.N.D.length:Int)
 . rw[if_pos l2,dP_f λh=>by have:=(hb.1 h.1).2.2;omega]
 rw[if_neg l2]
 have hbl:blankF (tF x.N):=hb.2 ⟨hN',by omega,by omega⟩
 simp only[Qk5,sbind,bifd]
 have eR:rdT (tI x)=if x.Op=6∨x.Op=11 then [x.A] else if x.Op=7∨x.Op=8∨x.Op=9∨x.Op=10 then [x.A,x.B] else []:=rfl
 have w1:wrap64 (t.Dim - 1)=t.Dim - 1:=w64 (by omega) (by omega)
 have w2:wrap64 (t.Par - 1)=t.Par - 1:=w64 (by omega) (by omega)
 have w3:wrap64 ((i:Int) - 1)=(i:Int) - 1:=w64 (by omega) (by omega)
 rw[eR,w1,w2,w3]
 clear w1 w2 w3
 by_cases c2:x.Op=2
 . simp only[if_pos c2]
   rw[if_neg (show ¬(x.Op=6∨x.Op=11) by omega),if_neg (show ¬(x.Op=7∨x.Op=8∨x.Op=9∨x.Op=10) by omega)]
   exact Qe6 ⟨λh=>⟨hbl,λr hr=>(by cases hr),h⟩,λh=>h.2.2⟩
 simp only[if_neg c2]
 by_cases c3:x.Op=3
 . simp only[if_pos c3]
   rw[if_neg (show ¬(x.Op=6∨x.Op=11) by omega),if_neg (show ¬(x.Op=7∨x.Op=8∨x.Op=9∨x.Op=10) by omega)]
   exact Qe6 ⟨λh=>⟨hbl,λr hr=>(by cases hr),by omega⟩,λh=>by have:=h.2.2;omega⟩
 simp only[if_neg c3]
 by_cases c4:x.Op=4
 . simp only[if_pos c4]
   rw[if_neg (show ¬(x.Op=6∨x.Op=11) by omega),if_neg (show ¬(x.Op=7∨x.Op=8∨x.Op=9∨x.Op=10) by omega)]
   exact Qe6 ⟨λh=>⟨hbl,λr hr=>(by cases hr),by omega⟩,λh=>by have:=h.2.2;omega⟩
 simp only[if_neg c4]
 by_cases c6:x.Op=6
 . simp only[if_pos c6]
   rw[if_pos (show x.Op=6∨x.Op=11 by omega)]
   exact Qe6 ⟨λh=>⟨hbl,λr hr=>(by rw[List.mem_singleton.1 hr];omega),h.2⟩,λh=>⟨by have:=h.2.1 x.A (by simp);omega,h.2.2⟩⟩
 simp only[if_neg c6]
 by_cases c11:x.Op=11
 . simp only[if_pos c11]
   rw[if_pos (show x.Op=6∨x.Op=11 by omega)]
   exact Qe6 ⟨λh=>⟨hbl,λr hr=>(by rw[List.mem_singleton.1 hr];omega),h.2⟩,λh=>⟨by have:=h.2.1 x.A (by simp);omega,h.2.2⟩⟩
 simp only[if_neg c11]
 rw[if_neg (show ¬(x.Op=6∨x.Op=11) by omega)]
 by_cases c7:7≤x.Op∧x.Op≤10
 . rw[if_pos c7,if_pos (show x.Op=7∨x.Op=8∨x.Op=9∨x.Op=10 by omega)]
   exact Qe6 ⟨λh=>⟨hbl,λr hr=>(by
    rcases List.mem_cons.1 hr with rfl | hr
    . omega
    . rw[List.mem_singleton.1 hr];omega),rfl⟩,λh=>⟨by have:=h.2.1 x.A (by simp);omega,by have:=h.2.1 x.B (by simp);omega⟩⟩
 . rw[if_neg c7,if_neg (show ¬(x.Op=7∨x.Op=8∨x.Op=9∨x.Op=10) by omega),dP_f λh=>by have:=h.2.2;simp at this]
theorem Qgh{α β:Type}(f:α->β){l:List α}{i:Nat}{x:α}(h:l[i]?=some x):(l.map f)[i]?=some (f x):=by rw[List.getElem?_map,h];rfl
theorem Qti{n k:Nat}{t:Jc}(hn:big≤n)(hk:k<274877906944)(h1:1≤k)(hx:∀ x∈t.Code,Fk k (tF x.N))(ho:t.Outs.length≤1000000):
 ∃ v,Yy n t=some v∧(v=-1↔tapeR (tT t)):=by
 unfold Yy
 simp only[jn_eq,Qk5,sbind,bifnd]
 have hw:wholeR (tT t)↔((1≤t.Dim∧t.Dim≤6)∧(0≤t.Par∧t.Par≤6)∧(t.Outs.length:Int)=t.Dim∧t.Code.length≤300):=by
  unfold wholeR tT;simp only[List.length_map]
 by_cases c1:1≤t.Dim∧t.Dim≤6
 case neg=>rw[if_neg c1];exact⟨-2,rfl,λh=>by omega,λh=>absurd (hw.1 h.1).1 c1⟩
 rw[if_pos c1]
 by_cases c2:0≤t.Par∧t.Par≤6
 case neg=>rw[if_neg c2];exact⟨-2,rfl,λh=>by omega,λh=>absurd (hw.1 h.1).2.1 c2⟩
 rw[if_pos c2]
 by_cases c3:(t.Outs.length:Int)=t.Dim
 case neg=>rw[if_neg c3];exact⟨-2,rfl,λh=>by omega,λh=>absurd (hw.1 h.1).2.2.1 c3⟩
 rw[if_pos c3]
 by_cases c4:(300:Int)<(t.Code.length:Int)
 . rw[decide_eq_true c4,bifT];exact⟨-2,rfl,λh=>by omega,λh=>by have:=(hw.1 h.1).2.2.2;omega⟩
 rw[decide_eq_false c4,bifF]
 have hwh:wholeR (tT t):=hw.2 ⟨c1,c2,c3,by omega⟩
 rcases Qth (f:=λ(s24:Int)=>
  bif decide (s24<(t.Code.length:Int)) then (
   (getI t.Code s24).bind λy25=>
   (Yc n y25 s24 t.Dim t.Par).bind λr27=>
   bif !r27 then (
    some (Lp.out (Lp.out (s24))))
   else (
    some (Lp.go (wrap64 (s24+(1:Int))))))
  else (
   some (Lp.out (Lp.go ())))) (n:=n) (K:=λ(_:Unit)=>
  (loopM (λ(s41:Int)=>
   bif decide (s41<(t.Outs.length:Int)) then (
    (getI t.Outs s41).bind λy42=>
    if (0≤y42∧y42≤(wrap64 ((t.Code.length:Int) - (1:Int)))) then (
     some (Lp.go (wrap64 (s41+(1:Int)))))
    else (
     some (Lp.out (Lp.out ((t.Code.length:Int))))))
   else (
    some (Lp.out (Lp.go ())))) n (0:Int)).bind (lpK λ(_:Unit)=>
  some (-1:Int))) (λi=>∀ x,t.Code[i]?=some x->mayR (tT t) i (tI x)) (λi=>(i:Int)) t.Code.length (λi hi=>by
  have hp:t.Code[i]?=some t.Code[i]:=List.getElem?_eq_getElem hi
  have hxx:=hx t.Code[i] (List.getElem_mem hi)
  generalize t.Code[i]=x at hp hxx
  rw[decide_eq_true (by omega),bifT,Jd hp,sbind,Qwo hn hk h1 hxx (by omega) (by omega) (by omega) (by omega) (by omega),sbind,w1 (by omega)]
  exact⟨λh=>by rw[dP_t (h x hp)];rfl,λh=>by rw[dP_f λg=>h λy hy=>by rw[hp] at hy;cases hy;exact g];rfl⟩) (by rw[decide_eq_false (by omega)];rfl) (by unfold big at hn;omega) with ⟨g1,g2⟩ | ⟨g1,j,g2⟩
 . have hmay:∀(i:Nat) x,(tT t).Code[i]?=some x->mayR (tT t) i x:=by
    intro i x hx
    unfold tT at hx
    simp only[List.getElem?_map] at hx
    cases hc:t.Code[i]? with
    | none=>rw[hc] at hx;cases hx
    | some y=>rw[hc] at hx;cases hx;exact g1 i (Jw hc) y hc
   rw[g2]
   rcases Qth (f:=λ(s41:Int)=>
    bif decide (s41<(t.Outs.length:Int)) then (
     (getI t.Outs s41).bind λy42=>
     if (0≤y42∧y42≤(wrap64 ((t.Code.length:Int) - (1:Int)))) then (
      some (Lp.go (wrap64 (s41+(1:Int)))))
     else (
      some (Lp.out (Lp.out ((t.Code.length:Int))))))
    else (
     some (Lp.out (Lp.go ())))) (n:=n) (K:=λ(_:Unit)=>some (-1:Int)) (λi=>∀ o,t.Outs[i]?=some o->0≤o∧o<(t.Code.length:Int)) (λ_=>(t.Code.length:Int)) t.Outs.length (λi hi=>by
    have hp:t.Outs[i]?=some t.Outs[i]:=List.getElem?_eq_getElem hi
    generalize t.Outs[i]=x at hp
    rw[decide_eq_true (by omega),bifT,Jd hp,sbind,w1 (by omega),w64 (by omega) (by omega)]
    exact⟨λh=>by rw[if_pos (by have:=h x hp;omega)],λh=>by rw[if_neg (λg=>h λy hy=>by rw[hp] at hy;cases hy;omega)]⟩) (by rw[decide_eq_false (by omega)];rfl) (by unfold big at hn;omega) with ⟨g3,g4⟩ | ⟨g3,j,g4⟩
   . refine⟨-1,g4,λ_=>⟨hwh,hmay,λo ho=>?_⟩,λ_=>rfl⟩
     obtain⟨i,hi⟩:=List.getElem?_of_mem ho
     have:=g3 i (Jw hi) o hi
     unfold tT;simp only[List.length_map];exact this
   . refine⟨_,g4,λh=>by omega,λh=>absurd (λi hi o ho=>?_) g3⟩
     have:=h.2.2 o (Jg ho)
     unfold tT at this;simp only[List.length_map] at this;exact this
 . refine⟨_,g2,λh=>by omega,λh=>absurd (λi hi x hx=>?_) g1⟩
   exact h.2.1 i (tI x) (Qgh tI hx)
def FKs(k:Nat)(l:List Qa):Prop:=∀ f∈l,Fk k (tF f)
theorem Qwp{f:Qa}(h:numR (tF f)):rF (fr f)=f:=Qnr.2 h.1
theorem Qgi{n k:Nat}{l:List Qa}(hn:big≤n)(hk:k<274877906944)(h1:1≤k)(h:FKs k l)(hl:l.length≤1000000):Wa n l=some (!dP (∀ f∈l,numR (tF f))):=by
 unfold Wa
 rw[Qf2 (λi=>∀ f,l[i]?=some f->numR (tF f)) l.length (r:=true)]
 . have e:(∀ i,i<l.length->∀ f,l[i]?=some f->numR (tF f))↔∀ f∈l,numR (tF f):=by
    constructor
    . intro g f hf
      obtain⟨i,hi⟩:=List.getElem?_of_mem hf
      exact g i (Jw hi) f hi
    . intro g i _ f hf;exact g f (Jg hf)
   by_cases g:∀ f∈l,numR (tF f)
   . rw[if_pos (e.2 g),dP_t g];rfl
   . rw[if_neg (λh=>g (e.1 h)),dP_f g];rfl
 . intro i hi
   have hp:l[i]?=some l[i]:=List.getElem?_eq_getElem hi
   have hf:=h l[i] (List.getElem_mem hi)
   generalize l[i]=f at hp hf
   have hP:(∀ g,l[i]?=some g->numR (tF g))↔numR (tF f):=⟨λg=>g f hp,λg y hy=>by rw[hp] at hy;cases hy;exact g⟩
   rw[hP,decide_eq_true (show(i:Int)<(l.length:Int) by omega),bifT]
   simp only[jn_eq,Jd hp,sbind]
   rw[Q0s _ hn hk h1 hf,bifnP]
   unfold numR
   by_cases c:tF f=toF (fv (tF f))
   . rw[if_pos c]
     have hr:rF (fr f)=f:=Qnr.2 c
     have hs:=Qjc (q:=fr f) hn hk (qw_fr (Fk_wd hf) h1)
     rw[hr] at hs
     rw[hs,sbind,fr_tF,w1 (by omega)]
     by_cases c2:qz (fr f)≤190
     . exact⟨λ_=>by rw[decide_eq_false (by omega),bifF],λg=>absurd ⟨c,c2⟩ g⟩
     . exact⟨λg=>absurd g.2 c2,λ_=>by rw[decide_eq_true (by omega),bifT]⟩
   . rw[if_neg c];exact⟨λg=>absurd g.1 c,λ_=>rfl⟩
 . rw[decide_eq_false (by omega)];rfl
 . unfold big at hn;omega
theorem Qwq{n k:Nat}{a:List Rat}(hn:big≤n)(h1:1≤k)(hk:k<1048576)(ha:QR k a)(hl:a.length≤1000):Wb n (rR a)=some (rF (sumQ a)):=by
 unfold Wb
 rw[Qce hn,sbind]
 rw[Vs (λi=>(rF (sumQ (a.take i)),(i:Int))) a.length (rF (sumQ a))]
 . intro i hi
   have hp:a[i]?=some a[i]:=List.getElem?_eq_getElem hi
   have q1:=ha a[i] (List.getElem_mem hi)
   generalize a[i]=x at hp q1
   have e:sumQ (a.take (i+1))=sumQ (a.take i)+x:=by rw[Qa5 hp];unfold sumQ;rw[List.foldl_append];rfl
   have hb:=Qlq (l:=a.take i) (b:=1) (z:=0) (λq hq=>ha q (List.mem_of_mem_take hq)) (by rw[Qau];exact Nat.le_refl _)
   have hc:(a.take i).length*(k+1)≤1000*1048576:=Nat.mul_le_mul (by simp;omega) (by omega)
   rw[Km,decide_eq_true (show(i:Int)<(a.length:Int) by omega),bifT,Jd (Qf3 hp),sbind,Qav (k:=2000000000) hn (by omega) (by unfold sumQ;omega) (by omega),sbind,e,w1 (by omega)]
 . rw[Km,decide_eq_false (show ¬(a.length:Int)<(a.length:Int) by omega),bifF,List.take_length]
 . unfold big at hn;omega
 . rfl
theorem Qkj{l:List Qa}(h:∀ f∈l,numR (tF f)):rR (rvr l)=l:=by
 unfold rR rvr
 rw[List.map_map]
 conv=>rhs;rw[←List.map_id l]
 exact List.map_congr_left λf hf=>Qwp (h f hf)
theorem Q0t{n k:Nat}{l:List Qa}{q:Rat}{β:Type}(g:Bool->Option β)(hn:big≤n)(h1:1≤k)(hk:k<1048576)(h:FKs k l)(hl:l.length≤8)(hr:∀ f∈l,numR (tF f)):
 ((Wb n l).bind λr=>(Jq n r (rF q)).bind g)=g (decide (sumQ (rvr l)=q)):=by
 have hq:QR k (rvr l):=Qkg (λf hf=>Fk_wd (h f hf)) h1
 have hb:=Qlq (l:=rvr l) (b:=1) (z:=0) hq (by rw[Qau];exact Nat.le_refl _)
 have hc:(rvr l).length*(k+1)≤8*1048576:=Nat.mul_le_mul (by rw[Qb1];exact hl) (by omega)
 have e:=Qwq (a:=rvr l) hn h1 hk hq (by rw[Qb1];omega)
 rw[Qkj hr] at e
 rw[e,sbind,Qtc (k:=10000000) hn (by omega) (by unfold sumQ;omega),sbind]
structure SchWr(k:Nat)(s:Ja):Prop where
 a:∀ r∈s.A,FKs k r
 al:∀ r∈s.A,r.length≤1000000
 b:FKs k s.B
 bl:s.B.length≤1000000
 c:FKs k s.C
 cl:s.C.length≤1000000
 e:FKs k s.E
 el:s.E.length≤1000000
 nl:s.Name.length≤1000000
theorem Qcm{l:List Qa}:(∀ x∈l.map tF,numR x)↔∀ f∈l,numR (tF f):=
 ⟨λh f hf=>h (tF f) (List.mem_map_of_mem hf),λh x hx=>by obtain⟨f,hf,rfl⟩:=List.mem_map.1 hx;exact h f hf⟩
theorem Q0u{σ ρ:Type}{A:(σ->Option ρ)->Option ρ}{k:σ->Option ρ}{Q:ρ->Prop}(b:σ)(hA:∀ k',A k'=k' b)(hk:∃ v,k b=some v∧Q v):∃ v,jn A k=some v∧Q v:=by rw[jn_eq,hA];exact hk
theorem Qrs{R:Type}{f:Int->Option (Lp Int (Lp Unit R))}{K:Unit->Option R}{n:Nat}{Q:R->Prop}(P:Nat->Prop)(r:R)(N:Nat)
 (hb:∀ i,i<N->(P i->f (i:Int)=some (.go ((i+1:Nat):Int)))∧(¬ P i->f (i:Int)=some (.out (.out r)))) (he:f (N:Int)=some (.out (.go ()))) (hn:N<n)
 (hK:(∀ i,i<N->P i)->∃ v,K ()=some v∧Q v) (hr:¬(∀ i,i<N->P i)->Q r):∃ v,(loopM f n 0).bind (lpK K)=some v∧Q v:=by
 rcases Qth (K:=K) P (λ_=>r) N hb he hn with ⟨g1,g2⟩ | ⟨g1,j,g2⟩
 . rw[g2];exact hK g1
 . exact⟨r,g2,hr g1⟩
theorem bifExN{ρ:Type}{b:Bool}{x:ρ}{y:Option ρ}{Q:ρ->Prop}(h1:b=false->Q x)(h2:b=true->∃ v,y=some v∧Q v):∃ v,(bif !b then some x else y)=some v∧Q v:=by
 cases b
 . exact⟨x,rfl,h1 rfl⟩
 . exact h2 rfl
theorem Qml{s:Ja}:shapeR (tS s)↔((1≤s.B.length∧s.B.length≤8)∧s.C.length=s.B.length∧s.A.length=s.B.length∧(s.E.length=s.B.length∨s.E.length=0))∧∀ i,i<s.B.length->∀ r,s.A[i]?=some r->r.length=i:=by
 have eB:(tS s).B=s.B.map tF:=rfl
 have eC:(tS s).C=s.C.map tF:=rfl
 have eE:(tS s).E=s.E.map tF:=rfl
 have eA:(tS s).A=s.A.map (·.map tF):=rfl
 unfold shapeR
 rw[eB,eC,eE,eA]
 simp only[List.length_map]
 refine⟨λh=>⟨⟨h.1,h.2.1,h.2.2.1,h.2.2.2.1⟩,λi _ r hr=>?_⟩,λh=>⟨h.1.1,h.1.2.1,h.1.2.2.1,h.1.2.2.2,λi r hr=>?_⟩⟩
 . have:=h.2.2.2.2 i (r.map tF) (Qgh _ hr);simpa using this
 . rw[List.getElem?_map] at hr
   cases hc:s.A[i]? with
   | none=>rw[hc] at hr;cases hr
   | some y=>
     rw[hc] at hr;cases hr
     have:=h.2 i (by have:=Jw hc;have:=h.1.2.2.1;omega) y hc
     simpa using this
theorem Qtj{n k:Nat}{s:Ja}(hn:big≤n)(h1:1≤k)(hk:k<1048576)(hs:SchWr k s):∃ v,Y0 n s=some v∧(v=0↔schR (tS s)):=by
 unfold Y0
 rw[Qtg hn,sbind]
 simp only[]
 unfold schR
 have eNm:(tS s).Name=s.Name:=rfl
 have eB:(tS s).B=s.B.map tF:=rfl
 have eC:(tS s).C=s.C.map tF:=rfl
 have eE:(tS s).E=s.E.map tF:=rfl
 have eA:(tS s).A=s.A.map (·.map tF):=rfl
 rw[eNm]
 refine bifExN (λhw=>⟨λh=>by omega,λh=>by rw[hw] at h;exact absurd h.1 (by decide)⟩) λhw=>?_
 refine Q0u (!decide ((1≤s.B.length∧s.B.length≤8)∧s.C.length=s.B.length∧s.A.length=s.B.length∧(s.E.length=s.B.length∨s.E.length=0))) (λk'=>?_) ?_
 . simp only[bifd,bifnd]
   have tr:∀ {P:Prop}[Decidable P],¬ P->k' true=k' (!decide P):=λh=>by rw[decide_eq_false h];rfl
   by_cases c1:(s.B.length:Int)<1
   . rw[if_pos c1];exact tr (by omega)
   rw[if_neg c1]
   by_cases c2:(8:Int)<(s.B.length:Int)
   . rw[if_pos c2];exact tr (by omega)
   rw[if_neg c2]
   by_cases c3:(s.C.length:Int)=(s.B.length:Int)
   case neg=>rw[if_neg c3];exact tr (by omega)
   rw[if_pos c3]
   by_cases c4:(s.A.length:Int)=(s.B.length:Int)
   case neg=>rw[if_neg c4];exact tr (by omega)
   rw[if_pos c4]
   by_cases c5:(s.E.length:Int)=0
   . rw[if_pos c5,decide_eq_true (by omega)];rfl
   rw[if_neg c5]
   by_cases c6:(s.E.length:Int)=(s.B.length:Int)
   . rw[decide_eq_true c6,decide_eq_true (by omega)]
   . rw[decide_eq_false c6];exact tr (by omega)
 refine bifExN (λhsh=>⟨λh=>by omega,λh=>absurd (Qml.1 h.2.1).1 (of_decide_eq_false hsh)⟩) λhsh=>?_
 have hsh:=of_decide_eq_true hsh
 obtain⟨⟨b1,b2⟩,b3,b4,b5⟩:=hsh
 have hgA:∀ i,i<s.B.length->∃ r,s.A[i]?=some r∧r∈s.A:=λi hi=>⟨s.A[i]'(by omega),List.getElem?_eq_getElem (by omega),List.getElem_mem (by omega)⟩
 have hgC:∀ i,i<s.B.length->∃ r,s.C[i]?=some r∧r∈s.C:=λi hi=>⟨s.C[i]'(by omega),List.getElem?_eq_getElem (by omega),List.getElem_mem (by omega)⟩
 have hbn:s.B.length<n:=by unfold big at hn;omega
 refine Qrs (λi=>∀ r,s.A[i]?=some r->r.length=i) 2 s.B.length (λi hi=>?_) ?_ hbn (λhlen=>?_) (λhlen=>⟨λh=>by omega,λh=>absurd (Qml.1 h.2.1).2 hlen⟩)
 . obtain⟨r,hr,_⟩:=hgA i hi
   rw[decide_eq_true (show(i:Int)<(s.B.length:Int) by omega),bifT,Jd hr,sbind,w1 (by omega)]
   exact⟨λh=>by rw[decide_eq_true (show(r.length:Int)=(i:Int) by have:=h r hr;omega)];rfl,λh=>by rw[decide_eq_false (λg=>h λy hy=>by rw[hr] at hy;cases hy;omega)];rfl⟩
 . rw[decide_eq_false (by omega)];rfl
 have hShape:shapeR (tS s):=Qml.2 ⟨⟨⟨b1,b2⟩,b3,b4,b5⟩,hlen⟩
 refine Qrs (λi=>∀ r,s.A[i]?=some r->∀ f∈r,numR (tF f)) 3 s.B.length (λi hi=>?_) ?_ hbn (λhnum=>?_) (λhnum=>⟨λh=>by omega,λh=>absurd (λi hi r hr=>Qcm.1 (h.2.2.1.1 (r.map tF) (by rw[eA];exact List.mem_map_of_mem (Jg hr)))) hnum⟩)
 . obtain⟨r,hr,hm⟩:=hgA i hi
   rw[decide_eq_true (show(i:Int)<(s.B.length:Int) by omega),bifT,Jd hr,sbind,Qgi hn (by omega) h1 (hs.a r hm) (hs.al r hm),sbind,w1 (by omega)]
   exact⟨λh=>by rw[dP_t (h r hr)];rfl,λh=>by rw[dP_f (λg=>h λy hy=>by rw[hr] at hy;cases hy;exact g)];rfl⟩
 . rw[decide_eq_false (by omega)];rfl
 refine Q0u (!dP ((∀ f∈s.B,numR (tF f))∧(∀ f∈s.C,numR (tF f))∧∀ f∈s.E,numR (tF f))) (λk'=>?_) ?_
 . rw[Qgi hn (by omega) h1 hs.b hs.bl,sbind]
   by_cases d1:∀ f∈s.B,numR (tF f)
   case neg=>rw[dP_f d1,dP_f (λh=>d1 h.1)];rfl
   rw[dP_t d1,Bool.not_true,bifF,Qgi hn (by omega) h1 hs.c hs.cl,sbind]
   by_cases d2:∀ f∈s.C,numR (tF f)
   case neg=>rw[dP_f d2,dP_f (λh=>d2 h.2.1)];rfl
   rw[dP_t d2,Bool.not_true,bifF,Qgi hn (by omega) h1 hs.e hs.el,sbind]
   by_cases d3:∀ f∈s.E,numR (tF f)
   . rw[dP_t d3,dP_t ⟨d1,d2,d3⟩]
   . rw[dP_f d3,dP_f (λh=>d3 h.2.2)]
 have hA:∀ r∈s.A,∀ f∈r,numR (tF f):=λr hr=>by
  obtain⟨i,hi⟩:=List.getElem?_of_mem hr
  exact hnum i (by have:=Jw hi;omega) r hi
 have hA':∀ r∈(tS s).A,∀ x∈r,numR x:=λr hr=>by
  rw[eA] at hr
  obtain⟨l,hl,rfl⟩:=List.mem_map.1 hr
  exact Qcm.2 (hA l hl)
 refine bifExN (λhB=>⟨λh=>by omega,λh=>?_⟩) λhB=>?_
 . exfalso
   have h3:=h.2.2.1.2
   rw[eB,eC,eE] at h3
   rw[dP_t ⟨Qcm.1 (h3 _ (by simp)),Qcm.1 (h3 _ (by simp)),Qcm.1 (h3 _ (by simp))⟩] at hB
   cases hB
 have hB:=Q4t.1 hB
 obtain⟨n1,n2,n3⟩:=hB
 have hB':∀ r∈[(tS s).B,(tS s).C,(tS s).E],∀ x∈r,numR x:=λr hr=>by
  rw[eB,eC,eE] at hr
  rcases List.mem_cons.1 hr with rfl | hr
  . exact Qcm.2 n1
  rcases List.mem_cons.1 hr with rfl | hr
  . exact Qcm.2 n2
  rcases List.mem_cons.1 hr with rfl | hr
  . exact Qcm.2 n3
  cases hr
 have eRows:rowsR (tS s)↔∀ i,i<s.B.length->∀ r c,s.A[i]?=some r->s.C[i]?=some c->sumQ (rvr r)=fr c:=by
  unfold rowsR
  rw[eA,eC]
  constructor
  . intro h i _ r c hr hc
    have:=h i (r.map tF) (Qgh _ hr)
    rw[Qf4,List.getD_eq_getElem?_getD,Qgh _ hc] at this
    exact this
  . intro h i r hr
    rw[List.getElem?_map] at hr
    cases hc:s.A[i]? with
    | none=>rw[hc] at hr;cases hr
    | some y=>
      rw[hc] at hr;cases hr
      obtain⟨c,hc2,_⟩:=hgC i (by have:=Jw hc;omega)
      rw[Qf4,List.getD_eq_getElem?_getD,Qgh _ hc2]
      exact h i (by have:=Jw hc;omega) y c hc hc2
 refine Qrs (λi=>∀ r c,s.A[i]?=some r->s.C[i]?=some c->sumQ (rvr r)=fr c) 4 s.B.length (λi hi=>?_) ?_ hbn (λhrow=>?_) (λhrow=>⟨λh=>by omega,λh=>absurd (eRows.1 h.2.2.2.1) hrow⟩)
 . obtain⟨r,hr,hm⟩:=hgA i hi
   obtain⟨c,hc,hcm⟩:=hgC i hi
   have hcr:=Qwp (n2 c hcm)
   have e:=λ(g:Bool->Option (Lp Int (Lp Unit Int)))=>Q0t (q:=fr c) g hn h1 hk (hs.a r hm) (by have:=hlen i hi r hr;omega) (hA r hm)
   rw[hcr] at e
   rw[decide_eq_true (show(i:Int)<(s.B.length:Int) by omega),bifT,Jd hr,sbind]
   simp only[Jd hc,sbind]
   rw[e,w1 (by omega)]
   exact⟨λh=>by rw[decide_eq_true (h r c hr hc)];rfl,λh=>by rw[decide_eq_false (λg=>h λy z hy hz=>by rw[hr] at hy;cases hy;rw[hc] at hz;cases hz;exact g)];rfl⟩
 . rw[decide_eq_false (by omega)];rfl
 have hRows:=eRows.2 hrow
 rw[Qnk hn,sbind,Q0t _ hn h1 hk hs.b (by omega) n1]
 have rB:rv (tS s).B=rvr s.B:=by rw[eB,Qf4]
 have rE:rv (tS s).E=rvr s.E:=by rw[eE,Qf4]
 have eE0:(tS s).E≠[]↔s.E≠[]:=by rw[eE];simp
 rw[rB,rE,eE0]
 refine bifExN (λhS=>⟨λh=>by omega,λh=>absurd h.2.2.2.2.1 (of_decide_eq_false hS)⟩) λhS=>?_
 have hS:=of_decide_eq_true hS
 refine Q0u (!dP (s.E≠[]->sumQ (rvr s.E)=1)) (λk'=>?_) ?_
 . by_cases hE:s.E=[]
   . rw[hE]
     rw[dP_t (λh=>absurd rfl h)];rfl
   . have:s.E.length≠0:=λh=>hE (List.eq_nil_of_length_eq_zero h)
     rw[decide_eq_true (show(0:Int)<(s.E.length:Int) by omega),bifT,Q0t _ hn h1 hk hs.e (by omega) n3]
     by_cases g:sumQ (rvr s.E)=1
     . rw[decide_eq_true g,dP_t (λ_=>g)]
     . rw[decide_eq_false g,dP_f (λh=>g (h hE))]
 cases hE:dP (s.E≠[]->sumQ (rvr s.E)=1)
 . rw[Bool.not_false,bifT]
   exact⟨6,rfl,λh=>by omega,λh=>by rw[dP_t h.2.2.2.2.2] at hE;cases hE⟩
 . rw[Bool.not_true,bifF]
   exact⟨0,rfl,λ_=>⟨hw,hShape,⟨hA',hB'⟩,hRows,hS,Q4t.1 hE⟩,λ_=>rfl⟩
structure PrbWr(k:Nat)(p:Qt):Prop where
 t:∀ x∈p.Tape.Code,Fk k (tF x.N)
 o:p.Tape.Outs.length≤1000000
 s:SchWr k p.Scheme
 pk:FKs k p.P
 pl:p.P.length≤1000000
theorem Qtk{n k:Nat}{p:Qt}(hn:big≤n)(h1:1≤k)(hk:k<1048576)(hp:PrbWr k p):Y1 n p=some (dP (prbR (tP p))):=by
 unfold Y1 prbR
 simp only[jn_eq]
 obtain⟨v,e1,e2⟩:=Qti hn (show k<274877906944 by omega) h1 hp.t hp.o
 obtain⟨u,e3,e4⟩:=Qtj hn h1 hk hp.s
 have eT:(tP p).Tape=tT p.Tape:=rfl
 have eS:(tP p).Scheme=tS p.Scheme:=rfl
 have eP:((tP p).P.length:Int)=(p.P.length:Int):=by unfold tP;simp
 have eR:(tT p.Tape).Par=p.Tape.Par:=rfl
 rw[e1,sbind,eT,eS,eP,eR,bifd]
 by_cases c1:v=-1
 . rw[if_pos c1,e3,sbind,bifd]
   by_cases c2:u=0
   . rw[if_pos c2];exact Qaw ⟨λh=>⟨e2.1 c1,e4.1 c2,h⟩,λh=>h.2.2⟩
   . rw[if_neg c2,dP_f λh=>c2 (e4.2 h.2.1)]
 . rw[if_neg c1,dP_f λh=>c1 (e2.2 h.1)]
theorem Qls{l:List Rat}{r:Int}(h1:0≤r)(h2:r<(l.length:Int)):getI (rR l) r=some (rF (l.getD r.toNat 0)):=by
 obtain⟨k,rfl⟩:∃ k:Nat,r=(k:Int):=⟨r.toNat,by omega⟩
 have hk:k<l.length:=by omega
 rw[Qcw,Int.toNat_natCast,Qf3 (List.getElem?_eq_getElem hk),List.getD_eq_getElem?_getD,List.getElem?_eq_getElem hk];rfl
theorem Q7j{t:Q0}{i:Nat}{x:Q2}(h:mayR t i x):x.Op=1∨x.Op=2∨x.Op=3∨x.Op=4∨x.Op=6∨x.Op=11∨x.Op=7∨x.Op=8∨x.Op=9∨x.Op=10:=by
 unfold mayR at h
 by_cases c1:x.Op=1
 . exact .inl c1
 rw[if_neg c1] at h
 by_cases c2:x.Op=2
 . omega
 rw[if_neg c2] at h
 by_cases c3:x.Op=3
 . omega
 rw[if_neg c3] at h
 by_cases c4:x.Op=4
 . omega
 rw[if_neg c4] at h
 by_cases c6:x.Op=6
 . omega
 rw[if_neg c6] at h
 by_cases c11:x.Op=11
 . omega
 rw[if_neg c11] at h
 have:=h.2.2
 unfold rdT at this
 rw[if_neg (by omega)] at this
 by_cases c7:x.Op=7∨x.Op=8∨x.Op=9∨x.Op=10
 . omega
 . rw[if_neg c7] at this;simp at this
theorem Q87{t:Q0}{i:Nat}{x:Q2}(h:mayR t i x)(h1:x.Op=1):x.N=toF (fv x.N):=by
 unfold mayR at h;rw[if_pos h1] at h;exact h.2.2
theorem Qu0{n k:Nat}{t:Jc}{x:Jp}{T:Rat}{Y P done:List Rat}(hn:big≤n)(h1:1≤k)(hk:k<1048576)(hx:mayR (tT t) done.length (tI x))(hN:Fk k (tF x.N))
 (hT:qw T≤k) (hY:QR k Y) (hP:QR k P) (hD:QR k done) (hy:(Y.length:Int)=t.Dim) (hp:(P.length:Int)=t.Par) :
 ∃ v,Xy n x ⟨rF T,rR Y,rR P⟩ (rR done)=some (match opQ (tI x) T Y P done with | none=>(v,false) | some q=>(rF q,true))∧∀ q,opQ (tI x) T Y P done=some q->qw q≤8*k+1:=by
 unfold Xy opQ Qac
 have eN:(tI x).N=tF x.N:=rfl
 have eO:(tI x).Op=x.Op:=rfl
 have eA:(tI x).A=x.A:=rfl
 have eB:(tI x).B=x.B:=rfl
 have rd:=Q13 hx
 have dA:x.Op=6∨x.Op=11∨x.Op=7∨x.Op=8∨x.Op=9∨x.Op=10->getI (rR done) x.A=some (rF (done.getD x.A.toNat 0)):=λh=>Qls (rd _ (rdT_A (x:=tI x) h)).1 (rd _ (rdT_A (x:=tI x) h)).2
 have dB:x.Op=7∨x.Op=8∨x.Op=9∨x.Op=10->getI (rR done) x.B=some (rF (done.getD x.B.toNat 0)):=λh=>Qls (rd _ (rdT_B (x:=tI x) h)).1 (rd _ (rdT_B (x:=tI x) h)).2
 have qA:qw (done.getD x.A.toNat 0)≤k:=Qb2 hD h1
 have qB:qw (done.getD x.B.toNat 0)≤k:=Qb2 hD h1
 have hop:=Q7j hx
 rw[eO] at hop
 simp only[eN,eO,eA,eB,jn_eq]
 generalize done.getD x.A.toNat 0=a at dA qA ⊢
 generalize done.getD x.B.toNat 0=b at dB qB ⊢
 rcases hop with h | h | h | h | h | h | h | h | h | h
 . simp only[h,Int.reduceEq,decide_true,decide_false,bifT,bifF,if_true,if_false]
   have hr:rF (fr x.N)=x.N:=Qnr.2 (Q87 hx h)
   have hq:=qw_fr (Fk_wd hN) h1
   refine⟨rF 0,by rw[fr_tF,hr],λq hq'=>?_⟩
   have:q=fv (tF x.N):=(Option.some.inj hq').symm
   rw[this,fr_tF];omega
 . simp only[h,Int.reduceEq,decide_true,decide_false,bifT,bifF,if_true,if_false]
   exact⟨rF 0,(by first | rfl | trivial),λq hq=>by have:q=T:=(Option.some.inj hq).symm;rw[this];omega⟩
 . obtain⟨a1,a2⟩:=Q4u hx h
   have a1':0≤x.A:=a1
   have a2':x.A<t.Dim:=a2
   have hg:getI (rR Y) x.A=some (rF (Y.getD x.A.toNat 0)):=Qls a1' (by omega)
   simp only[h,Int.reduceEq,decide_true,decide_false,bifT,bifF,if_true,if_false,hg,sbind]
   exact⟨rF 0,(by first | rfl | trivial),λq hq=>by have:q=Y.getD x.A.toNat 0:=(Option.some.inj hq).symm;rw[this];have:=Qb2 (i:=x.A.toNat) hY h1;omega⟩
 . obtain⟨a1,a2⟩:=Q4v hx h
   have a1':0≤x.A:=a1
   have a2':x.A<t.Par:=a2
   have hg:getI (rR P) x.A=some (rF (P.getD x.A.toNat 0)):=Qls a1' (by omega)
   simp only[h,Int.reduceEq,decide_true,decide_false,bifT,bifF,if_true,if_false,hg,sbind]
   exact⟨rF 0,(by first | rfl | trivial),λq hq=>by have:q=P.getD x.A.toNat 0:=(Option.some.inj hq).symm;rw[this];have:=Qb2 (i:=x.A.toNat) hP h1;omega⟩
 . have hg:=dA (by omega)
   simp only[h,Int.reduceEq,decide_true,decide_false,bifT,bifF,if_true,if_false,hg,sbind,Qpa hn (show k<274877906944 by omega) qA]
   exact⟨rF 0,(by first | rfl | trivial),λq hq=>by have:q=-a:=(Option.some.inj hq).symm;rw[this,Qrm];omega⟩
 . have hg:=dA (by omega)
   simp only[h,Int.reduceEq,decide_true,decide_false,bifT,bifF,if_true,if_false,hg,sbind,Qwh hn (show k<1073741824 by omega) qA]
   refine⟨rF 0,?_,λq hq=>?_⟩
   . split<;>rfl
   . split at hq
     . cases hq
     . rename_i hc
       cases hq
       exact Q12 qA (by omega)
 . have hg:=dA (by omega)
   have hg2:=dB (by omega)
   simp only[h,Int.reduceEq,decide_true,decide_false,bifT,bifF,if_true,if_false,hg,hg2,sbind,Qav hn (show k<274877906944 by omega) qA qB]
   exact⟨rF 0,(by first | rfl | trivial),λq hq=>by have:q=a+b:=(Option.some.inj hq).symm;rw[this];have:=Qc2 qA qB;omega⟩
 . have hg:=dA (by omega)
   have hg2:=dB (by omega)
   simp only[h,Int.reduceEq,decide_true,decide_false,bifT,bifF,if_true,if_false,hg,hg2,sbind,Qjy hn (show k<274877906944 by omega) qA qB]
   exact⟨rF 0,(by first | rfl | trivial),λq hq=>by have:q=a - b:=(Option.some.inj hq).symm;rw[this];have:=Q4c qA qB;omega⟩
 . have hg:=dA (by omega)
   have hg2:=dB (by omega)
   simp only[h,Int.reduceEq,decide_true,decide_false,bifT,bifF,if_true,if_false,hg,hg2,sbind,Qd9 hn (show k<274877906944 by omega) qA qB]
   exact⟨rF 0,(by first | rfl | trivial),λq hq=>by have:q=a*b:=(Option.some.inj hq).symm;rw[this];have:=Qd7 qA qB;omega⟩
 . have hg:=dA (by omega)
   have hg2:=dB (by omega)
   simp only[h,Int.reduceEq,decide_true,decide_false,bifT,bifF,if_true,if_false,hg,hg2,sbind,Qjb,Qpb hn (show k<274877906944 by omega) qA qB]
   by_cases h0:b=0
   . rw[decide_eq_true h0,bifT,if_pos h0]
     exact⟨rF b,(by first | rfl | trivial),λq hq=>by cases hq⟩
   . rw[decide_eq_false h0,bifF,if_neg h0]
     exact⟨rF b,(by first | rfl | trivial),λq hq=>by have:q=a / b:=(Option.some.inj hq).symm;rw[this];have:=Q4d qA qB;omega⟩
theorem Qmm{α:Type}{l:List α}{i:Nat}{x:α}(h:l[i]?=some x):l.drop i=x::l.drop (i+1):=by
 have hi:=Jw h
 rw[List.drop_eq_getElem_cons hi]
 congr 1
 rw[List.getElem?_eq_getElem hi] at h;exact Option.some.inj h
theorem Qu1{n k:Nat}{t:Jc}{T:Rat}{Y P:List Rat}{lim:Int}(hn:big≤n)(h1:129≤k)(hk:k<1048576)(ht:tapeR (tT t))(hN:∀ c∈t.Code,Fk k (tF c.N))
 (hT:qw T≤k) (hY:QR k Y) (hP:QR k P) (hy:(Y.length:Int)=t.Dim) (hp:(P.length:Int)=t.Par) (hg:lim≤4096) :
 Xz n t ⟨rF T,rR Y,rR P⟩ lim=some (match runQ lim T Y P (tT t).Code 0 [] with | .inl e=>([],e.1,(e.2:Int)) | .inr l=>(rR l,0,0)):=by
 obtain⟨⟨c1,c2,c3,c4⟩,m1,m2⟩:=ht
 have hlen:t.Code.length≤300:=by unfold tT at c4;simpa using c4
 have eC:(tT t).Code=t.Code.map tI:=rfl
 unfold Xz
 have key:∀(m i n':Nat) (done:List Rat),i+m=t.Code.length->m<n'->done.length=i->QR k done →
  (loopM (λ(s21:(List Qa)×Int)=>
  bif decide (s21.2<(t.Code.length:Int)) then (
   (getI t.Code s21.2).bind λy22=>
   (Xy n y22 ⟨rF T,rR Y,rR P⟩ s21.1).bind λr24=>
   bif !r24.2 then (
    some (Lp.out (Lp.out ((([]:List Qa),(3:Int),s21.2)))))
   else (
    (Kw n r24.1 lim).bind λr26=>
    bif !r26 then (
     some (Lp.out (Lp.out ((([]:List Qa),(6:Int),s21.2)))))
    else (
     (appM 56 s21.1 ([r24.1]:List Qa)).bind λy28=>
     some (Lp.go (y28,wrap64 (s21.2+(1:Int)))))))
  else (
   some (Lp.out (Lp.go s21.1)))) n' (rR done,(i:Int))).bind (lpK λ(t19:(List Qa))=>some (t19,(0:Int),(0:Int)))=some (match runQ lim T Y P ((tT t).Code.drop i) i done with | .inl e=>([],e.1,(e.2:Int)) | .inr l=>(rR l,0,0)):=by
  intro m
  induction m with
  | zero=>
    intro i n' done hi hn' hd hq
    rw[Yk (t:=Lp.go (rR done)) (by simp only[];rw[decide_eq_false (by omega)];rfl) (by omega),Option.bind_some,Wq,eC,List.drop_of_length_le (by simp;omega)]
    rfl
  | succ m ih=>
    intro i n' done hi hn' hd hq
    obtain⟨n'',rfl⟩:∃ n'',n'=n''+1:=⟨n' - 1,by omega⟩
    have hx:t.Code[i]?=some (t.Code[i]'(by omega)):=List.getElem?_eq_getElem (by omega)
    have hNx:=hN (t.Code[i]'(by omega)) (List.getElem_mem (by omega))
    generalize t.Code[i]'(by omega)=x at hx hNx
    have hxm:(tT t).Code[i]?=some (tI x):=by rw[eC];exact Qgh tI hx
    have hmay:=m1 i (tI x) hxm
    obtain⟨v,e1,e2⟩:=Qu0 (T:=T) (Y:=Y) (P:=P) (done:=done) hn (by omega) hk (by rw[hd];exact hmay) hNx hT hY hP hq hy hp
    rw[Qmm hxm]
    simp only[runQ]
    cases ho:opQ (tI x) T Y P done with
    | none=>
      rw[ho] at e1
      rw[Yk (t:=Lp.out ([],3,(i:Int))) (by
       simp only[]
       rw[decide_eq_true (show(i:Int)<(t.Code.length:Int) by omega),bifT,Jd hx,sbind,e1,sbind];rfl) (by omega),Option.bind_some,Qbb]
    | some q=>
      rw[ho] at e1
      have hqk:=e2 q ho
      have hf:Kw n (rF q) lim=some (decide ((qz q:Int)≤lim)):=by
       unfold Kw
       rw[Qjc (k:=8*k+1) hn (by omega) hqk,sbind]
      by_cases hz:(qz q:Int)≤lim
      . have hq129:qw q≤129:=by have:=qw_qz (q:=q) (b:=4096) (by omega);omega
        rw[Qh0 (s':=(rR (done++[q]),((i+1:Nat):Int))) (by
         simp only[]
         rw[decide_eq_true (show(i:Int)<(t.Code.length:Int) by omega),bifT,Jd hx,sbind,e1,sbind]
         simp only[]
         rw[Bool.not_true,bifF,hf,sbind,decide_eq_true hz,Bool.not_true,bifF,Kf (by simp[Km];omega) (by simp[Km];omega),sbind,w1 (by omega),Qlp])]
        rw[ih (i+1) n'' (done++[q]) (by omega) (by omega) (by simp;omega) (λz hz'=>by
         rcases List.mem_append.1 hz' with h | h
         . exact hq z h
         . rw[List.mem_singleton.1 h];omega)]
        simp only[]
        rw[if_pos hz]
      . rw[Yk (t:=Lp.out ([],6,(i:Int))) (by
         simp only[]
         rw[decide_eq_true (show(i:Int)<(t.Code.length:Int) by omega),bifT,Jd hx,sbind,e1,sbind]
         simp only[]
         rw[Bool.not_true,bifF,hf,sbind,decide_eq_false hz,Bool.not_false,bifT]) (by omega),Option.bind_some,Qbb]
        simp only[]
        rw[if_neg hz]
 have:=key t.Code.length 0 n [] (by omega) (by unfold big at hn;omega) rfl (λ_ h=>by cases h)
 rw[List.drop_zero] at this
 exact this
theorem Qu2{n:Nat}{t:Jc}{l:List Rat}(hn:big≤n)(ht:t.Outs.length≤1000000)(ho:∀ o∈t.Outs,0≤o∧o<(l.length:Int)):X0 n t (rR l)=some (rR (t.Outs.map λo=>l.getD o.toNat 0)):=by
 unfold X0
 rw[Vs (λi=>(rR ((t.Outs.take i).map λo=>l.getD o.toNat 0),(i:Int))) t.Outs.length (rR (t.Outs.map λo=>l.getD o.toNat 0))]
 . intro i hi
   have hp:t.Outs[i]?=some t.Outs[i]:=List.getElem?_eq_getElem hi
   have hb:=ho t.Outs[i] (List.getElem_mem hi)
   generalize t.Outs[i]=o at hp hb
   rw[decide_eq_true (show(i:Int)<(t.Outs.length:Int) by omega),bifT,Jd hp,sbind,Qls hb.1 hb.2,sbind,Kf (by simp[Km];omega) (by simp[Km];omega),sbind,w1 (by omega),Qa5 hp,List.map_append,List.map_singleton,Qlp]
 . rw[decide_eq_false (by omega),bifF,List.take_length]
 . unfold big at hn;omega
 . rfl
theorem Qgj{n k:Nat}{l:List Rat}{lim:Int}(hn:big≤n)(hk:k<274877906944)(hl:QR k l)(hll:l.length≤1000000):
 Kl n (rR l) lim=some (match fitQ lim l 0 with | none=>(l.length:Int) | some j=>(j:Int)):=by
 unfold Kl
 have key:∀(m i n':Nat),i+m=l.length->m<n'->(loopM (λ(s13:Int)=>
  bif decide (s13<((rR l).length:Int)) then (
   (getI (rR l) s13).bind λy14=>
   (Kw n y14 lim).bind λr16=>
   bif !r16 then (
    some (Lp.out (Lp.out (s13))))
   else (
    some (Lp.go (wrap64 (s13+(1:Int))))))
  else (
   some (Lp.out (Lp.go ())))) n' (i:Int)).bind (lpK λ(_:Unit)=>some ((rR l).length:Int))=some (match fitQ lim (l.drop i) i with | none=>(l.length:Int) | some j=>(j:Int)):=by
  intro m
  induction m with
  | zero=>
    intro i n' hi hn'
    rw[Yk (t:=Lp.go ()) (by simp only[Km];rw[decide_eq_false (by omega)];rfl) (by omega),Option.bind_some,Wq,List.drop_of_length_le (by omega),Km]
    rfl
  | succ m ih=>
    intro i n' hi hn'
    obtain⟨n'',rfl⟩:∃ n'',n'=n''+1:=⟨n' - 1,by omega⟩
    have hx:l[i]?=some (l[i]'(by omega)):=List.getElem?_eq_getElem (by omega)
    have hq:=hl (l[i]'(by omega)) (List.getElem_mem (by omega))
    generalize l[i]'(by omega)=q at hx hq
    have hf:Kw n (rF q) lim=some (decide ((qz q:Int)≤lim)):=by
     unfold Kw
     rw[Qjc (k:=k) hn (by omega) hq,sbind]
    rw[Qmm hx]
    simp only[fitQ]
    by_cases hz:(qz q:Int)≤lim
    . rw[Qh0 (s':=((i+1:Nat):Int)) (by
       simp only[Km]
       rw[decide_eq_true (show(i:Int)<(l.length:Int) by omega),bifT,Jd (Qf3 hx),sbind,hf,sbind,decide_eq_true hz,Bool.not_true,bifF,w1 (by omega)]),ih (i+1) n'' (by omega) (by omega),if_pos hz]
    . rw[Yk (t:=Lp.out (i:Int)) (by
       simp only[Km]
       rw[decide_eq_true (show(i:Int)<(l.length:Int) by omega),bifT,Jd (Qf3 hx),sbind,hf,sbind,decide_eq_false hz,Bool.not_false,bifT]) (by omega),Option.bind_some,Qbb,if_neg hz]
 have:=key l.length 0 n (by omega) (by unfold big at hn;omega)
 rw[List.drop_zero] at this
 exact this
def mixI:List Rat->List (List Rat)->Nat->Rat->Rat
 | c::cs,a::l,i,z=>mixI cs l i (z+c*a.getD i 0)
 | _,_,_,z=>z
theorem Qxu:∀ {cs:List Rat}{l:List (List Rat)}{i:Nat}{z:Rat}{c a},cs.length=l.length->mixI (cs++[c]) (l++[a]) i z=mixI cs l i z+c*a.getD i 0
 | [],[],i,z,c,a,_=>rfl
 | [],_::_,_,_,_,_,h=>by simp at h
 | _::_,[],_,_,_,_,h=>by simp at h
 | x::cs,y::l,i,z,c,a,h=>by
   simp only[List.cons_append,mixI]
   exact Qxu (by simpa using h)
theorem Qwr{l:List Rat}{i:Nat}{x:Rat}(h:l[i]?=some x):l.getD i 0=x:=by rw[List.getD_eq_getElem?_getD,h];rfl
theorem Q54{g:Rat->Rat->Rat}{a z:List Rat}{i m:Nat}(ha:a.length=m)(hz:z.length=m)(hi:i<m):(List.zipWith g a z).getD i 0=g (a.getD i 0) (z.getD i 0):=by
 have h1:a[i]?=some a[i]:=List.getElem?_eq_getElem (by omega)
 have h2:z[i]?=some z[i]:=List.getElem?_eq_getElem (by omega)
 rw[Qwr h1,Qwr h2,List.getD_eq_getElem?_getD,List.getElem?_zipWith,h1,h2];rfl
theorem Q0v{m i:Nat}(hi:i<m):∀ {cs:List Rat}{l:List (List Rat)}{z:List Rat},(∀ a∈l,a.length=m)->z.length=m->(mixQ cs l z).getD i 0=mixI cs l i (z.getD i 0)
 | [],_,z,_,_=>by simp only[mixQ,mixI]
 | _::_,[],z,_,_=>by simp only[mixQ,mixI]
 | c::cs,a::l,z,hl,hz=>by
   simp only[mixQ,mixI]
   have ha:=hl a (.head _)
   rw[Q0v hi (λb hb=>hl b (.tail _ hb)) (by simp;omega),Q54 ha hz hi]
theorem Qr5{j k:Nat}:∀ {cs:List Rat}{l:List (List Rat)}{i:Nat}{z:Rat}{b:Nat},1≤k->QR j cs->(∀ a∈l,QR k a)->qw z≤b->qw (mixI cs l i z)≤b+l.length*(j+k+1)
 | [],_,i,z,b,_,_,_,h=>by simp only[mixI];omega
 | _::_,[],i,z,b,_,_,_,h=>by simp only[mixI];omega
 | x::cs,y::l,i,z,b,h1,hc,hl,h=>by
   simp only[mixI]
   have h2:=Qc2 h (Qd7 (hc x (.head _)) (Qb2 (i:=i) (hl y (.head _)) h1))
   have:=Qr5 (i:=i) h1 (λq hq=>hc q (.tail _ hq)) (λa ha=>hl a (.tail _ ha)) h2
   rw[List.length_cons,Nat.succ_mul];omega
theorem Q55{H:Rat}{Y c:List Rat}{kss:List (List Rat)}{i:Nat}{y:Rat}(hk:∀ a∈kss,a.length=Y.length)(hy:Y[i]?=some y):(fromQ H Y c kss)[i]?=some (y+H*mixI c kss i 0):=by
 have hi:=Jw hy
 have hml:(mixQ c kss (List.replicate Y.length 0)).length=Y.length:=Qmf hk (by simp)
 have hmg:(mixQ c kss (List.replicate Y.length 0))[i]?=some (mixI c kss i 0):=by
  have:=Q0v (cs:=c) hi hk (show(List.replicate Y.length (0:Rat)).length=Y.length by simp)
  rw[Qwr (l:=List.replicate Y.length (0:Rat)) (x:=0) (by simp[hi])] at this
  rw[←this,List.getD_eq_getElem?_getD,List.getElem?_eq_getElem (by omega)];rfl
 unfold fromQ towQ addQ scaleQ
 rw[List.getElem?_zipWith,hy,List.getElem?_map,hmg];rfl
def rRR(l:List (List Rat)):List (List Qa):=l.map rR
theorem Qr6(l:List (List Rat)):(rRR l).length=l.length:=by unfold rRR;simp
theorem Q0w(l:List (List Rat))(a:List Rat):rRR (l++[a])=rRR l++[rR a]:=by unfold rRR;simp
theorem Q7k{l:List (List Rat)}{i:Nat}{a:List Rat}(h:l[i]?=some a):(rRR l)[i]?=some (rR a):=by unfold rRR;exact Qgh rR h
theorem Qws{n k i m:Nat}{H:Rat}{c:List Rat}{kss:List (List Rat)}(hn:big≤n)(h0:129≤k)(hk:k<16384)(hH:qw H≤k)(hc:QR k c)(hkq:∀ a∈kss,QR 129 a)(hl:kss.length≤8)(hcl:c.length=kss.length)(hkl:∀ a∈kss,a.length=m)(hi:i<m):
 Yi n (rR c) (rRR kss) (i:Int) (rF H)=some (rF (H*mixI c kss i 0)):=by
 unfold Yi
 rw[Qce hn,sbind]
 rw[Vs (λj=>(rF (mixI (c.take j) (kss.take j) i 0),(j:Int))) c.length (rF (mixI c kss i 0))]
 . have hq:=Qr5 (i:=i) (z:=0) (b:=1) (by omega) hc hkq (by rw[Qau];exact Nat.le_refl _)
   have h3:kss.length*(k+129+1)≤8*(k+129+1):=Nat.mul_le_mul_right _ hl
   rw[Qd9 (k:=20*k) hn (by omega) (by omega) (by omega),sbind]
 . intro j hj
   have hcj:c[j]?=some c[j]:=List.getElem?_eq_getElem hj
   have hkj:kss[j]?=some (kss[j]'(by omega)):=List.getElem?_eq_getElem (by omega)
   have q1:=hc c[j] (List.getElem_mem hj)
   have q2:=hkq (kss[j]'(by omega)) (List.getElem_mem (by omega))
   have q3:=hkl (kss[j]'(by omega)) (List.getElem_mem (by omega))
   generalize c[j]=x at hcj q1
   generalize kss[j]'(by omega)=a at hkj q2 q3
   have haq:=Qb2 (i:=i) q2 (by omega)
   have hx:=Qd7 q1 haq
   have hq:=Qr5 (i:=i) (z:=0) (b:=1) (cs:=c.take j) (l:=kss.take j) (j:=k) (k:=129) (by omega) (λq h=>hc q (List.mem_of_mem_take h)) (λa h=>hkq a (List.mem_of_mem_take h)) (by rw[Qau];exact Nat.le_refl _)
   have h3:(kss.take j).length*(k+129+1)≤8*(k+129+1):=Nat.mul_le_mul_right _ (by simp;omega)
   rw[Qa5 hcj,Qa5 hkj,Qxu (by simp;omega)]
   simp only[jn_eq]
   rw[Km,decide_eq_true (show(j:Int)<(c.length:Int) by omega),bifT,Jd (Qf3 hcj),sbind,Qjb,sbind]
   by_cases hz:x=0
   . rw[decide_eq_true hz,Bool.not_true,bifF,w1 (by omega),hz,Rat.zero_mul,Rat.add_zero]
   . rw[decide_eq_false hz,Bool.not_false,bifT,sbind,Jd (Q7k hkj),sbind,Qls (by omega) (by omega),sbind,Int.toNat_natCast,Qd9 (k:=k) hn (by omega) q1 (by omega),sbind,Qav (k:=20*k) hn (by omega) (by omega) (by omega),sbind,w1 (by omega)]
 . rw[Km,decide_eq_false (by omega),bifF,List.take_length,hcl,List.take_length]
 . unfold big at hn;omega
 . rfl
theorem Qjf{n k:Nat}{H:Rat}{Y c:List Rat}{kss:List (List Rat)}(hn:big≤n)(h0:129≤k)(hk:k<16384)(hH:qw H≤k)(hY:QR k Y)(hc:QR k c)(hkq:∀ a∈kss,QR 129 a)(hl:kss.length≤8)(hcl:c.length=kss.length)(hkl:∀ a∈kss,a.length=Y.length)(hy:Y.length≤1000):
 J9 n (rR Y) (rR c) (rRR kss) (rF H)=some (rR (fromQ H Y c kss)):=by
 unfold J9
 have hfl:=Qhk (H:=H) (Y:=Y) (c:=c) hkl
 have hmx:=λi=>Qr5 (i:=i) (z:=0) (b:=1) (cs:=c) (l:=kss) (j:=k) (k:=129) (by omega) hc hkq (by rw[Qau];exact Nat.le_refl _)
 have h3:kss.length*(k+129+1)≤8*(k+129+1):=Nat.mul_le_mul_right _ hl
 rw[Vs (λi=>(rR ((fromQ H Y c kss).take i),(i:Int))) Y.length (rR (fromQ H Y c kss))]
 . intro i hi
   have hyi:Y[i]?=some Y[i]:=List.getElem?_eq_getElem hi
   have q1:=hY Y[i] (List.getElem_mem hi)
   generalize Y[i]=y at hyi q1
   have hf:=Q55 (H:=H) (c:=c) hkl hyi
   have hm1:=hmx i
   have hm2:=Qd7 hH hm1
   rw[Km,decide_eq_true (show(i:Int)<(Y.length:Int) by omega),bifT,Jd (Qf3 hyi),sbind,Qws hn h0 hk hH hc hkq hl hcl hkl hi,sbind,Qav (k:=22*k) hn (by omega) (by omega) (by omega),sbind,Kf (by simp[Km];omega) (by simp[Km];omega),sbind,w1 (by omega),Qa5 hf,Qlp]
 . rw[Km,decide_eq_false (by omega),bifF,←hfl,List.take_length]
 . unfold big at hn;omega
 . rfl
theorem Qwt{n k:Nat}{s:Ja}(hn:big≤n)(h1:1≤k)(hk:k<1048576)(hs:SchWr k s)(hB:∀ f∈s.B,numR (tF f))(hE:∀ f∈s.E,numR (tF f))(hl:s.E.length=s.B.length)(h8:s.B.length≤8)(hne:s.E≠[]):
 Yd n s=some (rR (gapQ (tS s))):=by
 have eE0:(tS s).E≠[]:=by show s.E.map tF≠[];simpa using hne
 have eB:rv (tS s).B=rvr s.B:=Qf4 s.B
 have eE:rv (tS s).E=rvr s.E:=Qf4 s.E
 have eg:gapQ (tS s)=List.zipWith (λb e=>b - e) (rvr s.B) (rvr s.E):=by
  unfold gapQ addQ scaleQ
  rw[if_neg eE0,eB,eE,List.zipWith_map_right]
  congr 1
  funext b e
  grind
 have qB:QR k (rvr s.B):=Qkg (λf hf=>Fk_wd (hs.b f hf)) h1
 have qE:QR k (rvr s.E):=Qkg (λf hf=>Fk_wd (hs.e f hf)) h1
 have rB:=Qkj hB
 have rE:=Qkj hE
 have lB:=Qb1 s.B
 have lE:=Qb1 s.E
 unfold Yd
 rw[eg]
 generalize rvr s.B=b at *
 generalize rvr s.E=e at *
 rw[←rB,←rE]
 rw[←rB] at lB h8 hl
 rw[←rE] at lE hl
 rw[Km] at h8 hl
 rw[Km] at hl
 rw[Vs (λi=>(rR ((List.zipWith (λb e=>b - e) b e).take i),(i:Int))) b.length (rR (List.zipWith (λb e=>b - e) b e))]
 . intro i hi
   have h1':b[i]?=some b[i]:=List.getElem?_eq_getElem hi
   have h2':e[i]?=some (e[i]'(by omega)):=List.getElem?_eq_getElem (by omega)
   have q1:=qB b[i] (List.getElem_mem hi)
   have q2:=qE (e[i]'(by omega)) (List.getElem_mem (by omega))
   generalize b[i]=x at h1' q1
   generalize e[i]'(by omega)=y at h2' q2
   have hz:(List.zipWith (λb e=>b - e) b e)[i]?=some (x - y):=by rw[List.getElem?_zipWith,h1',h2']
   simp only[jn_eq,Km]
   rw[decide_eq_true (show(i:Int)<(e.length:Int) by omega),bifT,decide_eq_true (show(i:Int)<(b.length:Int) by omega),bifT,Jd (Qf3 h1'),sbind,Jd (Qf3 h2'),sbind,Qjy (k:=k) hn (by omega) q1 q2,sbind,Kf (by simp[Km];omega) (by simp[Km];omega),sbind,w1 (by omega),Qa5 hz,Qlp]
 . simp only[jn_eq,Km]
   rw[decide_eq_false (show ¬(b.length:Int)<(e.length:Int) by omega),bifF,bifF]
   have:(List.zipWith (λb e=>b - e) b e).length=b.length:=by simp;omega
   rw[←this,List.take_length]
 . unfold big at hn;omega
 . rfl
theorem Qu3{n m:Nat}(hn:big≤n)(hm:m≤300):X4 n (m:Int)=some (rR (List.replicate m 0)):=by
 unfold X4
 rw[Vs (λi=>(rR (List.replicate i 0),(i:Int))) m (rR (List.replicate m 0))]
 . intro i hi
   simp only[jn_eq]
   rw[decide_eq_true (show(i:Int)<(m:Int) by omega),bifT,decide_eq_true (show(i:Int)<300 by omega),bifT,Qce hn,sbind,Kf (by simp[Km];omega) (by simp[Km];omega),sbind,w1 (by omega),List.replicate_succ',Qlp]
 . simp only[jn_eq]
   rw[decide_eq_false (by omega),bifF,bifF]
 . unfold big at hn;omega
 . rfl
theorem Qxv:∀ {Y:List Rat}{m:Nat},Y.length=m->addQ (List.replicate m 0) Y=Y
 | [],m,h=>by unfold addQ;simp
 | x::Y,m,h=>by
   obtain⟨j,rfl⟩:∃ j,m=j+1:=⟨m - 1,by simp at h;omega⟩
   have:=Qxv (Y:=Y) (m:=j) (by simpa using h)
   unfold addQ at this ⊢
   rw[List.replicate_succ,List.zipWith_cons_cons,this]
   congr 1;grind
theorem Qu4{t:Q0}{lim:Int}{T H:Rat}{Y P:List Rat}(hlim:lim≤4096):∀ {r:List (List Rat×Rat)}{i:Nat}{yss kss:List (List Rat)}{z}{j:Nat},(∀ a∈kss,QR 129 a)->kss.length=j->yss.length=j->stagesQ t lim T H Y P r i yss kss=.inr z →
 (∀ a∈z.2,QR 129 a)∧z.2.length=j+r.length∧z.1.length=j+r.length
 | [],i,yss,kss,z,j,h1,h2,h3,h=>by
   simp only[stagesQ] at h
   cases h
   exact⟨h1,h2,h3⟩
 | x::r,i,yss,kss,z,j,h1,h2,h3,h=>by
   simp only[stagesQ] at h
   cases hs:stageQ t lim T H Y P x.1 x.2 i kss with
   | inl f=>rw[hs] at h;cases h
   | inr w=>
     rw[hs] at h
     have hw:QR 129 w.2:=by
      unfold stageQ at hs
      split at hs
      . cases hs
      . cases hf:fieldQ t lim (T+H*x.2) (fromQ H Y x.1 kss) P with
        | inl e=>rw[hf] at hs;cases hs
        | inr k=>rw[hf] at hs;cases hs;exact(Qrq hlim hf).2
     obtain⟨g1,g2,g3⟩:=Qu4 hlim (j:=j+1) (λa ha=>by
      rcases List.mem_append.1 ha with ha | ha
      . exact h1 a ha
      . rw[List.mem_singleton.1 ha];exact hw) (by simp;omega) (by simp;omega) h
     exact⟨g1,by rw[g2,List.length_cons];omega,by rw[g3,List.length_cons];omega⟩
def noMr:Q6:=⟨[],[],[],[]⟩
def toMr(z:MadeQ):Q6:=⟨rRR z.ys,rRR z.ks,rR z.next,rR z.err⟩
theorem Q7l{s:Ja}(h:schR (tS s)):(∀ r∈s.A,∀ f∈r,numR (tF f))∧(∀ f∈s.B,numR (tF f))∧(∀ f∈s.C,numR (tF f))∧∀ f∈s.E,numR (tF f):=by
 obtain⟨hA,hB⟩:=h.2.2.1
 have eB:(tS s).B=s.B.map tF:=rfl
 have eC:(tS s).C=s.C.map tF:=rfl
 have eE:(tS s).E=s.E.map tF:=rfl
 have eA:(tS s).A=s.A.map (·.map tF):=rfl
 rw[eA] at hA
 rw[eB,eC,eE] at hB
 exact⟨λr hr=>Qcm.1 (hA (r.map tF) (List.mem_map_of_mem hr)),Qcm.1 (hB _ (by simp)),Qcm.1 (hB _ (by simp)),Qcm.1 (hB _ (by simp))⟩
theorem Q14{s:Ja}(h:schR (tS s)):gapQ (tS s)=[]↔s.E=[]:=by
 obtain⟨⟨⟨g1,g2⟩,g3,g4,g5⟩,g6⟩:=Qml.1 h.2.1
 have eE:(tS s).E=s.E.map tF:=rfl
 have eB:(tS s).B=s.B.map tF:=rfl
 constructor
 . intro hg
   unfold gapQ at hg
   split at hg
   . rename_i hE;rw[eE] at hE;simpa using hE
   . have:=congrArg List.length hg
     rw[Qp6,Qja,Vj,Vj,eE,eB] at this
     simp only[List.length_map,List.length_nil] at this
     exact List.eq_nil_of_length_eq_zero (by omega)
 . intro hE;unfold gapQ;rw[if_pos (by rw[eE,hE];rfl)]
theorem Qyq{n k:Nat}{p:Qt}{T H:Rat}{Y:List Rat}(hn:big≤n)(h0:129≤k)(hk:k<8000)(hp:PrbWr k p)(hr:prbR (tP p))(hT:qw T≤k)(hH:qw H≤k)(hY:QR k Y)(hl:(Y.length:Int)=p.Tape.Dim):
 Yq n p (rF T) (rF H) (rR Y)=some (match doQ (tT p.Tape) (tS p.Scheme) (limQ p.Bits) T H Y (rvr p.P) with | .inl f=>(noMr,⟨f.Kind,f.Stage,f.At⟩) | .inr z=>(toMr z,⟨0,0,0⟩)):=by
 obtain⟨hta,hsc,hpl⟩:=hr
 have hta':tapeR (tT p.Tape):=hta
 have hsc':schR (tS p.Scheme):=hsc
 have hpl':(p.P.length:Int)=p.Tape.Par:=by
  have e:((tP p).P.length:Int)=(p.P.length:Int):=by unfold tP;simp
  rw[←e];exact hpl
 obtain⟨nA,nB,nC,nE⟩:=Q7l hsc'
 obtain⟨⟨⟨g1,g2⟩,g3,g4,g5⟩,g6⟩:=Qml.1 hsc'.2.1
 obtain⟨⟨d1,d2⟩,⟨d3,d4⟩,d5,d6⟩:=hta'.1
 have d1':1≤p.Tape.Dim:=d1
 have d2':p.Tape.Dim≤6:=d2
 have hoc:∀ o∈p.Tape.Outs,0≤o∧o<(p.Tape.Code.length:Int):=λo ho=>by
  have:=hta'.2.2 o ho
  have e:(tT p.Tape).Code.length=p.Tape.Code.length:=by unfold tT;simp
  rw[e] at this;exact this
 have hol:(p.Tape.Outs.length:Int)=p.Tape.Dim:=d5
 have hPq:QR k (rvr p.P):=Qkg (λf hf=>Fk_wd (hp.pk f hf)) (by omega)
 have hPl:((rvr p.P).length:Int)=p.Tape.Par:=by rw[Qb1];exact hpl'
 have hNorm:K6 n p.P=some (rR (rvr p.P)):=Qel hn (by omega) (λf hf=>Fk_wd (hp.pk f hf)) hp.pl
 obtain⟨lim,hlim⟩:∃ lim,lim=limQ p.Bits:=⟨_,rfl⟩
 have hlim4:lim≤4096:=by rw[hlim];unfold limQ;omega
 have eL:Qak p.Bits=some lim:=by rw[hlim];rfl
 unfold Yq
 rw[eL,sbind,←hlim]
 clear eL hlim
 have key:∀(m i n':Nat) (yss kss:List (List Rat)) (K:(List (List Qa))×(List (List Qa))->Option (Q6×X8)),i+m=p.Scheme.B.length->m<n'->yss.length=i->kss.length=i->(∀ a∈kss,QR 129 a)->(∀ a∈kss,a.length=Y.length) →
  (loopM (λ(s43:(List (List Qa))×(List (List Qa))×Int)=>
  bif decide (s43.2.2<(p.Scheme.B.length:Int)) then (
   (getI p.Scheme.A s43.2.2).bind λy44=>
   (J9 n (rR Y) y44 s43.2.1 (rF H)).bind λr46=>
   (Kl n r46 lim).bind λr48=>
   bif decide (r48<(r46.length:Int)) then (
    some (Lp.out (Lp.out (((⟨[],[],[],[]⟩:Q6),(⟨(6:Int),s43.2.2,wrap64 ((300:Int)+r48)⟩:X8))))))
   else (
    (W7 n p (rF T) (rF H) s43.2.2).bind λr50=>
    (Xg n p r50 r46).bind λr52=>
    (Xz n p.Tape r52 lim).bind λr54=>
    bif !decide (r54.2.1=(0:Int)) then (
     some (Lp.out (Lp.out (((⟨[],[],[],[]⟩:Q6),(⟨r54.2.1,s43.2.2,r54.2.2⟩:X8))))))
    else (
     (appM 24 s43.1 ([r46]:List (List Qa))).bind λy56=>
     (X0 n p.Tape r54.1).bind λr58=>
     (appM 24 s43.2.1 ([r58]:List (List Qa))).bind λy60=>
     some (Lp.go (y56,y60,wrap64 (s43.2.2+(1:Int)))))))
  else (
   some (Lp.out (Lp.go (s43.1,s43.2.1))))) n' (rRR yss,rRR kss,(i:Int))).bind (lpK K)=match stagesQ (tT p.Tape) lim T H Y (rvr p.P) ((pairQ (tS p.Scheme)).drop i) i yss kss with | .inl f=>some (noMr,⟨f.Kind,f.Stage,f.At⟩) | .inr z=>K (rRR z.1,rRR z.2):=by
  intro m
  induction m with
  | zero=>
    intro i n' yss kss K hi hn' hy1 hk1 hq hkl
    have he:(pairQ (tS p.Scheme)).drop i=[]:=by
     apply List.drop_eq_nil_of_le
     unfold pairQ tS
     rw[List.length_zip,Vj,List.length_map,List.length_map,List.length_map];omega
    rw[Yk (t:=Lp.go (rRR yss,rRR kss)) (by simp only[];rw[decide_eq_false (by omega)];rfl) (by omega),Option.bind_some,Wq,he]
    rfl
  | succ m ih=>
    intro i n' yss kss K hi hn' hy1 hk1 hq hkl
    obtain⟨n'',rfl⟩:∃ n'',n'=n''+1:=⟨n' - 1,by omega⟩
    have ha:p.Scheme.A[i]?=some (p.Scheme.A[i]'(by omega)):=List.getElem?_eq_getElem (by omega)
    have hc:p.Scheme.C[i]?=some (p.Scheme.C[i]'(by omega)):=List.getElem?_eq_getElem (by omega)
    have ham:=List.getElem_mem (l:=p.Scheme.A) (n:=i) (by omega)
    have hcm:=List.getElem_mem (l:=p.Scheme.C) (n:=i) (by omega)
    generalize p.Scheme.A[i]'(by omega)=a at ha ham
    generalize p.Scheme.C[i]'(by omega)=c at hc hcm
    have hal:=g6 i (by omega) a ha
    have hra:=Qkj (nA a ham)
    have hrc:=Qwp (nC c hcm)
    have haq:QR k (rvr a):=Qkg (λf hf=>Fk_wd (hp.s.a a ham f hf)) (by omega)
    have hcq:qw (fr c)≤k:=qw_fr (Fk_wd (hp.s.c c hcm)) (by omega)
    have hpd:=Qxp (s:=tS p.Scheme) (i:=i) (a:=a.map tF) (c:=tF c) (Qgh _ ha) (Qgh _ hc)
    rw[Qf4,fr_tF] at hpd
    rw[hpd]
    simp only[stagesQ]
    have hF:=Qjf (c:=rvr a) hn h0 (by omega) hH hY haq hq (by omega) (by rw[Qb1];omega) hkl (by omega)
    rw[hra] at hF
    have hfb:=Qp7 hY hH haq hq (by omega) h0
    have hfl:=Qhk (H:=H) (Y:=Y) (c:=rvr a) hkl
    have hRow:=Qgj (lim:=lim) hn (show 22*k<274877906944 by omega) hfb (by omega)
    unfold stageQ
    cases hf:fitQ lim (fromQ H Y (rvr a) kss) 0 with
    | some j=>
      rw[hf] at hRow
      have hj:=Qpe hf
      simp only[] at hRow ⊢
      rw[Yk (t:=Lp.out (noMr,⟨6,(i:Int),300+(j:Int)⟩)) (by
       simp only[]
       rw[decide_eq_true (show(i:Int)<(p.Scheme.B.length:Int) by omega),bifT,Jd ha,sbind,hF,sbind,hRow,sbind,Km,decide_eq_true (by omega),bifT,w64 (by omega) (by omega)];rfl) (by omega),Option.bind_some,Qbb]
    | none=>
      rw[hf] at hRow
      simp only[] at hRow ⊢
      have hmul:=Qd7 hH hcq
      have hadd:=Qc2 hT hmul
      have hMo:W7 n p (rF T) (rF H) (i:Int)=some (rF (T+H*fr c)):=by
       unfold W7
       rw[Jd hc,sbind,←hrc,Qd9 (k:=k) hn (by omega) hH hcq,sbind,fr_rF,Qav (k:=4*k) hn (by omega) (by omega) (by omega),sbind]
      have hPo:Xg n p (rF (T+H*fr c)) (rR (fromQ H Y (rvr a) kss))=some ⟨rF (T+H*fr c),rR (fromQ H Y (rvr a) kss),rR (rvr p.P)⟩:=by
       unfold Xg
       rw[hNorm,sbind]
      have hTa:=Qu1 (k:=22*k) (t:=p.Tape) (T:=T+H*fr c) (Y:=fromQ H Y (rvr a) kss) (P:=rvr p.P) (lim:=lim) hn (by omega) (by omega) hta' (λx hx=>X6 (hp.t x hx) (by omega)) (by omega) hfb (K2 hPq (by omega)) (by rw[hfl];exact hl) hPl hlim4
      unfold fieldQ
      cases hru:runQ lim (T+H*fr c) (fromQ H Y (rvr a) kss) (rvr p.P) (tT p.Tape).Code 0 [] with
      | inl e=>
        rw[hru] at hTa
        have hkd:=Qno hru
        simp only[] at hTa ⊢
        rw[Yk (t:=Lp.out (noMr,⟨e.1,(i:Int),(e.2:Int)⟩)) (by
         simp only[]
         rw[decide_eq_true (show(i:Int)<(p.Scheme.B.length:Int) by omega),bifT,Jd ha,sbind,hF,sbind,hRow,sbind,Km,decide_eq_false (by omega),bifF,hMo,sbind,hPo,sbind,hTa,sbind]
         simp only[]
         rw[decide_eq_false (show ¬ e.1=0 by omega),Bool.not_false,bifT];rfl) (by omega),Option.bind_some,Qbb]
      | inr l=>
        rw[hru] at hTa
        obtain⟨l1,l2⟩:=Qr2 hlim4 (λ_ h=>by cases h) hru
        have l1':l.length=p.Tape.Code.length:=by rw[l1];unfold tT;simp
        have hOu:=Qu2 (t:=p.Tape) (l:=l) hn hp.o (by rw[l1'];exact hoc)
        simp only[] at hTa ⊢
        have hoe:(tT p.Tape).Outs=p.Tape.Outs:=rfl
        rw[hoe]
        rw[Qh0 (s':=(rRR (yss++[fromQ H Y (rvr a) kss]),rRR (kss++[p.Tape.Outs.map λo=>l.getD o.toNat 0]),((i+1:Nat):Int))) (by
         simp only[]
         rw[decide_eq_true (show(i:Int)<(p.Scheme.B.length:Int) by omega),bifT,Jd ha,sbind,hF,sbind,hRow,sbind,Km,decide_eq_false (by omega),bifF,hMo,sbind,hPo,sbind,hTa,sbind]
         simp only[]
         rw[decide_eq_true trivial,Bool.not_true,bifF,Kf (by simp[Qr6];omega) (by simp[Qr6];omega),sbind,hOu,sbind,Kf (by simp[Qr6];omega) (by simp[Qr6];omega),sbind,w1 (by omega),Q0w,Q0w])]
        exact ih (i+1) n'' _ _ K (by omega) (by omega) (by simp;omega) (by simp;omega) (λb hb=>by
         rcases List.mem_append.1 hb with h | h
         . exact hq b h
         . rw[List.mem_singleton.1 h]
           intro q hq'
           obtain⟨o,_,rfl⟩:=List.mem_map.1 hq'
           exact Qb2 l2 (by omega)) (λb hb=>by
         rcases List.mem_append.1 hb with h | h
         . exact hkl b h
         . rw[List.mem_singleton.1 h];simp;omega)
 have hkey:=key p.Scheme.B.length 0 n [] [] (λ(t41:(List (List Qa))×(List (List Qa)))=>
 (J9 n (rR Y) p.Scheme.B t41.2 (rF H)).bind λr62=>
 (Kl n r62 lim).bind λr64=>
 bif decide (r64<(r62.length:Int)) then (
  some ((⟨[],[],[],[]⟩:Q6),(⟨(6:Int),(p.Scheme.B.length:Int),wrap64 ((300:Int)+r64)⟩:X8)))
 else (
  jn (λ(j76:((List Qa))->Option _)=>
   bif decide ((0:Int)<(p.Scheme.E.length:Int)) then (
    (X4 n ((rR Y).length:Int)).bind λr79=>
    (Yd n p.Scheme).bind λr81=>
    (J9 n r79 r81 t41.2 (rF H)).bind λr83=>
    j76 r83)
   else (
    j76 [])) (λ(s78:(List Qa))=>
   (Kl n s78 lim).bind λr85=>
   bif decide (r85<(s78.length:Int)) then (
    some ((⟨[],[],[],[]⟩:Q6),(⟨(6:Int),wrap64 ((p.Scheme.B.length:Int)+(1:Int)),wrap64 ((300:Int)+r85)⟩:X8)))
   else (
    some ((⟨t41.1,t41.2,r62,s78⟩:Q6),(⟨0,0,0⟩:X8)))))) (by omega) (by unfold big at hn;omega) rfl rfl (λ_ h=>by cases h) (λ_ h=>by cases h)
 refine hkey.trans ?_
 clear hkey key
 rw[List.drop_zero]
 unfold doQ
 have epair:List.zip ((tS p.Scheme).A.map rv) (rv (tS p.Scheme).C)=pairQ (tS p.Scheme):=rfl
 rw[epair]
 cases hst:stagesQ (tT p.Tape) lim T H Y (rvr p.P) (pairQ (tS p.Scheme)) 0 [] [] with
 | inl f=>rfl
 | inr z=>
   simp only[]
   obtain⟨z1,z2,z3,z4⟩:=Qnq (m:=Y.length) hlim4 (by have e:((tT p.Tape).Outs.length:Int)=p.Tape.Dim:=hol;omega) rfl (λ_ h=>by cases h) (λ_ h=>by cases h) hst
   obtain⟨y1,y2,y3⟩:=Qu4 hlim4 (λ_ h=>by cases h) rfl rfl hst
   have hzl:z.2.length=p.Scheme.B.length:=by
    rw[y2]
    show 0+(pairQ (tS p.Scheme)).length=_
    unfold pairQ tS
    rw[List.length_zip,Vj,List.length_map,List.length_map,List.length_map];omega
   have hrB:=Qkj nB
   have hBq:QR k (rvr p.Scheme.B):=Qkg (λf hf=>Fk_wd (hp.s.b f hf)) (by omega)
   have hF:=Qjf (c:=rvr p.Scheme.B) hn h0 (by omega) hH hY hBq y1 (by omega) (by rw[Qb1];omega) z1 (by omega)
   rw[hrB] at hF
   have hfb:=Qp7 hY hH hBq y1 (by omega) h0
   have hfl:=Qhk (H:=H) (Y:=Y) (c:=rvr p.Scheme.B) z1
   have hRow:=Qgj (lim:=lim) hn (show 22*k<274877906944 by omega) hfb (by omega)
   have eB:rv (tS p.Scheme).B=rvr p.Scheme.B:=Qf4 _
   have eBl:((tS p.Scheme).B.length:Int)=(p.Scheme.B.length:Int):=by unfold tS;simp
   unfold endQ
   rw[eB,eBl,hF,sbind,hRow,sbind]
   cases hf:fitQ lim (fromQ H Y (rvr p.Scheme.B) z.2) 0 with
   | some j=>
     have hj:=Qpe hf
     simp only[]
     rw[Km,decide_eq_true (by omega),bifT,w64 (by omega) (by omega)];rfl
   | none=>
     simp only[]
     rw[Km,decide_eq_false (by omega),bifF,jn_eq]
     by_cases hE:p.Scheme.E=[]
     . have hg:=(Q14 hsc').2 hE
       rw[hE,if_pos hg]
       have h00:=Qgj (k:=1) (l:=[]) (lim:=lim) hn (by decide) (λ_ h=>by cases h) (by simp)
       have h00':Kl n [] lim=some 0:=h00
       rw[decide_eq_false (by simp),bifF]
       simp only[]
       rw[h00',sbind,decide_eq_false (by simp),bifF]
       rfl
     . have hg:gapQ (tS p.Scheme)≠[]:=λh=>hE ((Q14 hsc').1 h)
       have hEl:p.Scheme.E.length≠0:=λh=>hE (List.eq_nil_of_length_eq_zero h)
       have hgapl:(gapQ (tS p.Scheme)).length=p.Scheme.B.length:=by
        have eE:(tS p.Scheme).E=p.Scheme.E.map tF:=rfl
        have eB2:(tS p.Scheme).B=p.Scheme.B.map tF:=rfl
        unfold gapQ
        rw[if_neg (by rw[eE];simpa using hE),Qp6,Qja,Vj,Vj,eE,eB2];simp;omega
       have hgq:QR (2*k+2) (gapQ (tS p.Scheme)):=by
        have hs:SchW k (tS p.Scheme):=⟨λr hr=>by
         have eA:(tS p.Scheme).A=p.Scheme.A.map (·.map tF):=rfl
         rw[eA] at hr
         obtain⟨l,hl',rfl⟩:=List.mem_map.1 hr
         intro x hx
         obtain⟨f,hf',rfl⟩:=List.mem_map.1 hx
         exact hp.s.a l hl' f hf',λx hx=>by
         obtain⟨f,hf',rfl⟩:=List.mem_map.1 hx
         exact hp.s.b f hf',λx hx=>by
         obtain⟨f,hf',rfl⟩:=List.mem_map.1 hx
         exact hp.s.c f hf',λx hx=>by
         obtain⟨f,hf',rfl⟩:=List.mem_map.1 hx
         exact hp.s.e f hf',by
         have:=hp.s.nl
         show p.Scheme.Name.length≤_
         omega⟩
        exact Q4x (by omega) hs
       have hGap:=Qwt hn (show 1≤k by omega) (by omega) hp.s nB nE (by omega) g2 hE
       have hF2:=Qjf (k:=2*k+2) (Y:=List.replicate Y.length 0) (c:=gapQ (tS p.Scheme)) hn (by omega) (by omega) (show qw H≤2*k+2 by omega) (K2 (Q0n _) (by omega)) hgq y1 (by omega) (by omega) (by simpa using z1) (by simp;omega)
       have e0:fromQ H (List.replicate Y.length 0) (gapQ (tS p.Scheme)) z.2=towQ H Y.length (gapQ (tS p.Scheme)) z.2:=by
        unfold fromQ
        rw[List.length_replicate,Qxv (Qlr z1)]
       rw[e0] at hF2
       have htl:=Qlr (H:=H) (c:=gapQ (tS p.Scheme)) z1
       have htb:=Qr3 (m:=Y.length) (show qw H≤2*k+2 by omega) hgq y1 (by omega) (by omega)
       have hRow2:=Qgj (lim:=lim) hn (show 20*(2*k+2)<274877906944 by omega) htb (by omega)
       rw[if_neg hg,decide_eq_true (show(0:Int)<(p.Scheme.E.length:Int) by omega),bifT,Km Y,Qu3 hn (by omega),sbind,hGap,sbind,hF2,sbind]
       simp only[]
       rw[hRow2,sbind]
       cases hf2:fitQ lim (towQ H Y.length (gapQ (tS p.Scheme)) z.2) 0 with
       | some j=>
         have hj:=Qpe hf2
         simp only[]
         rw[Km,decide_eq_true (by omega),bifT,w64 (x:=300+(j:Int)) (by omega) (by omega),w1 (by omega)]
         rfl
       | none=>
         simp only[]
         rw[Km,decide_eq_false (by omega),bifF]
         rfl
theorem Qxw{lim:Int}:∀ {l:List Rat}{i:Nat},fitQ lim l i=none->∀ q∈l,(qz q:Int)≤lim
 | [],_,_,q,hq=>by cases hq
 | x::l,i,h,q,hq=>by
   simp only[fitQ] at h
   split at h
   . rename_i hx
     rcases List.mem_cons.1 hq with rfl | hq
     . exact hx
     . exact Qxw h q hq
   . cases h
theorem Q15{lim:Int}{l:List Rat}(hlim:lim≤4096)(h:fitQ lim l 0=none):QR 129 l:=λq hq=>by
 have h1:=Qxw h q hq
 have h2:=qw_qz (q:=q) (b:=4096) (by omega)
 omega
theorem Qp8{p:Qs}{T H:Rat}{Y:List Rat}{z:MadeQ}(h:stepQ p T H Y=.inr z):prbR p∧(Y.length:Int)=p.Tape.Dim∧QR 129 z.next∧z.next.length=Y.length∧QR 129 z.err:=by
 unfold stepQ at h
 by_cases hc:prbR p∧(Y.length:Int)=p.Tape.Dim
 case neg=>rw[if_neg hc] at h;cases h
 rw[if_pos hc] at h
 refine⟨hc.1,hc.2,?_⟩
 have hdim:=hc.1.1.1
 unfold doQ at h
 cases hz:stagesQ p.Tape (limQ p.Bits) T H Y (rv p.P) (List.zip (p.Scheme.A.map rv) (rv p.Scheme.C)) 0 [] [] with
 | inl e=>rw[hz] at h;cases h
 | inr w=>
   rw[hz] at h
   simp only[] at h
   obtain⟨g1,g2,g3,g4⟩:=Qnq (m:=Y.length) (by unfold limQ;omega) (by have:=hdim.2.2.1;omega) rfl (λ_ h=>by cases h) (λ_ h=>by cases h) hz
   unfold endQ at h
   have hlim:limQ p.Bits≤4096:=by unfold limQ;omega
   split at h
   . cases h
   . rename_i hf
     split at h
     . cases h
     . rename_i hf2
       cases h
       exact⟨Q15 hlim hf,Qhk g1,Q15 hlim hf2⟩
structure TryQ where
 T:Rat
 H:Rat
 Err:Rat
 Y:List Rat
noncomputable def marchQ(p:Qs):List Rat->Nat->Rat->List Rat->List TryQ->Qe ⊕ (List TryQ×Rat×List Rat)
 | [],_,T,Y,tr=>.inr (tr,T,Y)
 | h::hs,i,T,Y,tr=>match stepQ p T h Y with
   | .inl f=>.inl ⟨f.Kind,(i:Int)+1,f.Stage,f.At⟩
   | .inr z=>marchQ p hs (i+1) (T+h) z.next (tr++[⟨T,h,normQ z.err,Y⟩])
def toTry(t:TryQ):Qy:=⟨toF t.T,toF t.H,toF t.H,toF t.Err,toR t.Y,true⟩
def noH:Qw:=⟨[],⟨⟨false,[]⟩,[]⟩,[]⟩
def posQ(hs:List Rat):Prop:=(∀ h∈hs,0<h.num.sign)∧hs.length≤200
def mayQ(p:Qs)(Y hs:List Rat):Prop:=prbR p∧(Y.length:Int)=p.Tape.Dim∧posQ hs
theorem Qwu{n k:Nat}{hs:List Qb}(hn:big≤n)(h1:1≤k)(hk:k<1048576)(hh:FR k hs):Qgx n hs=some (dP (posQ (rv hs))):=by
 classical
 unfold Qgx
 rw[Qc1 (λ_ (x:Qb)=>0<(fv x).num.sign) (r:=false),Qmg]
 . have e:(∀ a∈hs,0<(fv a).num.sign)↔∀ h∈rv hs,0<h.num.sign:=by
    constructor
    . intro g h hm
      obtain⟨x,hx,rfl⟩:=List.mem_map.1 hm
      exact g x hx
    . intro g x hx;exact g (fv x) (List.mem_map_of_mem hx)
   by_cases g:∀ a∈hs,0<(fv a).num.sign
   . rw[if_pos g];exact Qaw ⟨λh=>⟨e.1 g,by rw[Vj];omega⟩,λh=>by have:=h.2;rw[Vj] at this;omega⟩
   . rw[if_neg g,dP_f λh=>g (e.2 h.1)]
 . intro i x hx
   rw[Qd8 hn h1 (by omega) (hh x (Jg hx)),sbind]
   constructor
   . intro h;rw[decide_eq_false (by omega)];rfl
   . intro h;rw[decide_eq_true (by omega)];rfl
theorem Q16{l:List Rat}:scaleQ 1 l=l:=by
 unfold scaleQ
 conv=>rhs;rw[←List.map_id l]
 exact List.map_congr_left λq _=>by show 1*q=q;grind
theorem Q40{k:Nat}{l:List Rat}(h1:1≤k)(h:QR k l):qw (normQ l)≤k:=by
 have key:∀(l:List Rat) (b:Rat),QR k l->qw b≤k->qw (l.foldl (λb x=>maxQ b (absQ x)) b)≤k:=by
  intro l
  induction l with
  | nil=>intro b _ hb;exact hb
  | cons x l ih=>intro b hl hb;exact ih _ (λq hq=>hl q (.tail _ hq)) (Q0l hb (by rw[Qro];exact hl x (.head _)))
 exact key l 0 h (by rw[Qau];exact h1)
theorem Q41:qw 1=1:=by
 unfold qw;rw[show(1:Rat).num=1 from rfl,show(1:Rat).den=1 from rfl,show(1:Int).natAbs=1 from rfl,toL1];rfl
theorem Qtl{n j k a:Nat}{p:Qs}{t:Qb}{y hs:List Qb}(hn:big≤n)(h1:1≤a)(hj:1≤j)(hk:a+200*(j+1)+129≤k)(hk2:k<8000)(hw:PrbW k p)(ht:Fk a t)(hy:FR a y)(hyl:y.length≤1000)(hh:FR j hs):
 Qai n p t y hs=some (@ite _ (mayQ p (rv y) (rv hs)) (Classical.propDecidable _) (match marchQ p (rv hs) 0 (fv t) (rv y) [] with | .inl f=>(noH,f) | .inr z=>(⟨z.1.map toTry,toF z.2.1,toR z.2.2⟩,⟨0,0,0,0⟩)) (noH,⟨2,0,0,0⟩))∧(mayQ p (rv y) (rv hs)->∀ f,marchQ p (rv hs) 0 (fv t) (rv y) []=.inl f->f.Kind≠0):=by
 unfold Qai mayQ
 simp only[jn_eq]
 rw[Quy hn (by omega) hk2 hw,sbind,bifnP,Vj]
 by_cases hr:prbR p
 case neg=>rw[if_neg hr,if_neg (λh=>hr h.1),bifT];exact⟨rfl,λh=>absurd h.1 hr⟩
 rw[if_pos hr]
 by_cases hl:(y.length:Int)=p.Tape.Dim
 case neg=>rw[decide_eq_false hl,if_neg (λh=>hl h.2.1),Bool.not_false,bifT,bifT];exact⟨rfl,λh=>absurd h.2.1 hl⟩
 rw[decide_eq_true hl,Bool.not_true,bifF,Qwu (k:=j) hn (by omega) (by omega) hh,sbind]
 by_cases hp:posQ (rv hs)
 case neg=>rw[dP_f hp,if_neg (λh=>hp h.2.2),Bool.not_false,bifT];exact⟨rfl,λh=>absurd h.2.2 hp⟩
 rw[dP_t hp,if_pos ⟨hr,hl,hp⟩,Bool.not_true,bifF]
 have hlen:=hp.2
 rw[Vj] at hlen
 have hyq:=QR_rv hy h1
 have htq:=qw_fv ht h1
 rw[Vz hn (Fk_Fw ht (by omega)),sbind,Qkz hn,sbind,Qgg (k:=a) hn (by omega) (by omega) (K4 (by rw[Q41];exact h1)) hy (by omega),sbind,J8,Q16]
 have key:∀(hs:List Qb) (i:Nat) (T:Rat) (Y:List Rat) (tr:List TryQ),FR j hs->i+hs.length≤200->tr.length=i->qw T≤a+i*(j+1)->QR (max a 129) Y->(Y.length:Int)=p.Tape.Dim →
  (rangeL (λ(i48:Nat) (x49:Qb) (s47:(List Qy)×Qb×(List Qb))=>
   (Ku n x49).bind λr51=>
   (Qhq n p s47.2.1 r51 s47.2.2).bind λr53=>
   bif !(Q9 r53.2 (⟨0,0,0,0⟩:Qe)) then (
    some (Lp.out (((⟨[],(⟨(⟨false,[]⟩:Qf),[]⟩:Qb),[]⟩:Qw),(⟨r53.2.Kind,wrap64 ((i48:Int)+(1:Int)),r53.2.Stage,r53.2.At⟩:Qe)))))
   else (
    (Qeh n r53.1.Err).bind λr55=>
    (appM 256 s47.1 ([(⟨s47.2.1,r51,r51,r55,s47.2.2,true⟩:Qy)]:List Qy)).bind λy57=>
    (Wz n s47.2.1 r51).bind λr59=>
    some (Lp.go (y57,r59,r53.1.Next)))) hs i (tr.map toTry,toF T,toR Y)).bind (lpK λ(s61:(List Qy)×Qb×(List Qb))=>
  some ((⟨s61.1,s61.2.1,s61.2.2⟩:Qw),(⟨0,0,0,0⟩:Qe)))=some (match marchQ p (rv hs) i T Y tr with | .inl f=>(noH,f) | .inr z=>(⟨z.1.map toTry,toF z.2.1,toR z.2.2⟩,⟨0,0,0,0⟩))∧∀ f,marchQ p (rv hs) i T Y tr=.inl f->f.Kind≠0:=by
  intro hs
  induction hs with
  | nil=>
    intro i T Y tr _ _ _ _ _ _
    exact⟨rfl,λf h=>by cases h⟩
  | cons h hs ih=>
    intro i T Y tr hh hi htr hT hY hYl
    rw[List.length_cons] at hi
    have hh1:=hh h (.head _)
    have hb:i*(j+1)≤199*(j+1):=Nat.mul_le_mul_right _ (by omega)
    have hq:=qw_fv hh1 hj
    simp only[rangeL,rv,List.map_cons,marchQ]
    rw[Vz hn (Fk_Fw hh1 (by omega)),sbind]
    obtain⟨d1,d2⟩:=Q0o (p:=p) (t:=toF T) (h:=toF (fv h)) (y:=toR Y) hn (by omega) hk2 hw (K4 (by omega)) (K4 (by omega)) (Qa4 (K2 hY (by omega)))
    rw[J8,J8,Qeu] at d1 d2
    rw[d1,sbind]
    cases hs':stepQ p T (fv h) Y with
    | inl f=>
      have hf:=d2 f hs'
      obtain⟨f1,f2,f3,f4⟩:=f
      simp only[]
      rw[Qec hf,Bool.not_false,bifT,sbind,w1 (by omega)]
      exact⟨rfl,λg hg=>by cases hg;exact hf⟩
    | inr z=>
      obtain⟨_,_,z1,z2,z3⟩:=Qp8 hs'
      simp only[]
      rw[Qa6,Bool.not_true,bifF]
      show(((Qeh n (toR z.err)).bind λr55=>(appM 256 (tr.map toTry) [(⟨toF T,toF (fv h),toF (fv h),r55,toR Y,true⟩:Qy)]).bind λy57=>(Wz n (toF T) (toF (fv h))).bind λr59=>some (Lp.go (y57,r59,toR z.next))).bind _).bind _=_∧_
      rw[Qyh (k:=129) hn (by omega) (by omega) (Qa4 z3),sbind,Qeu,Kf (by simp;omega) (by simp;omega),sbind,Qbi (k:=k) hn (by omega) (by omega) (K4 (by omega)) (K4 (by omega)),sbind,sbind,J8,J8]
      have e1:tr.map toTry++[(⟨toF T,toF (fv h),toF (fv h),toF (normQ z.err),toR Y,true⟩:Qy)]=(tr++[(⟨T,fv h,normQ z.err,Y⟩:TryQ)]).map toTry:=by rw[List.map_append];rfl
      rw[e1]
      refine ih (i+1) (T+fv h) z.next (tr++[⟨T,fv h,normQ z.err,Y⟩]) (λx hx=>hh x (.tail _ hx)) (by omega) (by simp;omega) ?_ (K2 z1 (by omega)) (by rw[z2];exact hYl)
      have:=Qc2 hT hq
      rw[Nat.succ_mul];omega
 have:=key hs 0 (fv t) (rv y) [] hh (by omega) rfl (by omega) (K2 hyq (by omega)) (by rw[Vj];exact hl)
 exact⟨this.1,λ_=>this.2⟩
theorem Qtm{p:Qs}{a j:Nat}:∀ {hs:List Rat}{i:Nat}{T:Rat}{Y:List Rat}{tr:List TryQ}{z},qw T≤a+i*(j+1)->QR j hs->QR (max a 129) Y->(Y.length:Int)=p.Tape.Dim->marchQ p hs i T Y tr=.inr z →
 qw z.2.1≤a+(i+hs.length)*(j+1)∧QR (max a 129) z.2.2∧(z.2.2.length:Int)=p.Tape.Dim∧z.1.length=tr.length+hs.length
 | [],i,T,Y,tr,z,hT,hj,hY,hl,h=>by cases h;exact⟨hT,hY,hl,rfl⟩
 | x::hs,i,T,Y,tr,z,hT,hj,hY,hl,h=>by
   simp only[marchQ] at h
   cases hs':stepQ p T x Y with
   | inl g=>rw[hs'] at h;cases h
   | inr w=>
     rw[hs'] at h
     obtain⟨_,_,z1,z2,z3⟩:=Qp8 hs'
     have hx:=Qc2 hT (hj x (.head _))
     obtain⟨g1,g2,g3,g4⟩:=Qtm (a:=a) (j:=j) (by rw[Nat.succ_mul];omega) (λq hq=>hj q (.tail _ hq)) (K2 z1 (by omega)) (by rw[z2];exact hl) h
     rw[List.length_cons]
     refine⟨by rw[show i+(hs.length+1)=i+1+hs.length by omega];exact g1,g2,g3,by rw[g4];simp;omega⟩
set_option maxRecDepth 100000
theorem w38:Wh big=some true:=by kernel_rfl
theorem Fk_tF{k:Nat}{x:Qa}(hB:K9 x)(h:x.N.length≤k∧x.D.length≤k):Fk k (tF x):=⟨hB.2.1.2,h.1,hB.2.2.1.2,h.2⟩
theorem FR_tF{many k:Nat}{l:List Qa}(hB:J2 l)(h:FL many k l):FR k (l.map tF):=λx hx=>by
 obtain⟨y,hy,rfl⟩:=List.mem_map.1 hx
 exact Fk_tF (hB.2 y hy) (h.2 y hy)
theorem Q7m{a b k:Nat}{p:Qt}{bits:Int}(hB:Z1 p)(hk:k≤129)
 (h:(p.Tape.Code.length≤a∧p.Tape.Outs.length≤a∧∀ c∈p.Tape.Code,c.N.N.length≤k∧c.N.D.length≤k)∧(p.Scheme.Name.length≤50∧p.Scheme.A.length≤b∧FL b 4 p.Scheme.B∧FL b 4 p.Scheme.C∧FL b 4 p.Scheme.E∧∀ r∈p.Scheme.A,FL b 4 r)∧FL 6 k p.P) :
 PrbW 129 ⟨tT p.Tape,tS p.Scheme,p.P.map tF,bits⟩:=by
 obtain⟨bt,bs,bp,_⟩:=hB
 obtain⟨⟨t1,t2,t3⟩,⟨s1,s2,s3,s4,s5,s6⟩,p1⟩:=h
 refine⟨λc hc=>?_,bt.2.2.1,⟨λr hr=>?_,Qbc (FR_tF bs.2.2.2.1 s3) (by omega),Qbc (FR_tF bs.2.1 s4) (by omega),Qbc (FR_tF bs.2.2.2.2.1 s5) (by omega),by show p.Scheme.Name.length≤_;omega⟩,Qbc (FR_tF bp p1) hk⟩
 . obtain⟨d,hd,rfl⟩:=List.mem_map.1 hc
   exact X6 (Fk_tF (bt.1.2 d hd).2.2.2.1 (t3 d hd)) hk
 . obtain⟨d,hd,rfl⟩:=List.mem_map.1 hr
   exact Qbc (FR_tF (bs.2.2.1.2 d hd) (s6 d hd)) (by omega)
theorem PrbW.mono{j k:Nat}{p:Qs}(h:PrbW j p)(hk:j≤k):PrbW k p:=
 ⟨λc hc=>X6 (h.t c hc) hk,h.d,⟨λr hr=>Qbc (h.s.a r hr) hk,Qbc h.s.b hk,Qbc h.s.c hk,Qbc h.s.e hk,h.s.n⟩,Qbc h.p hk⟩
set_option maxRecDepth 100000
theorem Q3a{t:Q0}{lim:Int}{T H:Rat}{Y P a:List Rat}{c:Rat}{i:Nat}{kss:List (List Rat)}{f}(h:stageQ t lim T H Y P a c i kss=.inl f):f.Kind≠0:=by
 unfold stageQ at h
 split at h
 . cases h;show(6:Int)≠0;decide
 . cases hf:fieldQ t lim (T+H*c) (fromQ H Y a kss) P with
   | inl e=>rw[hf] at h;cases h;have:=Qsw hf;show e.1≠0;omega
   | inr k=>rw[hf] at h;cases h
theorem Qsy{t:Q0}{lim:Int}{T H:Rat}{Y P:List Rat}:∀ {r:List (List Rat×Rat)}{i:Nat}{yss kss:List (List Rat)}{f},stagesQ t lim T H Y P r i yss kss=.inl f->f.Kind≠0
 | [],i,yss,kss,f,h=>by simp only[stagesQ] at h;cases h
 | x::r,i,yss,kss,f,h=>by
   simp only[stagesQ] at h
   cases hs:stageQ t lim T H Y P x.1 x.2 i kss with
   | inl g=>rw[hs] at h;cases h;exact Q3a hs
   | inr w=>rw[hs] at h;exact Qsy h
theorem Q56{t:Q0}{s:Qr}{lim:Int}{T H:Rat}{Y P:List Rat}{f}(h:doQ t s lim T H Y P=.inl f):f.Kind≠0:=by
 unfold doQ at h
 cases hst:stagesQ t lim T H Y P (List.zip (s.A.map rv) (rv s.C)) 0 [] [] with
 | inl g=>rw[hst] at h;cases h;exact Qsy hst
 | inr z=>
   rw[hst] at h
   simp only[] at h
   unfold endQ at h
   split at h
   . cases h;show(6:Int)≠0;decide
   . split at h
     . cases h;show(6:Int)≠0;decide
     . cases h
theorem Q57{p:Qt}{T H:Rat}{Y:List Rat}(hr:prbR (tP p))(hl:(Y.length:Int)=p.Tape.Dim):stepQ (tP p) T H Y=doQ (tT p.Tape) (tS p.Scheme) (limQ p.Bits) T H Y (rvr p.P):=by
 unfold stepQ
 rw[if_pos ⟨hr,hl⟩,show rv (tP p).P=rvr p.P from Qf4 p.P]
 rfl
theorem Q58{a b k:Nat}{p:Qt}(hB:Z1 p)(hk:k≤129)(ha:a≤1000000)(hb:b≤1000000)
 (h:(p.Tape.Code.length≤a∧p.Tape.Outs.length≤a∧∀ c∈p.Tape.Code,c.N.N.length≤k∧c.N.D.length≤k)∧(p.Scheme.Name.length≤50∧p.Scheme.A.length≤b∧FL b 4 p.Scheme.B∧FL b 4 p.Scheme.C∧FL b 4 p.Scheme.E∧∀ r∈p.Scheme.A,FL b 4 r)∧FL 6 k p.P) :
 PrbWr 129 p:=by
 obtain⟨bt,bs,bp,_⟩:=hB
 obtain⟨⟨t1,t2,t3⟩,⟨s1,s2,s3,s4,s5,s6⟩,p1⟩:=h
 have mk:∀ {m j:Nat}{l:List Qa},J2 l->FL m j l->j≤129->FKs 129 l:=λh1 h2 h3 f hf=>X6 (FR_tF h1 h2 (tF f) (List.mem_map_of_mem hf)) h3
 refine⟨λx hx=>X6 (Fk_tF (bt.1.2 x hx).2.2.2.1 (t3 x hx)) hk,by omega,⟨λr hr=>mk (bs.2.2.1.2 r hr) (s6 r hr) (by omega),λr hr=>by have:=(s6 r hr).1;omega,mk bs.2.2.2.1 s3 (by omega),by have:=s3.1;omega,mk bs.2.1 s4 (by omega),by have:=s4.1;omega,mk bs.2.2.2.2.1 s5 (by omega),by have:=s5.1;omega,by omega⟩,mk bp p1 hk,by have:=p1.1;omega⟩
theorem PrbWr.mono{j k:Nat}{p:Qt}(h:PrbWr j p)(hk:j≤k):PrbWr k p:=
 ⟨λx hx=>X6 (h.t x hx) hk,h.o,⟨λr hr f hf=>X6 (h.s.a r hr f hf) hk,h.s.al,λf hf=>X6 (h.s.b f hf) hk,h.s.bl,λf hf=>X6 (h.s.c f hf) hk,h.s.cl,λf hf=>X6 (h.s.e f hf) hk,h.s.el,h.s.nl⟩,λf hf=>X6 (h.pk f hf) hk,h.pl⟩
theorem Qwv{n k:Nat}{p:Qt}{y hs:List Qa}(hn:big≤n)(h1:1≤k)(hk:k<1048576)(hp:PrbWr k p)(hh:FRr k hs)(hl:hs.length≤1000000):
 Zt n p y hs=some (dP (mayQ (tP p) (rvr y) (rvr hs))):=by
 unfold Zt mayQ posQ
 have eD:(tP p).Tape.Dim=p.Tape.Dim:=rfl
 rw[Qf2 (λi=>∀ f,hs[i]?=some f->0<(fr f).num.sign) hs.length (r:=false)]
 . have e:(∀ i,i<hs.length->∀ f,hs[i]?=some f->0<(fr f).num.sign)↔∀ h∈rvr hs,0<h.num.sign:=by
    constructor
    . intro g h hm
      obtain⟨f,hf,rfl⟩:=List.mem_map.1 hm
      obtain⟨i,hi⟩:=List.getElem?_of_mem hf
      exact g i (Jw hi) f hi
    . intro g i _ f hf;exact g (fr f) (List.mem_map_of_mem (Jg hf))
   by_cases c:∀ h∈rvr hs,0<h.num.sign
   . rw[if_pos (e.2 c),jn_eq,Qtk hn h1 hk hp,sbind,bifP,Qb1,Qb1,eD]
     by_cases c2:prbR (tP p)
     . rw[if_pos c2,bifd]
       by_cases c3:(y.length:Int)=p.Tape.Dim
       . rw[if_pos c3];exact Qaw ⟨λh=>⟨c2,c3,c,by omega⟩,λh=>by have:=h.2.2.2;omega⟩
       . rw[if_neg c3,dP_f λh=>c3 h.2.1]
     . rw[if_neg c2,dP_f λh=>c2 h.1]
   . rw[if_neg (λh=>c (e.1 h)),dP_f λh=>c h.2.2.1]
 . intro i hi
   have hp:hs[i]?=some hs[i]:=List.getElem?_eq_getElem hi
   have hf:=hh hs[i] (List.getElem_mem hi)
   generalize hs[i]=f at hp hf
   rw[decide_eq_true (show(i:Int)<(hs.length:Int) by omega),bifT,Jd hp,sbind,Xd hn hf.1 hf.2.1 (by omega) (by omega),sbind,Qni,sbind,w1 (by omega)]
   constructor
   . intro h
     have h0:=h f hp
     rw[decide_eq_false (by omega)];rfl
   . intro h
     have h0:¬ 0<(fr f).num.sign:=λg=>h λx hx=>by rw[hp] at hx;cases hx;exact g
     rw[decide_eq_true (by omega)];rfl
 . rw[decide_eq_false (by omega)];rfl
 . unfold big at hn;omega
theorem Q42{p:Qs}{T H:Rat}{Y:List Rat}{z:MadeQ}(h:stepQ p T H Y=.inr z):z.err.length≤6:=by
 unfold stepQ at h
 by_cases hc:prbR p∧(Y.length:Int)=p.Tape.Dim
 case neg=>rw[if_neg hc] at h;cases h
 rw[if_pos hc] at h
 have hdim:=hc.1.1.1
 unfold doQ at h
 cases hz:stagesQ p.Tape (limQ p.Bits) T H Y (rv p.P) (List.zip (p.Scheme.A.map rv) (rv p.Scheme.C)) 0 [] [] with
 | inl e=>rw[hz] at h;cases h
 | inr w=>
   rw[hz] at h
   simp only[] at h
   obtain⟨g1,g2,g3,g4⟩:=Qnq (m:=Y.length) (by unfold limQ;omega) (by have:=hdim.2.2.1;omega) rfl (λ_ h=>by cases h) (λ_ h=>by cases h) hz
   unfold endQ at h
   split at h
   . cases h
   . split at h
     . cases h
     . cases h
       show(if gapQ p.Scheme=[] then [] else towQ H Y.length (gapQ p.Scheme) w.2).length≤6
       split
       . simp
       . rw[Qlr g1];have:=hdim.1;omega
def toTryR(t:TryQ):Qk:=⟨rF t.T,rF t.H,rF t.H,rF t.Err,rR t.Y,true⟩
def noHr:Qi:=⟨[],⟨false,[],[]⟩,[]⟩
theorem Qtn{n a j k:Nat}{p:Qt}{T:Rat}{Y hs:List Rat}(hn:big≤n)(h1:1≤a)(hj:1≤j)(hk:a+200*(j+1)+129≤k)(hk2:k<8000)(hp:PrbWr k p)(hm:mayQ (tP p) Y hs)(hT:qw T≤a)(hY:QR a Y)(hh:QR j hs):
 Y2 n p (rF T) (rR Y) (rR hs)=some (match marchQ (tP p) hs 0 T Y [] with | .inl f=>(noHr,⟨f.Kind,f.Step,f.Stage,f.At⟩) | .inr z=>(⟨z.1.map toTryR,rF z.2.1,rR z.2.2⟩,⟨0,0,0,0⟩)):=by
 obtain⟨hr,hl,hpos,h200⟩:=hm
 have eD:(tP p).Tape.Dim=p.Tape.Dim:=rfl
 rw[eD] at hl
 unfold Y2
 have key:∀(m i n':Nat) (T:Rat) (Y:List Rat) (tr:List TryQ),i+m=hs.length->m<n'->tr.length=i->qw T≤a+i*(j+1)->QR (max a 129) Y->(Y.length:Int)=p.Tape.Dim →
  (loopM (λ(s37:(List Qk)×Qa×(List Qa)×Int)=>
  bif decide (s37.2.2.2<((rR hs).length:Int)) then (
   (getI (rR hs) s37.2.2.2).bind λy38=>
   (Yq n p s37.2.1 y38 s37.2.2.1).bind λr40=>
   bif !decide (r40.2.a0=(0:Int)) then (
    some (Lp.out (Lp.out (((⟨[],(⟨false,[],[]⟩:Qa),[]⟩:Qi),(⟨r40.2.a0,wrap64 (s37.2.2.2+(1:Int)),r40.2.a1,r40.2.a2⟩:Qb4))))))
   else (
    (getI (rR hs) s37.2.2.2).bind λy42=>
    (getI (rR hs) s37.2.2.2).bind λy44=>
    (W8 n r40.1.Err).bind λr46=>
    (appM 256 s37.1 ([(⟨s37.2.1,y42,y44,r46,s37.2.2.1,true⟩:Qk)]:List Qk)).bind λy48=>
    (getI (rR hs) s37.2.2.2).bind λy50=>
    (Kb n s37.2.1 y50).bind λr52=>
    some (Lp.go (y48,r52,r40.1.Next,wrap64 (s37.2.2.2+(1:Int))))))
  else (
   some (Lp.out (Lp.go (s37.1,s37.2.1,s37.2.2.1))))) n' (tr.map toTryR,rF T,rR Y,(i:Int))).bind (lpK λ(t35:(List Qk)×Qa×(List Qa))=>
 some ((⟨t35.1,t35.2.1,t35.2.2⟩:Qi),(⟨0,0,0,0⟩:Qb4)))=some (match marchQ (tP p) (hs.drop i) i T Y tr with | .inl f=>(noHr,⟨f.Kind,f.Step,f.Stage,f.At⟩) | .inr z=>(⟨z.1.map toTryR,rF z.2.1,rR z.2.2⟩,⟨0,0,0,0⟩)):=by
  intro m
  induction m with
  | zero=>
    intro i n' T Y tr hi hn' htr hT hY hl
    rw[Yk (t:=Lp.go (tr.map toTryR,rF T,rR Y)) (by simp only[Km];rw[decide_eq_false (by omega)];rfl) (by omega),Option.bind_some,Wq,List.drop_of_length_le (by omega)]
    rfl
  | succ m ih=>
    intro i n' T Y tr hi hn' htr hT hY hl
    obtain⟨n'',rfl⟩:∃ n'',n'=n''+1:=⟨n' - 1,by omega⟩
    have hx:hs[i]?=some (hs[i]'(by omega)):=List.getElem?_eq_getElem (by omega)
    have hq:=hh (hs[i]'(by omega)) (List.getElem_mem (by omega))
    generalize hs[i]'(by omega)=h at hx hq
    have hb:i*(j+1)≤199*(j+1):=Nat.mul_le_mul_right _ (by omega)
    have hDo:=Qyq (T:=T) (H:=h) (Y:=Y) hn (show 129≤k by omega) hk2 hp hr (by omega) (by omega) (K2 hY (by omega)) hl
    have hst:=Q57 (T:=T) (H:=h) hr hl
    rw[←hst] at hDo
    rw[Qmm hx]
    simp only[marchQ]
    cases hs':stepQ (tP p) T h Y with
    | inl f=>
      rw[hs'] at hDo
      have hkd:=Q56 (hst ▸ hs')
      simp only[] at hDo ⊢
      rw[Yk (t:=Lp.out (noHr,⟨f.Kind,(i:Int)+1,f.Stage,f.At⟩)) (by
       simp only[Km]
       rw[decide_eq_true (show(i:Int)<(hs.length:Int) by omega),bifT,Jd (Qf3 hx),sbind,hDo,sbind]
       simp only[]
       rw[decide_eq_false hkd,Bool.not_false,bifT,w64 (by omega) (by omega)];rfl) (by omega),Option.bind_some,Qbb]
    | inr z=>
      rw[hs'] at hDo
      obtain⟨_,_,z1,z2,z3⟩:=Qp8 hs'
      simp only[] at hDo ⊢
      have hmx:=Qwj (k:=129) (a:=z.err) hn (by decide) (by decide) z3 (by
       have:=Q42 hs';omega)
      have hadd:=Qc2 hT hq
      rw[Qh0 (s':=((tr++[(⟨T,h,normQ z.err,Y⟩:TryQ)]).map toTryR,rF (T+h),rR z.next,((i+1:Nat):Int))) (by
       simp only[Km]
       rw[decide_eq_true (show(i:Int)<(hs.length:Int) by omega),bifT,Jd (Qf3 hx),sbind,hDo,sbind]
       simp only[]
       rw[decide_eq_true trivial,Bool.not_true,bifF,sbind,sbind]
       show((W8 n (rR z.err)).bind λr46=>_)=_
       rw[hmx,sbind,Kf (by simp;omega) (by simp;omega),sbind,sbind,Qav (k:=k) hn (by omega) (by omega) (by omega),sbind,w1 (by omega),List.map_append]
       rfl)]
      exact ih (i+1) n'' (T+h) z.next (tr++[(⟨T,h,normQ z.err,Y⟩:TryQ)]) (by omega) (by omega) (by simp;omega) (by rw[Nat.succ_mul];omega) (K2 z1 (by omega)) (by rw[z2];exact hl)
 have:=key hs.length 0 n T Y [] (by omega) (by unfold big at hn;omega) rfl (by omega) (K2 hY (by omega)) hl
 rw[List.drop_zero] at this
 exact this
set_option maxRecDepth 100000
def oTry(t:Qy):Qk:=⟨oF t.T,oF t.Want,oF t.H,oF t.Err,t.Y.map oF,t.Ok⟩
theorem Qyr{n:Nat}{h:Qw}(hn:big≤n)(h1:h.Tries.length≤1000000)(h2:h.Y.length≤1000000)(h3:∀ t∈h.Tries,t.Y.length≤1000000):Qaa n h=some ⟨h.Tries.map oTry,oF h.T,h.Y.map oF⟩:=by
 unfold Qaa
 rw[Qk0,sbind,Qqm hn h2,sbind]
 rw[Vs (λi=>((h.Tries.take i).map oTry,(i:Int))) h.Tries.length (h.Tries.map oTry)]
 . intro i hi
   have hp:h.Tries[i]?=some h.Tries[i]:=List.getElem?_eq_getElem hi
   have hy:=h3 h.Tries[i] (List.getElem_mem hi)
   generalize h.Tries[i]=t at hp hy
   rw[decide_eq_true (show(i:Int)<(h.Tries.length:Int) by omega),bifT,Jd hp,sbind]
   simp only[Qk0,sbind]
   rw[Qqm hn hy,sbind,Kf (by simp;omega) (by simp;omega),sbind,w1 (by omega),Xq oTry hp];rfl
 . rw[decide_eq_false (by omega),bifF,List.take_length]
 . unfold big at hn;omega
 . rfl
def SmF(f:Qa):Prop:=f.N.length≤4611686018427387904∧f.D.length≤4611686018427387904
def SmL(l:List Qa):Prop:=l.length≤1000000∧∀ f∈l,SmF f
def SmT(t:Qk):Prop:=SmF t.T∧SmF t.Want∧SmF t.H∧SmF t.Err∧SmL t.Y
def SmH(h:Qi):Prop:=SmF h.T∧SmL h.Y∧h.Tries.length≤1000000∧∀ t∈h.Tries,SmT t
theorem Qpf{q:Rat}{k:Nat}(h:qw q≤k)(hk:k<274877906944):SmF (rF q):=by
 have:=Qwi h
 exact⟨by omega,by omega⟩
theorem Q43{l:List Rat}{k:Nat}(h:QR k l)(hk:k<274877906944)(hl:l.length≤1000000):SmL (rR l):=⟨by rw[Km];exact hl,λf hf=>by
 obtain⟨q,hq,rfl⟩:=List.mem_map.1 hf
 exact Qpf (h q hq) hk⟩
theorem Q88{n:Nat}{f:Qa}(hn:big≤n)(h:SmF f):Jq n f f=some true:=by
 rw[Qfb hn h.1 h.2];exact congrArg some (@decide_eq_true _ (Classical.propDecidable _) rfl)
theorem Q0x{n:Nat}{l:List Qa}(hn:big≤n)(h:SmL l):Vu n l l=some true:=by
 rw[Quq hn h.1 h.2];simp
theorem Qsi{n:Nat}{a:Qi}(hn:big≤n)(h:SmH a):Y8 n a a=some true:=by
 obtain⟨h1,h2,h3,h4⟩:=h
 unfold Y8
 simp only[jn_eq]
 rw[decide_eq_true trivial,Bool.not_true,bifF,Q88 hn h1,sbind,Bool.not_true,bifF,Q0x hn h2,sbind,Bool.not_true,bifF]
 rw[Qf2 (λ_=>True) a.Tries.length (r:=false)]
 . rw[if_pos (λ_ _=>trivial)]
 . intro i hi
   have hp:a.Tries[i]?=some a.Tries[i]:=List.getElem?_eq_getElem hi
   have ht:=h4 a.Tries[i] (List.getElem_mem hi)
   generalize a.Tries[i]=t at hp ht
   obtain⟨g1,g2,g3,g4,g5⟩:=ht
   refine⟨λ_=>?_,λg=>absurd trivial g⟩
   have hnum:SmL [t.T,t.Want,t.H,t.Err]:=⟨by simp,λf hf=>by
    rcases List.mem_cons.1 hf with rfl | hf
    . exact g1
    rcases List.mem_cons.1 hf with rfl | hf
    . exact g2
    rcases List.mem_cons.1 hf with rfl | hf
    . exact g3
    rw[List.mem_singleton.1 hf];exact g4⟩
   rw[decide_eq_true (show(i:Int)<(a.Tries.length:Int) by omega),bifT,Jd hp,sbind,sbind,bne_self_eq_false,bifF]
   unfold Kn
   rw[sbind,sbind,Q0x hn hnum,sbind,Bool.not_true,bifF,Q0x hn g5,sbind,Bool.not_true,bifF,w1 (by omega)]
 . rw[decide_eq_false (by omega),bifF]
 . unfold big at hn;omega
theorem Qns{n:Nat}{h:Qw}{a:Qi}(hn:big≤n)(h1:h.Tries.length≤1000000)(h2:h.Y.length≤1000000)(h3:∀ t∈h.Tries,t.Y.length≤1000000)(e:(⟨h.Tries.map oTry,oF h.T,h.Y.map oF⟩:Qi)=a)(hs:SmH a):Vr n h a=some true:=by
 unfold Vr
 rw[Qyr hn h1 h2 h3,sbind,e,Qsi hn hs,sbind]
theorem Q17{n:Nat}(hn:big≤n):Vr n noH ⟨[],⟨false,[],[]⟩,[]⟩=some true:=
 Qns hn (by decide) (by decide) (λ_ h=>by cases h) rfl ⟨⟨by decide,by decide⟩,⟨by decide,λ_ h=>by cases h⟩,by decide,λ_ h=>by cases h⟩
def TQ(k m:Nat)(t:TryQ):Prop:=qw t.T≤k∧qw t.H≤k∧qw t.Err≤k∧QR k t.Y∧t.Y.length=m
theorem Qof{p:Qs}{a j K m:Nat}(h1:1≤a):∀ {hs:List Rat}{i:Nat}{T:Rat}{Y:List Rat}{tr:List TryQ}{z},a+(i+hs.length)*(j+1)+129≤K->j≤K->qw T≤a+i*(j+1)->QR j hs->QR (max a 129) Y->Y.length=m->(∀ t∈tr,TQ K m t)->marchQ p hs i T Y tr=.inr z->∀ t∈z.1,TQ K m t
 | [],i,T,Y,tr,z,hK,hjK,hT,hj,hY,hl,htr,h=>by cases h;exact htr
 | x::hs,i,T,Y,tr,z,hK,hjK,hT,hj,hY,hl,htr,h=>by
   simp only[marchQ] at h
   cases hs':stepQ p T x Y with
   | inl g=>rw[hs'] at h;cases h
   | inr w=>
     rw[hs'] at h
     obtain⟨_,_,z1,z2,z3⟩:=Qp8 hs'
     have hx:=hj x (.head _)
     have hadd:=Qc2 hT hx
     rw[List.length_cons] at hK
     have hmul:i*(j+1)≤(i+(hs.length+1))*(j+1):=Nat.mul_le_mul_right _ (by omega)
     have hn129:=Q40 (k:=129) (l:=w.err) (by decide) z3
     refine Qof h1 (m:=m) (i:=i+1) (by rw[show i+1+hs.length=i+(hs.length+1) by omega];exact hK) hjK (by rw[Nat.succ_mul];omega) (λq hq=>hj q (.tail _ hq)) (K2 z1 (by omega)) (by omega) (λt ht=>?_) h
     rcases List.mem_append.1 ht with ht | ht
     . exact htr t ht
     . rw[List.mem_singleton.1 ht]
       exact⟨by show qw T≤K;omega,by show qw x≤K;omega,by show qw (normQ w.err)≤K;omega,K2 hY (by omega),hl⟩
theorem Q59{n a j:Nat}{p:Qs}{hs:List Rat}{T:Rat}{Y:List Rat}{z}(hn:big≤n)(h1:1≤a)(hK:a+hs.length*(j+1)+129≤100000)(hjK:j≤100000)(hT:qw T≤a)(hj:QR j hs)(hY:QR a Y)(hl:(Y.length:Int)=p.Tape.Dim)(hl6:Y.length≤1000)(hhs:hs.length≤200)(h:marchQ p hs 0 T Y []=.inr z):
 Vr n ⟨z.1.map toTry,toF z.2.1,toR z.2.2⟩ ⟨z.1.map toTryR,rF z.2.1,rR z.2.2⟩=some true:=by
 obtain⟨q1,q2,q3,q4⟩:=Qtm (a:=a) (j:=j) (by omega) hj (K2 hY (by omega)) hl h
 have ht:=Qof (K:=100000) (m:=Y.length) h1 (by rw[Nat.zero_add];exact hK) hjK (by omega) hj (K2 hY (by omega)) rfl (λ_ h=>by cases h) h
 rw[Nat.zero_add] at q1
 have hzl:z.2.2.length=Y.length:=by omega
 refine Qns hn (by rw[List.length_map,q4];simp;omega) (by rw[Wx];omega) (λt htm=>?_) ?_ ?_
 . obtain⟨u,hu,rfl⟩:=List.mem_map.1 htm
   show(toR u.Y).length≤_
   rw[Wx,(ht u hu).2.2.2.2];omega
 . simp only[Q4q,Q4r,List.map_map]
   congr 1
   refine List.map_congr_left λt _=>?_
   show oTry (toTry t)=toTryR t
   unfold oTry toTry toTryR
   simp only[Q4q,Q4r]
 . refine⟨Qpf (k:=100000) (by omega) (by decide),Q43 (k:=100000) (K2 q2 (by omega)) (by decide) (by omega),by simp only[List.length_map];rw[q4];simp;omega,λt htm=>?_⟩
   obtain⟨u,hu,rfl⟩:=List.mem_map.1 htm
   obtain⟨g1,g2,g3,g4,g5⟩:=ht u hu
   exact⟨Qpf g1 (by decide),Qpf g2 (by decide),Qpf g2 (by decide),Qpf g3 (by decide),Q43 g4 (by decide) (by omega)⟩
set_option maxRecDepth 100000
theorem Q89{k:Nat}{l:List Rat}(h:QR k l):FRr k (rR l):=λf hf=>by
 obtain⟨q,hq,rfl⟩:=List.mem_map.1 hf
 have:=Qwi (h q hq)
 exact⟨Qx _,Qx _,this.1,this.2⟩
set_option maxRecDepth 100000
def tTry(t:Qk):Qy:=⟨tF t.T,tF t.Want,tF t.H,tF t.Err,t.Y.map tF,t.Ok⟩
def tHis(h:Qi):Qw:=⟨h.Tries.map tTry,tF h.T,h.Y.map tF⟩
theorem Qys{n:Nat}{h:Qi}(hn:big≤n)(h1:h.Tries.length≤1000000)(h2:h.Y.length≤1000000)(h3:∀ t∈h.Tries,t.Y.length≤1000000):Qab n h=some (tHis h):=by
 unfold Qab Kg
 rw[sbind,Qbj hn h2,sbind]
 rw[Vs (λi=>((h.Tries.take i).map tTry,(i:Int))) h.Tries.length (h.Tries.map tTry)]
 . rfl
 . intro i hi
   have hp:h.Tries[i]?=some h.Tries[i]:=List.getElem?_eq_getElem hi
   have hy:=h3 h.Tries[i] (List.getElem_mem hi)
   generalize h.Tries[i]=t at hp hy
   rw[decide_eq_true (show(i:Int)<(h.Tries.length:Int) by omega),bifT,Jd hp,sbind,sbind,sbind,sbind,sbind,Qbj hn hy,sbind,Kf (by simp;omega) (by simp;omega),sbind,w1 (by omega),Xq tTry hp];rfl
 . rw[decide_eq_false (by omega),bifF,List.take_length]
 . unfold big at hn;omega
 . rfl
def SmaT(t:Qk):Prop:=FL 4 2 [t.T,t.Want,t.H,t.Err]∧FL 8 2 t.Y
theorem Qu5{n:Nat}{h:Qi}(hn:big≤n):∃ v,Zf n h 3 2=some v∧(v=false->h.Tries.length≤3∧(h.T.N.length≤2∧h.T.D.length≤2)∧FL 8 2 h.Y∧∀ t∈h.Tries,SmaT t):=by
 unfold Zf Kn
 simp only[jn_eq,bifd]
 by_cases h1:(3:Int)<(h.Tries.length:Int)
 . rw[if_pos h1];exact⟨true,rfl,λh=>by cases h⟩
 have e9:=Qjd h.T 2
 rw[show((2:Nat):Int)=2 from rfl] at e9
 rw[if_neg h1,e9,sbind]
 by_cases h2:h.T.N.length≤2∧h.T.D.length≤2
 case neg=>rw[decide_eq_false h2];exact⟨true,rfl,λh=>by cases h⟩
 rw[decide_eq_true h2,Bool.not_true,bifF]
 have hb4:∀ l,∃ v,Qz n l 4 2=some v∧(v=false->FL 4 2 l):=λl=>Qag (many:=4) (k:=2) hn (by decide)
 have hb8:∀ l,∃ v,Qz n l 8 2=some v∧(v=false->FL 8 2 l):=λl=>Qag (many:=8) (k:=2) hn (by decide)
 obtain⟨v,g1,g2⟩:=hb8 h.Y
 rw[g1,sbind]
 cases v
 case true=>exact⟨true,rfl,λh=>by cases h⟩
 rw[bifF]
 have hl:=Qf2 (f:=λ(s62:Int)=>
  if s62<(h.Tries.length:Int) then (
   (getI h.Tries s62).bind λy76=>
   (some ([y76.T,y76.Want,y76.H,y76.Err]:List Qa)).bind λr78=>
   (Qz n r78 4 2).bind λr80=>
   bif r80 then (bif true then some (Lp.out (Lp.out true)) else some (Lp.go (wrap64 (s62+(1:Int)))))
   else (
    (getI h.Tries s62).bind λy82=>
    (Qz n y82.Y 8 2).bind λr84=>
    bif r84 then some (Lp.out (Lp.out true)) else some (Lp.go (wrap64 (s62+(1:Int))))))
  else (
   some (Lp.out (Lp.go ())))) (n:=n) (K:=λ(_:Unit)=>some false) (r:=true) (λi=>∀ t,h.Tries[i]?=some t->Qz n [t.T,t.Want,t.H,t.Err] 4 2=some false∧Qz n t.Y 8 2=some false) h.Tries.length (λi hi=>by
  have hp:h.Tries[i]?=some h.Tries[i]:=List.getElem?_eq_getElem hi
  generalize h.Tries[i]=t at hp
  obtain⟨v,k1,k2⟩:=hb4 [t.T,t.Want,t.H,t.Err]
  obtain⟨w,k3,k4⟩:=hb8 t.Y
  rw[if_pos (by omega),Jd hp,sbind,sbind,k1,sbind,sbind,k3,sbind]
  cases v
  . cases w
    . rw[bifF,bifF,w1 (by omega)]
      exact⟨λ_=>rfl,λg=>absurd (λd hd=>by rw[hp] at hd;cases hd;exact⟨k1,k3⟩) g⟩
    . exact⟨λg=>(by have:=(g t hp).2;rw[k3] at this;cases this),λ_=>rfl⟩
  . exact⟨λg=>(by have:=(g t hp).1;rw[k1] at this;cases this),λ_=>rfl⟩) (by rw[if_neg (by omega)]) (by unfold big at hn;omega)
 rw[hl]
 by_cases hx:∀ i,i<h.Tries.length->∀ t,h.Tries[i]?=some t->Qz n [t.T,t.Want,t.H,t.Err] 4 2=some false∧Qz n t.Y 8 2=some false
 . rw[if_pos hx]
   refine⟨false,rfl,λ_=>⟨by omega,h2,g2 rfl,λt ht=>?_⟩⟩
   obtain⟨i,hi⟩:=List.getElem?_of_mem ht
   obtain⟨v,k1,k2⟩:=hb4 [t.T,t.Want,t.H,t.Err]
   obtain⟨w,k3,k4⟩:=hb8 t.Y
   obtain⟨a1,a2⟩:=hx i (Jw hi) t hi
   rw[k1] at a1;rw[k3] at a2
   exact⟨k2 (Option.some.inj a1),k4 (Option.some.inj a2)⟩
 . rw[if_neg hx];exact⟨true,rfl,λh=>by cases h⟩
def okT(l:List Qy):List Qy:=l.filter (·.Ok)
def nT(t:Qy):Qy:=⟨toF (fv t.T),toF (fv t.Want),toF (fv t.H),toF (fv t.Err),toR (rv t.Y),true⟩
def FT(k:Nat)(t:Qy):Prop:=FR k [t.T,t.Want,t.H,t.Err]∧FR k t.Y∧t.Y.length≤1000000
theorem Qhl{n k:Nat}{l:List Qb}(hn:big≤n)(h1:1≤k)(hk:k<1099511627776)(h:FR k l)(hl:l.length≤1000000):Qbe n l=some (toR (rv l)):=by
 unfold Qbe
 rw[Qkz hn,sbind,Qgg (k:=k) hn h1 hk (K4 (by rw[Q41];exact h1)) h hl,sbind,J8,Q16]
theorem Q44(l:List Qy):(okT l).length≤l.length:=List.length_filter_le _ _
theorem Qkk{n k:Nat}{h:Qw}(hn:big≤n)(h1:1≤k)(hk:k<1099511627776)(hl:h.Tries.length≤1000000)(ht:∀ t∈h.Tries,FT k t):Qa8 n h=some ((okT h.Tries).map nT):=by
 unfold Qa8
 rw[Qc0 (λi=>(okT (h.Tries.take i)).map nT) h.Tries]
 . rw[List.take_length];rfl
 . intro i x hx
   obtain⟨g1,g2,g3⟩:=ht x (Jg hx)
   have hi:=Jw hx
   have hle:=Q44 (h.Tries.take i)
   rw[List.length_take] at hle
   rw[Qa5 hx]
   have ea:okT (h.Tries.take i++[x])=okT (h.Tries.take i)++okT [x]:=List.filter_append _ _
   rw[ea,List.map_append]
   cases ho:x.Ok
   . rw[bifF,show okT [x]=[] from by unfold okT;simp[ho],List.map_nil,List.append_nil]
   . rw[bifT,show okT [x]=[x] from by unfold okT;simp[ho]]
     unfold Wn
     rw[sbind,Qhl hn h1 hk g1 (by simp),sbind,show getI (toR (rv [x.T,x.Want,x.H,x.Err])) 0=some (toF (fv x.T)) from rfl,sbind,show getI (toR (rv [x.T,x.Want,x.H,x.Err])) 1=some (toF (fv x.Want)) from rfl,sbind,show getI (toR (rv [x.T,x.Want,x.H,x.Err])) 2=some (toF (fv x.H)) from rfl,sbind,show getI (toR (rv [x.T,x.Want,x.H,x.Err])) 3=some (toF (fv x.Err)) from rfl,sbind,Qhl hn h1 hk g2 g3,sbind,Kf (by simp;omega) (by simp;omega),sbind]
     rfl
 . rfl
def begT(h:Qw):Rat:=match okT h.Tries with | []=>fv h.T | t::_=>fv t.T
def begY(h:Qw):List Rat:=match okT h.Tries with | []=>rv h.Y | t::_=>rv t.Y
def szs(h:Qw):List Rat:=(okT h.Tries).map (fv ·.H)
theorem Qk6{n k:Nat}{p:Qs}{h:Qw}(hn:big≤n)(h1:1≤k)(hk:k<1099511627776)(hl:h.Tries.length≤1000000)(ht:∀ t∈h.Tries,FT k t)(hT:Fk k h.T)(hY:FR k h.Y)(hYl:h.Y.length≤1000000):
 Qat n p h=Qai n p (toF (begT h)) (toR (begY h)) (toR (szs h)):=by
 have hle:=Q44 h.Tries
 have eN:Qfv n h=some (((okT h.Tries).map nT).map (·.T)++[toF (fv h.T)],((okT h.Tries).map nT).map (·.Y)++[toR (rv h.Y)]):=by
  unfold Qfv
  rw[Qkk hn h1 hk hl ht,sbind]
  generalize hA:(okT h.Tries).map nT=A
  have hAl:A.length≤1000000:=by rw[←hA,List.length_map];omega
  rw[Qc0 (λi=>((A.take i).map (·.T),(A.take i).map (·.Y))) A]
  . rw[List.take_length]
    show((Ku n h.T).bind _)=_
    rw[Vz hn (Fk_Fw hT (by omega)),sbind,Kf (by simp;omega) (by simp;omega),sbind,Qhl hn h1 hk hY hYl,sbind,Kf (by simp;omega) (by simp;omega),sbind]
  . intro i x hx
    have hi:=Jw hx
    rw[Kf (by simp;omega) (by simp;omega),sbind,Kf (by simp;omega) (by simp;omega),sbind,Xq (·.T) hx,Xq (·.Y) hx]
  . rfl
 have eS:Qfw n h=some (toR (szs h)):=by
  unfold Qfw
  rw[Qkk hn h1 hk hl ht,sbind]
  have e:toR (szs h)=((okT h.Tries).map nT).map (·.H):=by unfold toR szs;rw[List.map_map,List.map_map];rfl
  rw[e]
  generalize hA:(okT h.Tries).map nT=A
  have hAl:A.length≤1000000:=by rw[←hA,List.length_map];omega
  rw[Qc0 (λi=>(A.take i).map (·.H)) A]
  . rw[List.take_length];rfl
  . intro i x hx
    have hi:=Jw hx
    rw[Kf (by simp;omega) (by simp;omega),sbind,Xq (·.H) hx]
  . rfl
 unfold Qat
 rw[eN,sbind,eS]
 have e1:getI (((okT h.Tries).map nT).map (·.T)++[toF (fv h.T)]) 0=some (toF (begT h)):=by
  unfold begT
  cases okT h.Tries with
  | nil=>rfl
  | cons t l=>exact Jd (i:=0) rfl
 have e2:getI (((okT h.Tries).map nT).map (·.Y)++[toR (rv h.Y)]) 0=some (toR (begY h)):=by
  unfold begY
  cases okT h.Tries with
  | nil=>rfl
  | cons t l=>exact Jd (i:=0) rfl
 rw[e1,sbind,e2,sbind,sbind]
 cases Qai n p (toF (begT h)) (toR (begY h)) (toR (szs h))<;>rfl
def okR(l:List Qk):List Qk:=l.filter (·.Ok)
def nTr(t:Qk):Qk:=⟨rF (fr t.T),rF (fr t.Want),rF (fr t.H),rF (fr t.Err),rR (rvr t.Y),t.Ok⟩
def FTr(k:Nat)(t:Qk):Prop:=FRr k [t.T,t.Want,t.H,t.Err]∧FRr k t.Y∧t.Y.length≤1000000
theorem Qu6(l:List Qk):(okR l).length≤l.length:=List.length_filter_le _ _
theorem Q7n(f:Qk->Qk)(hf:∀ t,(f t).Ok=t.Ok)(l:List Qk):okR (l.map f)=(okR l).map f:=by
 unfold okR
 rw[List.filter_map]
 congr 1
 exact List.filter_congr λt _=>hf t
theorem Qww(l:List Qk):okT (l.map tTry)=(okR l).map tTry:=by
 unfold okT okR
 rw[List.filter_map]
 rfl
theorem Q0y(l:List Qk)(x:Qk):okR (l++[x])=if x.Ok=true then okR l++[x] else okR l:=by
 have e:okR (l++[x])=okR l++okR [x]:=List.filter_append _ _
 rw[e]
 cases ho:x.Ok
 . rw[if_neg (by decide),show okR [x]=[] from by unfold okR;simp[ho],List.append_nil]
 . rw[if_pos rfl,show okR [x]=[x] from by unfold okR;simp[ho]]
theorem Qu7{n k:Nat}{h:Qi}(hn:big≤n)(hk:k<1099511627776)(hl:h.Tries.length≤1000000)(ht:∀ t∈h.Tries,FTr k t)(hT:FRr k [h.T])(hY:FRr k h.Y)(hYl:h.Y.length≤1000000):Zg n h=some ⟨h.Tries.map nTr,rF (fr h.T),rR (rvr h.Y)⟩:=by
 unfold Zg Kn
 obtain⟨t1,t2,t3,t4⟩:=hT h.T (.head _)
 rw[Xd hn t1 t2 (by omega) (by omega),sbind,Qel hn hk hY hYl,sbind]
 rw[Vs (λi=>((h.Tries.take i).map nTr,(i:Int))) h.Tries.length (h.Tries.map nTr)]
 . intro i hi
   have hp:h.Tries[i]?=some h.Tries[i]:=List.getElem?_eq_getElem hi
   obtain⟨g1,g2,g3⟩:=ht h.Tries[i] (List.getElem_mem hi)
   generalize h.Tries[i]=t at hp g1 g2 g3
   rw[decide_eq_true (show(i:Int)<(h.Tries.length:Int) by omega),bifT,Jd hp,sbind,sbind,Qel hn hk g1 (by simp),sbind,show getI (rR (rvr [t.T,t.Want,t.H,t.Err])) 0=some (rF (fr t.T)) from rfl,sbind,show getI (rR (rvr [t.T,t.Want,t.H,t.Err])) 1=some (rF (fr t.Want)) from rfl,sbind,show getI (rR (rvr [t.T,t.Want,t.H,t.Err])) 2=some (rF (fr t.H)) from rfl,sbind,show getI (rR (rvr [t.T,t.Want,t.H,t.Err])) 3=some (rF (fr t.Err)) from rfl,sbind,Qel hn hk g2 g3,sbind,Kf (by simp;omega) (by simp;omega),sbind,w1 (by omega),Xq nTr hp]
   rfl
 . rw[decide_eq_false (by omega),bifF,List.take_length]
 . unfold big at hn;omega
 . rfl
theorem Qto{n:Nat}{h:Qi}(hn:big≤n)(hl:h.Tries.length≤1000000):Y3 n h=some ((okR h.Tries).map (·.T)++[h.T],(okR h.Tries).map (·.Y)++[h.Y]):=by
 unfold Y3
 have hle:=Qu6 h.Tries
 rw[Vs (λi=>((okR (h.Tries.take i)).map (·.T),(okR (h.Tries.take i)).map (·.Y),(i:Int))) h.Tries.length ((okR h.Tries).map (·.T),(okR h.Tries).map (·.Y))]
 . rw[Kf (by simp;omega) (by simp;omega),sbind,Kf (by simp;omega) (by simp;omega),sbind]
 . intro i hi
   have hp:h.Tries[i]?=some h.Tries[i]:=List.getElem?_eq_getElem hi
   generalize h.Tries[i]=t at hp
   have hle:=Qu6 (h.Tries.take i)
   rw[List.length_take] at hle
   simp only[jn_eq]
   rw[decide_eq_true (show(i:Int)<(h.Tries.length:Int) by omega),bifT,Jd hp,sbind,Qa5 hp,Q0y,w1 (by omega)]
   cases t.Ok
   . rw[bifF,if_neg (by decide)]
   . rw[bifT,if_pos rfl,sbind,Kf (by simp;omega) (by simp;omega),sbind,sbind,Kf (by simp;omega) (by simp;omega),sbind,List.map_append,List.map_append];rfl
 . rw[decide_eq_false (show ¬(h.Tries.length:Int)<(h.Tries.length:Int) by omega),bifF,List.take_length]
 . unfold big at hn;omega
 . rfl
theorem Qtp{n:Nat}{h:Qi}(hn:big≤n)(hl:h.Tries.length≤1000000):Y4 n h=some ((okR h.Tries).map (·.H)):=by
 unfold Y4
 rw[Vs (λi=>((okR (h.Tries.take i)).map (·.H),(i:Int))) h.Tries.length ((okR h.Tries).map (·.H))]
 . intro i hi
   have hp:h.Tries[i]?=some h.Tries[i]:=List.getElem?_eq_getElem hi
   generalize h.Tries[i]=t at hp
   have hle:=Qu6 (h.Tries.take i)
   rw[List.length_take] at hle
   simp only[jn_eq]
   rw[decide_eq_true (show(i:Int)<(h.Tries.length:Int) by omega),bifT,Jd hp,sbind,Qa5 hp,Q0y,w1 (by omega)]
   cases t.Ok
   . rw[bifF,if_neg (by decide)]
   . rw[bifT,if_pos rfl,sbind,Kf (by simp;omega) (by simp;omega),sbind,List.map_append];rfl
 . rw[decide_eq_false (by omega),bifF,List.take_length]
 . unfold big at hn;omega
 . rfl
def bgT(h:Qi):Rat:=match okR h.Tries with | []=>fr h.T | t::_=>fr t.T
def bgY(h:Qi):List Rat:=match okR h.Tries with | []=>rvr h.Y | t::_=>rvr t.Y
def bgS(h:Qi):List Rat:=(okR h.Tries).map (fr ·.H)
theorem Q9a(h:Qi):begT (tHis h)=bgT h:=by
 unfold begT bgT tHis
 rw[Qww]
 cases okR h.Tries with
 | nil=>rfl
 | cons t l=>rfl
theorem Q9b(h:Qi):begY (tHis h)=bgY h:=by
 unfold begY bgY tHis
 rw[Qww]
 cases okR h.Tries with
 | nil=>exact Qf4 h.Y
 | cons t l=>exact Qf4 t.Y
theorem szs_t(h:Qi):szs (tHis h)=bgS h:=by
 unfold szs bgS tHis
 rw[Qww,List.map_map];rfl
set_option maxRecDepth 100000
def Chn:Rat->List TryQ->Rat->Prop
 | T,[],E=>E=T
 | T,t::l,E=>t.T=T∧Chn (T+t.H) l E
theorem Q7o(q:Rat):0≤(absQ q).num:=by
 unfold absQ
 split
 . show 0≤-q.num;omega
 . omega
theorem Q6a(l:List Rat):0≤(normQ l).num:=by
 have key:∀(l:List Rat) (b:Rat),0≤b.num->0≤(l.foldl (λb x=>maxQ b (absQ x)) b).num:=by
  intro l
  induction l with
  | nil=>intro b hb;exact hb
  | cons x l ih=>
    intro b hb
    refine ih _ ?_
    show 0≤(maxQ b (absQ x)).num
    unfold maxQ
    split
    . exact Q7o x
    . exact hb
 exact key l 0 (Int.le_refl _)
theorem Qu8{p:Qs}:∀ {hs:List Rat}{i:Nat}{T:Rat}{Y:List Rat}{tr:List TryQ}{z},marchQ p hs i T Y tr=.inr z →
 ∃ zs:List TryQ,z.1=tr++zs∧Chn T zs z.2.1∧zs.map (·.H)=hs∧(∀ t∈zs,0≤t.Err.num.sign)∧(match zs with | []=>z.2.2=Y | u::_=>u.Y=Y)
 | [],i,T,Y,tr,z,h=>by cases h;exact⟨[],(List.append_nil _).symm,rfl,rfl,(λ_ h=>by cases h),rfl⟩
 | x::hs,i,T,Y,tr,z,h=>by
   simp only[marchQ] at h
   cases hs':stepQ p T x Y with
   | inl g=>rw[hs'] at h;cases h
   | inr w=>
     rw[hs'] at h
     obtain⟨zs,g1,g2,g3,g4,g5⟩:=Qu8 h
     refine⟨⟨T,x,normQ w.err,Y⟩::zs,by rw[g1,List.append_assoc];rfl,⟨rfl,g2⟩,by rw[List.map_cons,g3],λt ht=>?_,rfl⟩
     rcases List.mem_cons.1 ht with rfl | ht
     . exact Int.sign_nonneg_iff.2 (Q6a _)
     . exact g4 t ht
theorem Q18:∀ {l:List TryQ}{T E:Rat}{i:Nat}{t:TryQ},Chn T l E->l[i]?=some t->(∀ u,l[i+1]?=some u->u.T=t.T+t.H)∧(l.length=i+1->E=t.T+t.H)
 | [],T,E,i,t,_,h=>by cases h
 | x::l,T,E,0,t,hc,h=>by
   cases h
   obtain⟨c1,c2⟩:=hc
   rw[c1]
   cases l with
   | nil=>exact⟨(λu h=>by cases h),λ_=>c2⟩
   | cons y l=>exact⟨(λu h=>by cases h;exact c2.1),λh=>by simp at h⟩
 | x::l,T,E,i+1,t,hc,h=>by
   obtain⟨c1,c2⟩:=Q18 (T:=T+x.H) hc.2 (i:=i) (t:=t) h
   exact⟨λu hu=>c1 u hu,λhl=>c2 (by simpa using hl)⟩
theorem Qf6{α R:Type}{f:Nat->α->Unit->Option (Lp Unit R)}{K:Unit->Option R}(xs:List α)(hb:∀ i x,xs[i]?=some x->f i x ()=some (.go ())):(rangeL f xs 0 ()).bind (lpK K)=K ():=Qc0 (λ_=>()) xs hb rfl
theorem Qu9{n k:Nat}(hn:big≤n)(hk:k<1099511627776){l:List (List Rat)}(h:∀ r∈l,QR k r):Qcj n (l.map toR)=some true:=by
 classical
 unfold Qcj
 rw[Qf6]
 intro i r hr
 obtain⟨q,hq,rfl⟩:=List.mem_map.1 (Jg hr)
 rw[Qf6]
 intro j x hx
 obtain⟨y,hy,rfl⟩:=List.mem_map.1 (Jg hx)
 rw[Qi7 hn (Fk_Fw (K4 (h q hq y hy)) (by omega)),sbind,J8]
 simp
def mH(tr:List TryQ)(T:Rat)(Y:List Rat):Qw:=⟨tr.map toTry,toF T,toR Y⟩
theorem Qva(t:TryQ):Wn (toTry t)=some (toR [t.T,t.H,t.H,t.Err]):=rfl
theorem Qwx{k m:Nat}{t:TryQ}(h:TQ k m t):QR k [t.T,t.H,t.H,t.Err]:=λq hq=>by
 rcases List.mem_cons.1 hq with rfl | hq
 . exact h.1
 rcases List.mem_cons.1 hq with rfl | hq
 . exact h.2.1
 rcases List.mem_cons.1 hq with rfl | hq
 . exact h.2.1
 rw[List.mem_singleton.1 hq];exact h.2.2.1
theorem getT{tr:List TryQ}{i:Nat}{x:Qy}(h:(tr.map toTry)[i]?=some x):∃ t,tr[i]?=some t∧x=toTry t:=by
 rw[List.getElem?_map] at h
 cases ht:tr[i]? with
 | none=>rw[ht] at h;cases h
 | some t=>rw[ht] at h;cases h;exact⟨t,rfl,rfl⟩
theorem Qvb{n K m:Nat}{tr:List TryQ}{T T0:Rat}{Y:List Rat}(hn:big≤n)(hK:K<274877906944)(h1:1≤K)(ht:∀ t∈tr,TQ K m t)(hT:qw T≤K)(hY:QR K Y)(hYl:Y.length=m)(m1:1≤m)(m6:m≤6)(hl:tr.length≤200)(hs:∀ t∈tr,0<t.H.num.sign∧0≤t.Err.num.sign)(hc:Chn T0 tr T):Qfx n (mH tr T Y)=some true:=by
 unfold Qfx Qip Qim Qgc Qin Qio Qgd
 simp only[jn_eq]
 unfold mH
 simp only[]
 rw[Qf6]
 case hb=>
  intro i x hx
  obtain⟨t,hg,rfl⟩:=getT hx
  have htt:=ht t (Jg hg)
  rw[Qva,sbind,show([toR [t.T,t.H,t.H,t.Err],(toTry t).Y]:List (List Qb))=[[t.T,t.H,t.H,t.Err],t.Y].map toR from rfl,Qu9 hn (by omega:K<1099511627776) (λr hr=>by
   rcases List.mem_cons.1 hr with rfl | hr
   . exact Qwx htt
   . rw[List.mem_singleton.1 hr];exact htt.2.2.2.1),sbind]
  rfl
 rw[show([[toF T],toR Y]:List (List Qb))=[[T],Y].map toR from rfl,Qu9 hn (by omega:K<1099511627776) (λr hr=>by
  rcases List.mem_cons.1 hr with rfl | hr
  . intro q hq;rw[List.mem_singleton.1 hq];exact hT
  . rw[List.mem_singleton.1 hr];exact hY),sbind,sbind,Bool.not_true,bifF]
 rw[Qf6]
 case hb=>
  intro i x hx
  obtain⟨t,hg,rfl⟩:=getT hx
  have htt:=ht t (Jg hg)
  rw[decide_eq_true (show((toTry t).Y.length:Int)=((toR Y).length:Int) by show((toR t.Y).length:Int)=_;rw[Wx,Wx,htt.2.2.2.2,hYl])]
  rfl
 rw[Wx,decide_eq_true (show(1:Int)≤(Y.length:Int) by omega),bifT,decide_eq_true (show(Y.length:Int)≤6 by omega),sbind,Bool.not_true,bifF,List.length_map,decide_eq_false (show ¬(200:Int)<(tr.length:Int) by omega),bifF]
 rw[Qf6]
 case hb=>
  intro i x hx
  obtain⟨t,hg,rfl⟩:=getT hx
  have htt:=ht t (Jg hg)
  obtain⟨s1,s2⟩:=hs t (Jg hg)
  show((Xc n (toF t.H)).bind λr40=>bif decide (r40≤(0:Int)) then _ else (Xc n (toF t.H)).bind λr42=>bif decide (r42≤(0:Int)) then _ else (Qcu n (toF t.H) (toF t.H)).bind λr44=>bif decide ((0:Int)<r44) then _ else (Xc n (toF t.Err)).bind λr46=>_)=_
  rw[Qd8 (k:=K) hn h1 (by omega) (K4 htt.2.1),sbind,J8,decide_eq_false (show ¬ t.H.num.sign≤0 by omega),bifF,sbind,decide_eq_false (show ¬ t.H.num.sign≤0 by omega),bifF,Qky (k:=K) hn h1 (by omega) (K4 htt.2.1) (K4 htt.2.1),sbind,J8,show(t.H - t.H).num.sign=0 from by rw[Rat.sub_self];rfl,decide_eq_false (show ¬(0:Int)<0 by decide),bifF,Qd8 (k:=K) hn h1 (by omega) (K4 htt.2.2.1),sbind,J8,decide_eq_false (show ¬ t.Err.num.sign<0 by omega)]
  rfl
 rw[sbind,Bool.not_true,bifF]
 rw[Qf6]
 case hb=>
  intro i x hx
  obtain⟨t,hg,rfl⟩:=getT hx
  have htt:=ht t (Jg hg)
  have hi:=Jw hg
  obtain⟨c1,c2⟩:=Q18 hc hg
  have adds:Wz n (toTry t).T (toTry t).H=some (toF (t.T+t.H)):=by
   show Wz n (toF t.T) (toF t.H)=_
   rw[Qbi (k:=K) hn h1 (by omega) (K4 htt.1) (K4 htt.2.1),J8,J8]
  have hqa:=Qc2 htt.1 htt.2.1
  have okt:(toTry t).Ok=true:=rfl
  rw[w1 (by omega),okt]
  simp only[bifT]
  rw[adds]
  by_cases h2:i+1<tr.length
  . rw[decide_eq_true (show((i+1:Nat):Int)<(tr.length:Int) by omega),bifT]
    have hp:tr[i+1]?=some tr[i+1]:=List.getElem?_eq_getElem h2
    have hu:=ht tr[i+1] (List.getElem_mem h2)
    generalize tr[i+1]=u at hp hu
    rw[Jd (show(tr.map toTry)[i+1]?=some (toTry u) by rw[List.getElem?_map,hp];rfl),sbind,sbind,sbind]
    show((Wr n (toF u.T) (toF (t.T+t.H))).bind _).bind _=_
    rw[Qb0 (k:=2*K+1) hn (by omega) (by omega) (K4 (by have:=hu.1;omega)) (K4 (by omega)),J8,J8,decide_eq_true (c1 u hp)]
    rfl
  . rw[decide_eq_false (show ¬((i+1:Nat):Int)<(tr.length:Int) by omega),bifF]
    rw[sbind,Qb0 (k:=2*K+1) hn (by omega) (by omega) (K4 (by omega)) (K4 (by omega)),J8,J8,decide_eq_true (c2 (by omega))]
    rfl
 rfl
theorem Qwy{n K m:Nat}{tr:List TryQ}{T:Rat}{Y:List Rat}(hn:big≤n)(hK:K<274877906944)(h1:1≤K)(ht:∀ t∈tr,TQ K m t)(hT:qw T≤K)(hY:QR K Y):Qgy n (mH tr T Y) (mH tr T Y)=some true:=by
 unfold Qgy Qj3
 simp only[jn_eq]
 have rowS:∀ {l:List Rat},QR K l->Qax n (toR l) (toR l)=some true:=λh=>by
  rw[Qyg (k:=K) hn h1 (by omega) (Qa4 h) (Qa4 h)];simp
 rw[decide_eq_true trivial,Bool.not_true,bifF]
 show((Wr n (toF T) (toF T)).bind λr8=>bif !r8 then _ else (Qax n (toR Y) (toR Y)).bind λr10=>_)=_
 rw[Qb0 (k:=K) hn h1 (by omega) (K4 hT) (K4 hT),decide_eq_true rfl,sbind,Bool.not_true,bifF,rowS hY,sbind,Bool.not_true,bifF]
 rw[Qf6]
 intro i x hx
 obtain⟨t,hg,rfl⟩:=getT hx
 have htt:=ht t (Jg hg)
 rw[Jd hx,sbind,beq_self_eq_true,bifT,Qva,sbind,sbind,rowS (Qwx htt),sbind,bifT,show(toTry t).Y=toR t.Y from rfl,rowS htt.2.2.2.1]
 rfl
theorem Qrt(tr:List TryQ):okT (tr.map toTry)=tr.map toTry:=by
 unfold okT
 rw[List.filter_eq_self]
 intro x hx
 obtain⟨t,_,rfl⟩:=List.mem_map.1 hx
 rfl
end Go.Proofs.YtlihkcaoachkdaaGreatDoor
