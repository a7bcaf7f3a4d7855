import Derived.Test.YtlfphifbmoccgaaGreatDoorP2
namespace Go.Proofs.YtlfphifbmoccgaaGreatDoor
open Go Go.RowKit
theorem Qu6{R:Type}{f:Int->Option (Lp Int (Lp Unit R))}{K:Unit->Option R}{n:Nat}(P:Nat->Prop)(r:Nat->R)(N:Nat)
 (hb:∀ i,i<N->(P i->f (i:Int)=some (.go ((i+1:Nat):Int)))∧(¬ P i->f (i:Int)=some (.out (.out (r i))))) (he:f (N:Int)=some (.out (.go ()))) (hn:N<n) :
 ((∀ i,i<N->P i)∧(loopM f n 0).bind (lpK K)=K ())∨(¬(∀ i,i<N->P i)∧∃ j,(loopM f n 0).bind (lpK K)=some (r j)):=by
 have key:∀(m k n:Nat),k+m=N->m<n->((∀ i,k≤i->i<N->P i)∧(loopM f n (k:Int)).bind (lpK K)=K ())∨(¬(∀ i,k≤i->i<N->P i)∧∃ j,(loopM f n (k:Int)).bind (lpK K)=some (r j)):=by
  intro m
  induction m with
  | zero=>
    intro k n hk hn;obtain rfl:k=N:=by omega
    exact .inl ⟨λi h1 h2=>by omega,by rw[W4 he (by omega),Option.bind_some,Xf]⟩
  | succ m ih=>
    intro k n hk hn;obtain⟨n',rfl⟩:∃ n',n=n'+1:=⟨n - 1,by omega⟩
    obtain⟨h1,h2⟩:=hb k (by omega);by_cases hp:P k;rw[Qg7 (h1 hp)];rcases ih (k+1) n' (by omega) (by omega) with ⟨g1,g2⟩ | ⟨g1,g2⟩;refine .inl ⟨λi a b=>?_,g2⟩;rcases Nat.eq_or_lt_of_le a with c | c;exact c ▸ hp;exact g1 i c b;exact .inr ⟨λh=>g1 λi a b=>h i (by omega) b,g2⟩;exact .inr ⟨λh=>hp (h k (Nat.le_refl _) (by omega)),k,by rw[W4 (h2 hp) (by omega),Option.bind_some,Zu]⟩
 have:=key N 0 n (by omega) hn;simp only[Nat.zero_le,true_implies] at this;exact this
theorem Ql3(x a b:Int):Jk x a b=some (decide (a≤x∧x≤b)):=by unfold Jk;simp only[jn_eq,bifd];by_cases h:a≤x;rw[if_pos h];simp[h];rw[if_neg h];simp[h]
theorem Jak{a b:Qa}(h:tF a=tF b):a=b:=by obtain⟨s,x,d⟩:=a;obtain⟨t,y,e⟩:=b;unfold tF at h;simp only[] at h;cases h;rfl
theorem Jal(q:Rat):tF (rF q)=toF q:=rfl
theorem Qol{f:Qa}:rF (fr f)=f↔tF f=toF (fv (tF f)):=by rw[fr_tF,←Jal];exact⟨λh=>by rw[h],λh=>(Jak h).symm⟩
theorem Fk_wd{k:Nat}{f:Qa}(h:Fk k (tF f)):Wd f.N∧Wd f.D∧f.N.length≤k∧f.D.length≤k:=⟨h.1,h.2.2.1,h.2.1,h.2.2.2⟩
theorem Q11{n k:Nat}{f:Qa}{β:Type}(g:Bool->Option β)(hn:big≤n)(hk:k<274877906944)(h1:1≤k)(h:Fk k (tF f)):((Jp n f).bind λr=>(J6 n r f).bind g)=g (dP (tF f=toF (fv (tF f)))):=by obtain⟨w1,w2,w3,w4⟩:=Fk_wd h;have hq:=qw_fr (Fk_wd h) h1;have hl:=Q3b hq;rw[Xw hn w1 w2 (by omega) (by omega),sbind,Qj5 hn (by omega) (by omega),sbind,@decP _ (Classical.propDecidable _),dP_c Qol]
theorem Qx6{n k i:Nat}{t:Qz}{x:Jg}(hn:big≤n)(hk:k<274877906944)(h1:1≤k)(hx:Fk k (tF x.N))(hi:i<1000000)
 (hd:-9223372036854775807≤t.An) (hd2:t.An≤9223372036854775807) (hp:-9223372036854775807≤t.Aq) (hp2:t.Aq≤9223372036854775807):Yw n x (i:Int) t.An t.Aq=some (dP (mayR (tT t) i (tI x))):=by
 unfold Yw mayR;have eN:(tI x).N=tF x.N:=rfl;have eO:(tI x).Op=x.Op:=rfl;have eA:(tI x).A=x.A:=rfl;have eB:(tI x).B=x.B:=rfl;have eD:(tT t).An=t.An:=rfl;have eP:(tT t).Aq=t.Aq:=rfl;simp only[eN,eO,eA,eB,eD,eP];rw[bifd];by_cases c1:x.Op=1;rw[if_pos c1];simp only[if_pos c1,jn_eq,bifd];by_cases a:x.A=0;rw[if_pos a];by_cases b:x.B=0;rw[if_pos b,Q11 (λr=>some r) hn hk h1 hx];exact Qxv ⟨λh=>⟨a,b,h⟩,λh=>h.2.2⟩;rw[if_neg b,dP_f λh=>b h.2.1];rw[if_neg a,dP_f λh=>a h.1];rw[if_neg c1];simp only[if_neg c1,jn_eq];have hb:blankF (tF x.N)↔x.N.Neg=false∧x.N.N.length=0∧x.N.D.length=0:=by
  unfold blankF tF;exact⟨λh=>⟨h.1,congrArg List.length h.2.1,congrArg List.length h.2.2⟩,λh=>⟨h.1,List.eq_nil_of_length_eq_zero h.2.1,List.eq_nil_of_length_eq_zero h.2.2⟩⟩
 by_cases hN:x.N.Neg=true;rw[hN,bifT,bifT,dP_f λh=>by have:=(hb.1 h.1).1;rw[hN] at this;cases this];have hN':x.N.Neg=false:=by simpa using hN
 rw[hN',bifF];simp only[bifd];by_cases l1:(0:Int)<(x.N.N.length:Int);rw[if_pos l1,bifT,dP_f λh=>by have:=(hb.1 h.1).2.1;omega];rw[if_neg l1];by_cases l2:(0:Int)<(x.N.D.length:Int);rw[if_pos l2,dP_f λh=>by have:=(hb.1 h.1).2.2;omega];rw[if_neg l2];have hbl:blankF (tF x.N):=hb.2 ⟨hN',by omega,by omega⟩;simp only[Ql3,sbind,bifd];have eR:rdT (tI x)=if x.Op=6∨x.Op=11 then [x.A] else if x.Op=7∨x.Op=8∨x.Op=9∨x.Op=10 then [x.A,x.B] else []:=rfl
 have w1:wrap64 (t.An - 1)=t.An - 1:=w64 (by omega) (by omega);have w2:wrap64 (t.Aq - 1)=t.Aq - 1:=w64 (by omega) (by omega);have w3:wrap64 ((i:Int) - 1)=(i:Int) - 1:=w64 (by omega) (by omega);rw[eR,w1,w2,w3];clear w1 w2 w3;by_cases c2:x.Op=2;simp only[if_pos c2];rw[if_neg (show ¬(x.Op=6∨x.Op=11) by omega),if_neg (show ¬(x.Op=7∨x.Op=8∨x.Op=9∨x.Op=10) by omega)];exact Qf2 ⟨λh=>⟨hbl,λr hr=>(by cases hr),h⟩,λh=>h.2.2⟩;simp only[if_neg c2];by_cases c3:x.Op=3;simp only[if_pos c3];rw[if_neg (show ¬(x.Op=6∨x.Op=11) by omega),if_neg (show ¬(x.Op=7∨x.Op=8∨x.Op=9∨x.Op=10) by omega)];exact Qf2 ⟨λh=>⟨hbl,λr hr=>(by cases hr),by omega⟩,λh=>by have:=h.2.2;omega⟩;simp only[if_neg c3];by_cases c4:x.Op=4;simp only[if_pos c4];rw[if_neg (show ¬(x.Op=6∨x.Op=11) by omega),if_neg (show ¬(x.Op=7∨x.Op=8∨x.Op=9∨x.Op=10) by omega)];exact Qf2 ⟨λh=>⟨hbl,λr hr=>(by cases hr),by omega⟩,λh=>by have:=h.2.2;omega⟩;simp only[if_neg c4];by_cases c6:x.Op=6;simp only[if_pos c6];rw[if_pos (show x.Op=6∨x.Op=11 by omega)];exact Qf2 ⟨λh=>⟨hbl,λr hr=>(by rw[List.mem_singleton.1 hr];omega),h.2⟩,λh=>⟨by have:=h.2.1 x.A (by simp);omega,h.2.2⟩⟩;simp only[if_neg c6];by_cases c11:x.Op=11;simp only[if_pos c11];rw[if_pos (show x.Op=6∨x.Op=11 by omega)];exact Qf2 ⟨λh=>⟨hbl,λr hr=>(by rw[List.mem_singleton.1 hr];omega),h.2⟩,λh=>⟨by have:=h.2.1 x.A (by simp);omega,h.2.2⟩⟩;simp only[if_neg c11];rw[if_neg (show ¬(x.Op=6∨x.Op=11) by omega)];by_cases c7:7≤x.Op∧x.Op≤10;rw[if_pos c7,if_pos (show x.Op=7∨x.Op=8∨x.Op=9∨x.Op=10 by omega)]
 exact Qf2 ⟨λh=>⟨hbl,λr hr=>(by
  rcases List.mem_cons.1 hr with rfl | hr;omega
  rw[List.mem_singleton.1 hr];omega),rfl⟩,λh=>⟨by have:=h.2.1 x.A (by simp);omega,by have:=h.2.1 x.B (by simp);omega⟩⟩
 rw[if_neg c7,if_neg (show ¬(x.Op=7∨x.Op=8∨x.Op=9∨x.Op=10) by omega),dP_f λh=>by have:=h.2.2;simp at this]
theorem Qc6{α β:Type}(f:α->β){l:List α}{i:Nat}{x:α}(h:l[i]?=some x):(l.map f)[i]?=some (f x):=by rw[List.getElem?_map,h];rfl
theorem Qu7{n k:Nat}{t:Qz}(hn:big≤n)(hk:k<274877906944)(h1:1≤k)(hx:∀ x∈t.Code,Fk k (tF x.N))(ho:t.Al.length≤1000000):
 ∃ v,Zl n t=some v∧(v=-1↔tapeR (tT t)):=by
 unfold Zl;simp only[jn_eq,Ql3,sbind,bifnd];have hw:wholeR (tT t)↔((1≤t.An∧t.An≤6)∧(0≤t.Aq∧t.Aq≤6)∧(t.Al.length:Int)=t.An∧t.Code.length≤300):=by unfold wholeR tT;simp only[List.length_map]
 by_cases c1:1≤t.An∧t.An≤6
 case neg=>rw[if_neg c1];exact⟨-2,rfl,λh=>by omega,λh=>absurd (hw.1 h.1).1 c1⟩
 rw[if_pos c1];by_cases c2:0≤t.Aq∧t.Aq≤6
 case neg=>rw[if_neg c2];exact⟨-2,rfl,λh=>by omega,λh=>absurd (hw.1 h.1).2.1 c2⟩
 rw[if_pos c2];by_cases c3:(t.Al.length:Int)=t.An
 case neg=>rw[if_neg c3];exact⟨-2,rfl,λh=>by omega,λh=>absurd (hw.1 h.1).2.2.1 c3⟩
 rw[if_pos c3];by_cases c4:(300:Int)<(t.Code.length:Int)
 . rw[decide_eq_true c4,bifT];exact⟨-2,rfl,λh=>by omega,λh=>by have:=(hw.1 h.1).2.2.2;omega⟩
 rw[decide_eq_false c4,bifF];have hwh:wholeR (tT t):=hw.2 ⟨c1,c2,c3,by omega⟩
 rcases Qu6 (f:=λ(s24:Int)=>
  bif decide (s24<(t.Code.length:Int)) then (
   (getI t.Code s24).bind λy25=>
   (Yw n y25 s24 t.An t.Aq).bind λr27=>
   bif !r27 then (
    some (Lp.out (Lp.out (s24))))
   else (
    some (Lp.go (wrap64 (s24+(1:Int))))))
  else (
   some (Lp.out (Lp.go ())))) (n:=n) (K:=λ(_:Unit)=>
  (loopM (λ(s41:Int)=>
   bif decide (s41<(t.Al.length:Int)) then (
    (getI t.Al s41).bind λy42=>
    if (0≤y42∧y42≤(wrap64 ((t.Code.length:Int) - (1:Int)))) then (
     some (Lp.go (wrap64 (s41+(1:Int)))))
    else (
     some (Lp.out (Lp.out ((t.Code.length:Int))))))
   else (
    some (Lp.out (Lp.go ())))) n (0:Int)).bind (lpK λ(_:Unit)=>
  some (-1:Int))) (λi=>∀ x,t.Code[i]?=some x->mayR (tT t) i (tI x)) (λi=>(i:Int)) t.Code.length (λi hi=>by
  have hp:t.Code[i]?=some t.Code[i]:=List.getElem?_eq_getElem hi;have hxx:=hx t.Code[i] (List.getElem_mem hi);generalize t.Code[i]=x at hp hxx;rw[decide_eq_true (by omega),bifT,Jl hp,sbind,Qx6 hn hk h1 hxx (by omega) (by omega) (by omega) (by omega) (by omega),sbind,w1 (by omega)]
  exact⟨λh=>by rw[dP_t (h x hp)];rfl,λh=>by rw[dP_f λg=>h λy hy=>by rw[hp] at hy;cases hy;exact g];rfl⟩) (by rw[decide_eq_false (by omega)];rfl) (by unfold big at hn;omega) with ⟨g1,g2⟩ | ⟨g1,j,g2⟩
 . have hmay:∀(i:Nat) x,(tT t).Code[i]?=some x->mayR (tT t) i x:=by
    intro i x hx;unfold tT at hx;simp only[List.getElem?_map] at hx;cases hc:t.Code[i]? with
    | none=>rw[hc] at hx;cases hx
    | some y=>rw[hc] at hx;cases hx;exact g1 i (Kb hc) y hc
   rw[g2]
   rcases Qu6 (f:=λ(s41:Int)=>
    bif decide (s41<(t.Al.length:Int)) then (
     (getI t.Al s41).bind λy42=>
     if (0≤y42∧y42≤(wrap64 ((t.Code.length:Int) - (1:Int)))) then (
      some (Lp.go (wrap64 (s41+(1:Int)))))
     else (
      some (Lp.out (Lp.out ((t.Code.length:Int))))))
    else (
     some (Lp.out (Lp.go ())))) (n:=n) (K:=λ(_:Unit)=>some (-1:Int)) (λi=>∀ o,t.Al[i]?=some o->0≤o∧o<(t.Code.length:Int)) (λ_=>(t.Code.length:Int)) t.Al.length (λi hi=>by
    have hp:t.Al[i]?=some t.Al[i]:=List.getElem?_eq_getElem hi;generalize t.Al[i]=x at hp;rw[decide_eq_true (by omega),bifT,Jl hp,sbind,w1 (by omega),w64 (by omega) (by omega)]
    exact⟨λh=>by rw[if_pos (by have:=h x hp;omega)],λh=>by rw[if_neg (λg=>h λy hy=>by rw[hp] at hy;cases hy;omega)]⟩) (by rw[decide_eq_false (by omega)];rfl) (by unfold big at hn;omega) with ⟨g3,g4⟩ | ⟨g3,j,g4⟩
   . refine⟨-1,g4,λ_=>⟨hwh,hmay,λo ho=>?_⟩,λ_=>rfl⟩
     obtain⟨i,hi⟩:=List.getElem?_of_mem ho;have:=g3 i (Kb hi) o hi;unfold tT;simp only[List.length_map];exact this
   . refine⟨_,g4,λh=>by omega,λh=>absurd (λi hi o ho=>?_) g3⟩
     have:=h.2.2 o (Kj ho);unfold tT at this;simp only[List.length_map] at this;exact this
 . refine⟨_,g2,λh=>by omega,λh=>absurd (λi hi x hx=>?_) g1⟩
   exact h.2.1 i (tI x) (Qc6 tI hx)
def FKs(k:Nat)(l:List Qa):Prop:=∀ f∈l,Fk k (tF f)
theorem Qti{f:Qa}(h:numR (tF f)):rF (fr f)=f:=Qol.2 h.1
theorem Qhf{n k:Nat}{l:List Qa}(hn:big≤n)(hk:k<274877906944)(h1:1≤k)(h:FKs k l)(hl:l.length≤1000000):Wt n l=some (!dP (∀ f∈l,numR (tF f))):=by
 unfold Wt;rw[Qm9 (λi=>∀ f,l[i]?=some f->numR (tF f)) l.length (r:=true)];have e:(∀ i,i<l.length->∀ f,l[i]?=some f->numR (tF f))↔∀ f∈l,numR (tF f):=by constructor;intro g f hf;obtain⟨i,hi⟩:=List.getElem?_of_mem hf;exact g i (Kb hi) f hi;intro g i _ f hf;exact g f (Kj hf)
 by_cases g:∀ f∈l,numR (tF f);rw[if_pos (e.2 g),dP_t g];rfl;rw[if_neg (λh=>g (e.1 h)),dP_f g];rfl;intro i hi;have hp:l[i]?=some l[i]:=List.getElem?_eq_getElem hi;have hf:=h l[i] (List.getElem_mem hi);generalize l[i]=f at hp hf;have hP:(∀ g,l[i]?=some g->numR (tF g))↔numR (tF f):=⟨λg=>g f hp,λg y hy=>by rw[hp] at hy;cases hy;exact g⟩
 rw[hP,decide_eq_true (show(i:Int)<(l.length:Int) by omega),bifT];simp only[jn_eq,Jl hp,sbind];rw[Q11 _ hn hk h1 hf,bifnP];unfold numR;by_cases c:tF f=toF (fv (tF f));rw[if_pos c];have hr:rF (fr f)=f:=Qol.2 c;have hs:=Qf7 (q:=fr f) hn hk (qw_fr (Fk_wd hf) h1);rw[hr] at hs;rw[hs,sbind,fr_tF,w1 (by omega)];by_cases c2:qz (fr f)≤190;exact⟨λ_=>by rw[decide_eq_false (by omega),bifF],λg=>absurd ⟨c,c2⟩ g⟩;exact⟨λg=>absurd g.2 c2,λ_=>by rw[decide_eq_true (by omega),bifT]⟩;rw[if_neg c];exact⟨λg=>absurd g.1 c,λ_=>rfl⟩;rw[decide_eq_false (by omega)];rfl;unfold big at hn;omega
theorem Qx7{n k:Nat}{a:List Rat}(hn:big≤n)(h1:1≤k)(hk:k<1048576)(ha:QR k a)(hl:a.length≤1000):Wv n (rR a)=some (rF (sumQ a)):=by
 unfold Wv;rw[Qad hn,sbind];rw[Wq (λi=>(rF (sumQ (a.take i)),(i:Int))) a.length (rF (sumQ a))];intro i hi;have hp:a[i]?=some a[i]:=List.getElem?_eq_getElem hi;have q1:=ha a[i] (List.getElem_mem hi);generalize a[i]=x at hp q1;have e:sumQ (a.take (i+1))=sumQ (a.take i)+x:=by rw[Qg1 hp];unfold sumQ;rw[List.foldl_append];rfl
 have hb:=Qmm (l:=a.take i) (b:=1) (z:=0) (λq hq=>ha q (List.mem_of_mem_take hq)) (by rw[Qam];exact Nat.le_refl _);have hc:(a.take i).length*(k+1)≤1000*1048576:=Nat.mul_le_mul (by simp;omega) (by omega);rw[Kf,decide_eq_true (show(i:Int)<(a.length:Int) by omega),bifT,Jl (Qlg hp),sbind,Zi (k:=2000000000) hn (by omega) (by unfold sumQ;omega) (by omega),sbind,e,w1 (by omega)];rw[Kf,decide_eq_false (show ¬(a.length:Int)<(a.length:Int) by omega),bifF,List.take_length];unfold big at hn;omega;rfl
theorem Qg3{l:List Qa}(h:∀ f∈l,numR (tF f)):rR (rvr l)=l:=by
 unfold rR rvr;rw[List.map_map]
 conv=>rhs;rw[←List.map_id l]
 exact List.map_congr_left λf hf=>Qti (h f hf)
theorem Q12{n k:Nat}{l:List Qa}{q:Rat}{β:Type}(g:Bool->Option β)(hn:big≤n)(h1:1≤k)(hk:k<1048576)(h:FKs k l)(hl:l.length≤8)(hr:∀ f∈l,numR (tF f)):
 ((Wv n l).bind λr=>(J6 n r (rF q)).bind g)=g (decide (sumQ (rvr l)=q)):=by
 have hq:QR k (rvr l):=Qfr (λf hf=>Fk_wd (h f hf)) h1;have hb:=Qmm (l:=rvr l) (b:=1) (z:=0) hq (by rw[Qam];exact Nat.le_refl _);have hc:(rvr l).length*(k+1)≤8*1048576:=Nat.mul_le_mul (by rw[X7];exact hl) (by omega);have e:=Qx7 (a:=rvr l) hn h1 hk hq (by rw[X7];omega);rw[Qg3 hr] at e;rw[e,sbind,Qu1 (k:=10000000) hn (by omega) (by unfold sumQ;omega),sbind]
structure SchWr(k:Nat)(s:Q2):Prop where
 a:∀ r∈s.A,FKs k r
 al:∀ r∈s.A,r.length≤1000000
 b:FKs k s.B
 bl:s.B.length≤1000000
 c:FKs k s.C
 cl:s.C.length≤1000000
 e:FKs k s.E
 el:s.E.length≤1000000
 nl:s.Name.length≤1000000
theorem Qc7{l:List Qa}:(∀ x∈l.map tF,numR x)↔∀ f∈l,numR (tF f):=
 ⟨λh f hf=>h (tF f) (List.mem_map_of_mem hf),λh x hx=>by obtain⟨f,hf,rfl⟩:=List.mem_map.1 hx;exact h f hf⟩
theorem Q13{σ ρ:Type}{A:(σ->Option ρ)->Option ρ}{k:σ->Option ρ}{Q:ρ->Prop}(b:σ)(hA:∀ k',A k'=k' b)(hk:∃ v,k b=some v∧Q v):∃ v,jn A k=some v∧Q v:=by rw[jn_eq,hA];exact hk
theorem Qs2{R:Type}{f:Int->Option (Lp Int (Lp Unit R))}{K:Unit->Option R}{n:Nat}{Q:R->Prop}(P:Nat->Prop)(r:R)(N:Nat)
 (hb:∀ i,i<N->(P i->f (i:Int)=some (.go ((i+1:Nat):Int)))∧(¬ P i->f (i:Int)=some (.out (.out r)))) (he:f (N:Int)=some (.out (.go ()))) (hn:N<n)
 (hK:(∀ i,i<N->P i)->∃ v,K ()=some v∧Q v) (hr:¬(∀ i,i<N->P i)->Q r):∃ v,(loopM f n 0).bind (lpK K)=some v∧Q v:=by
 rcases Qu6 (K:=K) P (λ_=>r) N hb he hn with ⟨g1,g2⟩ | ⟨g1,j,g2⟩;rw[g2];exact hK g1;exact⟨r,g2,hr g1⟩
theorem bifExN{ρ:Type}{b:Bool}{x:ρ}{y:Option ρ}{Q:ρ->Prop}(h1:b=false->Q x)(h2:b=true->∃ v,y=some v∧Q v):∃ v,(bif !b then some x else y)=some v∧Q v:=by cases b;exact⟨x,rfl,h1 rfl⟩;exact h2 rfl
theorem Qky{s:Q2}:shapeR (tS s)↔((1≤s.B.length∧s.B.length≤8)∧s.C.length=s.B.length∧s.A.length=s.B.length∧(s.E.length=s.B.length∨s.E.length=0))∧∀ i,i<s.B.length->∀ r,s.A[i]?=some r->r.length=i:=by
 have eB:(tS s).B=s.B.map tF:=rfl;have eC:(tS s).C=s.C.map tF:=rfl;have eE:(tS s).E=s.E.map tF:=rfl;have eA:(tS s).A=s.A.map (·.map tF):=rfl;unfold shapeR;rw[eB,eC,eE,eA];simp only[List.length_map];refine⟨λh=>⟨⟨h.1,h.2.1,h.2.2.1,h.2.2.2.1⟩,λi _ r hr=>?_⟩,λh=>⟨h.1.1,h.1.2.1,h.1.2.2.1,h.1.2.2.2,λi r hr=>?_⟩⟩;have:=h.2.2.2.2 i (r.map tF) (Qc6 _ hr);simpa using this;rw[List.getElem?_map] at hr;cases hc:s.A[i]? with
 | none=>rw[hc] at hr;cases hr
 | some y=>
   rw[hc] at hr;cases hr;have:=h.2 i (by have:=Kb hc;have:=h.1.2.2.1;omega) y hc
   simpa using this
theorem Qu8{n k:Nat}{s:Q2}(hn:big≤n)(h1:1≤k)(hk:k<1048576)(hs:SchWr k s):∃ v,Zn n s=some v∧(v=0↔schR (tS s)):=by
 unfold Zn;rw[Qu5 hn,sbind];simp only[];unfold schR;have eNm:(tS s).Name=s.Name:=rfl;have eB:(tS s).B=s.B.map tF:=rfl;have eC:(tS s).C=s.C.map tF:=rfl;have eE:(tS s).E=s.E.map tF:=rfl;have eA:(tS s).A=s.A.map (·.map tF):=rfl;rw[eNm];refine bifExN (λhw=>⟨λh=>by omega,λh=>by rw[hw] at h;exact absurd h.1 (by decide)⟩) λhw=>?_;refine Q13 (!decide ((1≤s.B.length∧s.B.length≤8)∧s.C.length=s.B.length∧s.A.length=s.B.length∧(s.E.length=s.B.length∨s.E.length=0))) (λk'=>?_) ?_
 . simp only[bifd,bifnd]
   have tr:∀ {P:Prop}[Decidable P],¬ P->k' true=k' (!decide P):=λh=>by rw[decide_eq_false h];rfl
   by_cases c1:(s.B.length:Int)<1
   . rw[if_pos c1];exact tr (by omega)
   rw[if_neg c1];by_cases c2:(8:Int)<(s.B.length:Int)
   . rw[if_pos c2];exact tr (by omega)
   rw[if_neg c2];by_cases c3:(s.C.length:Int)=(s.B.length:Int)
   case neg=>rw[if_neg c3];exact tr (by omega)
   rw[if_pos c3];by_cases c4:(s.A.length:Int)=(s.B.length:Int)
   case neg=>rw[if_neg c4];exact tr (by omega)
   rw[if_pos c4];by_cases c5:(s.E.length:Int)=0
   . rw[if_pos c5,decide_eq_true (by omega)];rfl
   rw[if_neg c5];by_cases c6:(s.E.length:Int)=(s.B.length:Int)
   . rw[decide_eq_true c6,decide_eq_true (by omega)]
   . rw[decide_eq_false c6];exact tr (by omega)
 refine bifExN (λhsh=>⟨λh=>by omega,λh=>absurd (Qky.1 h.2.1).1 (of_decide_eq_false hsh)⟩) λhsh=>?_;have hsh:=of_decide_eq_true hsh;obtain⟨⟨b1,b2⟩,b3,b4,b5⟩:=hsh;have hgA:∀ i,i<s.B.length->∃ r,s.A[i]?=some r∧r∈s.A:=λi hi=>⟨s.A[i]'(by omega),List.getElem?_eq_getElem (by omega),List.getElem_mem (by omega)⟩
 have hgC:∀ i,i<s.B.length->∃ r,s.C[i]?=some r∧r∈s.C:=λi hi=>⟨s.C[i]'(by omega),List.getElem?_eq_getElem (by omega),List.getElem_mem (by omega)⟩
 have hbn:s.B.length<n:=by unfold big at hn;omega
 refine Qs2 (λi=>∀ r,s.A[i]?=some r->r.length=i) 2 s.B.length (λi hi=>?_) ?_ hbn (λhlen=>?_) (λhlen=>⟨λh=>by omega,λh=>absurd (Qky.1 h.2.1).2 hlen⟩)
 . obtain⟨r,hr,_⟩:=hgA i hi
   rw[decide_eq_true (show(i:Int)<(s.B.length:Int) by omega),bifT,Jl hr,sbind,w1 (by omega)];exact⟨λh=>by rw[decide_eq_true (show(r.length:Int)=(i:Int) by have:=h r hr;omega)];rfl,λh=>by rw[decide_eq_false (λg=>h λy hy=>by rw[hr] at hy;cases hy;omega)];rfl⟩
 . rw[decide_eq_false (by omega)];rfl
 have hShape:shapeR (tS s):=Qky.2 ⟨⟨⟨b1,b2⟩,b3,b4,b5⟩,hlen⟩;refine Qs2 (λi=>∀ r,s.A[i]?=some r->∀ f∈r,numR (tF f)) 3 s.B.length (λi hi=>?_) ?_ hbn (λhnum=>?_) (λhnum=>⟨λh=>by omega,λh=>absurd (λi hi r hr=>Qc7.1 (h.2.2.1.1 (r.map tF) (by rw[eA];exact List.mem_map_of_mem (Kj hr)))) hnum⟩)
 . obtain⟨r,hr,hm⟩:=hgA i hi
   rw[decide_eq_true (show(i:Int)<(s.B.length:Int) by omega),bifT,Jl hr,sbind,Qhf hn (by omega) h1 (hs.a r hm) (hs.al r hm),sbind,w1 (by omega)];exact⟨λh=>by rw[dP_t (h r hr)];rfl,λh=>by rw[dP_f (λg=>h λy hy=>by rw[hr] at hy;cases hy;exact g)];rfl⟩
 . rw[decide_eq_false (by omega)];rfl
 refine Q13 (!dP ((∀ f∈s.B,numR (tF f))∧(∀ f∈s.C,numR (tF f))∧∀ f∈s.E,numR (tF f))) (λk'=>?_) ?_
 . rw[Qhf hn (by omega) h1 hs.b hs.bl,sbind]
   by_cases d1:∀ f∈s.B,numR (tF f)
   case neg=>rw[dP_f d1,dP_f (λh=>d1 h.1)];rfl
   rw[dP_t d1,Bool.not_true,bifF,Qhf hn (by omega) h1 hs.c hs.cl,sbind];by_cases d2:∀ f∈s.C,numR (tF f)
   case neg=>rw[dP_f d2,dP_f (λh=>d2 h.2.1)];rfl
   rw[dP_t d2,Bool.not_true,bifF,Qhf hn (by omega) h1 hs.e hs.el,sbind];by_cases d3:∀ f∈s.E,numR (tF f)
   . rw[dP_t d3,dP_t ⟨d1,d2,d3⟩]
   . rw[dP_f d3,dP_f (λh=>d3 h.2.2)]
 have hA:∀ r∈s.A,∀ f∈r,numR (tF f):=λr hr=>by obtain⟨i,hi⟩:=List.getElem?_of_mem hr;exact hnum i (by have:=Kb hi;omega) r hi
 have hA':∀ r∈(tS s).A,∀ x∈r,numR x:=λr hr=>by rw[eA] at hr;obtain⟨l,hl,rfl⟩:=List.mem_map.1 hr;exact Qc7.2 (hA l hl)
 refine bifExN (λhB=>⟨λh=>by omega,λh=>?_⟩) λhB=>?_
 . exfalso
   have h3:=h.2.2.1.2;rw[eB,eC,eE] at h3;rw[dP_t ⟨Qc7.1 (h3 _ (by simp)),Qc7.1 (h3 _ (by simp)),Qc7.1 (h3 _ (by simp))⟩] at hB;cases hB
 have hB:=Q50.1 hB;obtain⟨n1,n2,n3⟩:=hB
 have hB':∀ r∈[(tS s).B,(tS s).C,(tS s).E],∀ x∈r,numR x:=λr hr=>by
  rw[eB,eC,eE] at hr;rcases List.mem_cons.1 hr with rfl | hr
  . exact Qc7.2 n1
  rcases List.mem_cons.1 hr with rfl | hr
  . exact Qc7.2 n2
  rcases List.mem_cons.1 hr with rfl | hr
  . exact Qc7.2 n3
  cases hr
 have eRows:rowsR (tS s)↔∀ i,i<s.B.length->∀ r c,s.A[i]?=some r->s.C[i]?=some c->sumQ (rvr r)=fr c:=by
  unfold rowsR;rw[eA,eC];constructor
  . intro h i _ r c hr hc
    have:=h i (r.map tF) (Qc6 _ hr);rw[Qcw,List.getD_eq_getElem?_getD,Qc6 _ hc] at this;exact this
  . intro h i r hr
    rw[List.getElem?_map] at hr;cases hc:s.A[i]? with
    | none=>rw[hc] at hr;cases hr
    | some y=>
      rw[hc] at hr;cases hr;obtain⟨c,hc2,_⟩:=hgC i (by have:=Kb hc;omega);rw[Qcw,List.getD_eq_getElem?_getD,Qc6 _ hc2];exact h i (by have:=Kb hc;omega) y c hc hc2
 refine Qs2 (λi=>∀ r c,s.A[i]?=some r->s.C[i]?=some c->sumQ (rvr r)=fr c) 4 s.B.length (λi hi=>?_) ?_ hbn (λhrow=>?_) (λhrow=>⟨λh=>by omega,λh=>absurd (eRows.1 h.2.2.2.1) hrow⟩)
 . obtain⟨r,hr,hm⟩:=hgA i hi
   obtain⟨c,hc,hcm⟩:=hgC i hi;have hcr:=Qti (n2 c hcm);have e:=λ(g:Bool->Option (Lp Int (Lp Unit Int)))=>Q12 (q:=fr c) g hn h1 hk (hs.a r hm) (by have:=hlen i hi r hr;omega) (hA r hm);rw[hcr] at e;rw[decide_eq_true (show(i:Int)<(s.B.length:Int) by omega),bifT,Jl hr,sbind];simp only[Jl hc,sbind];rw[e,w1 (by omega)];exact⟨λh=>by rw[decide_eq_true (h r c hr hc)];rfl,λh=>by rw[decide_eq_false (λg=>h λy z hy hz=>by rw[hr] at hy;cases hy;rw[hc] at hz;cases hz;exact g)];rfl⟩
 . rw[decide_eq_false (by omega)];rfl
 have hRows:=eRows.2 hrow;rw[Qok hn,sbind,Q12 _ hn h1 hk hs.b (by omega) n1];have rB:rv (tS s).B=rvr s.B:=by rw[eB,Qcw]
 have rE:rv (tS s).E=rvr s.E:=by rw[eE,Qcw]
 have eE0:(tS s).E≠[]↔s.E≠[]:=by rw[eE];simp
 rw[rB,rE,eE0];refine bifExN (λhS=>⟨λh=>by omega,λh=>absurd h.2.2.2.2.1 (of_decide_eq_false hS)⟩) λhS=>?_;have hS:=of_decide_eq_true hS;refine Q13 (!dP (s.E≠[]->sumQ (rvr s.E)=1)) (λk'=>?_) ?_
 . by_cases hE:s.E=[]
   . rw[hE]
     rw[dP_t (λh=>absurd rfl h)];rfl
   . have:s.E.length≠0:=λh=>hE (List.eq_nil_of_length_eq_zero h)
     rw[decide_eq_true (show(0:Int)<(s.E.length:Int) by omega),bifT,Q12 _ hn h1 hk hs.e (by omega) n3];by_cases g:sumQ (rvr s.E)=1
     . rw[decide_eq_true g,dP_t (λ_=>g)]
     . rw[decide_eq_false g,dP_f (λh=>g (h hE))]
 cases hE:dP (s.E≠[]->sumQ (rvr s.E)=1)
 . rw[Bool.not_false,bifT]
   exact⟨6,rfl,λh=>by omega,λh=>by rw[dP_t h.2.2.2.2.2] at hE;cases hE⟩
 . rw[Bool.not_true,bifF]
   exact⟨0,rfl,λ_=>⟨hw,hShape,⟨hA',hB'⟩,hRows,hS,Q50.1 hE⟩,λ_=>rfl⟩
structure PrbWr(k:Nat)(p:Qu):Prop where
 t:∀ x∈p.Tape.Code,Fk k (tF x.N)
 o:p.Tape.Al.length≤1000000
 s:SchWr k p.Aj
 pk:FKs k p.P
 pl:p.P.length≤1000000
theorem Qu9{n k:Nat}{p:Qu}(hn:big≤n)(h1:1≤k)(hk:k<1048576)(hp:PrbWr k p):Zo n p=some (dP (prbR (tP p))):=by
 unfold Zo prbR;simp only[jn_eq];obtain⟨v,e1,e2⟩:=Qu7 hn (show k<274877906944 by omega) h1 hp.t hp.o;obtain⟨u,e3,e4⟩:=Qu8 hn h1 hk hp.s;have eT:(tP p).Tape=tT p.Tape:=rfl;have eS:(tP p).Aj=tS p.Aj:=rfl;have eP:((tP p).P.length:Int)=(p.P.length:Int):=by unfold tP;simp
 have eR:(tT p.Tape).Aq=p.Tape.Aq:=rfl;rw[e1,sbind,eT,eS,eP,eR,bifd];by_cases c1:v=-1;rw[if_pos c1,e3,sbind,bifd];by_cases c2:u=0;rw[if_pos c2];exact Qcu ⟨λh=>⟨e2.1 c1,e4.1 c2,h⟩,λh=>h.2.2⟩;rw[if_neg c2,dP_f λh=>c2 (e4.2 h.2.1)];rw[if_neg c1,dP_f λh=>c1 (e2.2 h.1)]
theorem Qc8{l:List Rat}{r:Int}(h1:0≤r)(h2:r<(l.length:Int)):getI (rR l) r=some (rF (l.getD r.toNat 0)):=by
 obtain⟨k,rfl⟩:∃ k:Nat,r=(k:Int):=⟨r.toNat,by omega⟩
 have hk:k<l.length:=by omega
 rw[Qcg,Int.toNat_natCast,Qlg (List.getElem?_eq_getElem hk),List.getD_eq_getElem?_getD,List.getElem?_eq_getElem hk];rfl
theorem Q3c{t:Qr}{i:Nat}{x:Qv}(h:mayR t i x):x.Op=1∨x.Op=2∨x.Op=3∨x.Op=4∨x.Op=6∨x.Op=11∨x.Op=7∨x.Op=8∨x.Op=9∨x.Op=10:=by unfold mayR at h;by_cases c1:x.Op=1;exact .inl c1;rw[if_neg c1] at h;by_cases c2:x.Op=2;omega;rw[if_neg c2] at h;by_cases c3:x.Op=3;omega;rw[if_neg c3] at h;by_cases c4:x.Op=4;omega;rw[if_neg c4] at h;by_cases c6:x.Op=6;omega;rw[if_neg c6] at h;by_cases c11:x.Op=11;omega;rw[if_neg c11] at h;have:=h.2.2;unfold rdT at this;rw[if_neg (by omega)] at this;by_cases c7:x.Op=7∨x.Op=8∨x.Op=9∨x.Op=10;omega;rw[if_neg c7] at this;simp at this
theorem Jam{t:Qr}{i:Nat}{x:Qv}(h:mayR t i x)(h1:x.Op=1):x.N=toF (fv x.N):=by unfold mayR at h;rw[if_pos h1] at h;exact h.2.2
theorem Qom{n k:Nat}{t:Qz}{x:Jg}{T:Rat}{Y P done:List Rat}(hn:big≤n)(h1:1≤k)(hk:k<1048576)(hx:mayR (tT t) done.length (tI x))(hN:Fk k (tF x.N))
 (hT:qw T≤k) (hY:QR k Y) (hP:QR k P) (hD:QR k done) (hy:(Y.length:Int)=t.An) (hp:(P.length:Int)=t.Aq) :
 ∃ v,V9 n x ⟨rF T,rR Y,rR P⟩ (rR done)=some (match opQ (tI x) T Y P done with | none=>(v,false) | some q=>(rF q,true))∧∀ q,opQ (tI x) T Y P done=some q->qw q≤8*k+1:=by
 unfold V9 opQ Qay;have eN:(tI x).N=tF x.N:=rfl;have eO:(tI x).Op=x.Op:=rfl;have eA:(tI x).A=x.A:=rfl;have eB:(tI x).B=x.B:=rfl;have rd:=Qte hx;have dA:x.Op=6∨x.Op=11∨x.Op=7∨x.Op=8∨x.Op=9∨x.Op=10->getI (rR done) x.A=some (rF (done.getD x.A.toNat 0)):=λh=>Qc8 (rd _ (rdT_A (x:=tI x) h)).1 (rd _ (rdT_A (x:=tI x) h)).2;have dB:x.Op=7∨x.Op=8∨x.Op=9∨x.Op=10->getI (rR done) x.B=some (rF (done.getD x.B.toNat 0)):=λh=>Qc8 (rd _ (rdT_B (x:=tI x) h)).1 (rd _ (rdT_B (x:=tI x) h)).2;have qA:qw (done.getD x.A.toNat 0)≤k:=Vl hD h1;have qB:qw (done.getD x.B.toNat 0)≤k:=Vl hD h1;have hop:=Q3c hx;rw[eO] at hop;simp only[eN,eO,eA,eB,jn_eq];generalize done.getD x.A.toNat 0=a at dA qA ⊢;generalize done.getD x.B.toNat 0=b at dB qB ⊢;rcases hop with h | h | h | h | h | h | h | h | h | h
 . simp only[h,Int.reduceEq,decide_true,decide_false,bifT,bifF,if_true,if_false]
   have hr:rF (fr x.N)=x.N:=Qol.2 (Jam hx h);have hq:=qw_fr (Fk_wd hN) h1;refine⟨rF 0,by rw[fr_tF,hr],λq hq'=>?_⟩;have:q=fv (tF x.N):=(Option.some.inj hq').symm;rw[this,fr_tF];omega
 . simp only[h,Int.reduceEq,decide_true,decide_false,bifT,bifF,if_true,if_false]
   exact⟨rF 0,(by first | rfl | trivial),λq hq=>by have:q=T:=(Option.some.inj hq).symm;rw[this];omega⟩
 . obtain⟨a1,a2⟩:=Qwg hx h
   have a1':0≤x.A:=a1;have a2':x.A<t.An:=a2;have hg:getI (rR Y) x.A=some (rF (Y.getD x.A.toNat 0)):=Qc8 a1' (by omega);simp only[h,Int.reduceEq,decide_true,decide_false,bifT,bifF,if_true,if_false,hg,sbind];exact⟨rF 0,(by first | rfl | trivial),λq hq=>by have:q=Y.getD x.A.toNat 0:=(Option.some.inj hq).symm;rw[this];have:=Vl (i:=x.A.toNat) hY h1;omega⟩
 . obtain⟨a1,a2⟩:=Qwh hx h
   have a1':0≤x.A:=a1;have a2':x.A<t.Aq:=a2;have hg:getI (rR P) x.A=some (rF (P.getD x.A.toNat 0)):=Qc8 a1' (by omega);simp only[h,Int.reduceEq,decide_true,decide_false,bifT,bifF,if_true,if_false,hg,sbind];exact⟨rF 0,(by first | rfl | trivial),λq hq=>by have:q=P.getD x.A.toNat 0:=(Option.some.inj hq).symm;rw[this];have:=Vl (i:=x.A.toNat) hP h1;omega⟩
 . have hg:=dA (by omega)
   simp only[h,Int.reduceEq,decide_true,decide_false,bifT,bifF,if_true,if_false,hg,sbind,Qkx hn (show k<274877906944 by omega) qA];exact⟨rF 0,(by first | rfl | trivial),λq hq=>by have:q=-a:=(Option.some.inj hq).symm;rw[this,Qna];omega⟩
 . have hg:=dA (by omega)
   simp only[h,Int.reduceEq,decide_true,decide_false,bifT,bifF,if_true,if_false,hg,sbind,Qx5 hn (show k<1073741824 by omega) qA];refine⟨rF 0,?_,λq hq=>?_⟩
   . split<;>rfl
   . split at hq
     . cases hq
     . rename_i hc
       cases hq;exact Qtd qA (by omega)
 . have hg:=dA (by omega)
   have hg2:=dB (by omega);simp only[h,Int.reduceEq,decide_true,decide_false,bifT,bifF,if_true,if_false,hg,hg2,sbind,Zi hn (show k<274877906944 by omega) qA qB];exact⟨rF 0,(by first | rfl | trivial),λq hq=>by have:q=a+b:=(Option.some.inj hq).symm;rw[this];have:=Qb3 qA qB;omega⟩
 . have hg:=dA (by omega)
   have hg2:=dB (by omega);simp only[h,Int.reduceEq,decide_true,decide_false,bifT,bifF,if_true,if_false,hg,hg2,sbind,Qhc hn (show k<274877906944 by omega) qA qB];exact⟨rF 0,(by first | rfl | trivial),λq hq=>by have:q=a - b:=(Option.some.inj hq).symm;rw[this];have:=Qle qA qB;omega⟩
 . have hg:=dA (by omega)
   have hg2:=dB (by omega);simp only[h,Int.reduceEq,decide_true,decide_false,bifT,bifF,if_true,if_false,hg,hg2,sbind,Wi hn (show k<274877906944 by omega) qA qB];exact⟨rF 0,(by first | rfl | trivial),λq hq=>by have:q=a*b:=(Option.some.inj hq).symm;rw[this];have:=Xg qA qB;omega⟩
 . have hg:=dA (by omega)
   have hg2:=dB (by omega);simp only[h,Int.reduceEq,decide_true,decide_false,bifT,bifF,if_true,if_false,hg,hg2,sbind,Qj4,Qhd hn (show k<274877906944 by omega) qA qB];by_cases h0:b=0
   . rw[decide_eq_true h0,bifT,if_pos h0]
     exact⟨rF b,(by first | rfl | trivial),λq hq=>by cases hq⟩
   . rw[decide_eq_false h0,bifF,if_neg h0]
     exact⟨rF b,(by first | rfl | trivial),λq hq=>by have:q=a / b:=(Option.some.inj hq).symm;rw[this];have:=Qnb qA qB;omega⟩
theorem Qnh{α:Type}{l:List α}{i:Nat}{x:α}(h:l[i]?=some x):l.drop i=x::l.drop (i+1):=by have hi:=Kb h;rw[List.drop_eq_getElem_cons hi];congr 1;rw[List.getElem?_eq_getElem hi] at h;exact Option.some.inj h
theorem Qwx{n k:Nat}{t:Qz}{T:Rat}{Y P:List Rat}{lim:Int}(hn:big≤n)(h1:129≤k)(hk:k<1048576)(ht:tapeR (tT t))(hN:∀ c∈t.Code,Fk k (tF c.N))
 (hT:qw T≤k) (hY:QR k Y) (hP:QR k P) (hy:(Y.length:Int)=t.An) (hp:(P.length:Int)=t.Aq) (hg:lim≤4096) :
 Ym n t ⟨rF T,rR Y,rR P⟩ lim=some (match runQ lim T Y P (tT t).Code 0 [] with | .inl e=>([],e.1,(e.2:Int)) | .inr l=>(rR l,0,0)):=by
 obtain⟨⟨c1,c2,c3,c4⟩,m1,m2⟩:=ht;have hlen:t.Code.length≤300:=by unfold tT at c4;simpa using c4
 have eC:(tT t).Code=t.Code.map tI:=rfl;unfold Ym
 have key:∀(m i n':Nat) (done:List Rat),i+m=t.Code.length->m<n'->done.length=i->QR k done →
  (loopM (λ(s21:(List Qa)×Int)=>
  bif decide (s21.2<(t.Code.length:Int)) then (
   (getI t.Code s21.2).bind λy22=>
   (V9 n y22 ⟨rF T,rR Y,rR P⟩ s21.1).bind λr24=>
   bif !r24.2 then (
    some (Lp.out (Lp.out ((([]:List Qa),(3:Int),s21.2)))))
   else (
    (Jq n r24.1 lim).bind λr26=>
    bif !r26 then (
     some (Lp.out (Lp.out ((([]:List Qa),(6:Int),s21.2)))))
    else (
     (appM 56 s21.1 ([r24.1]:List Qa)).bind λy28=>
     some (Lp.go (y28,wrap64 (s21.2+(1:Int)))))))
  else (
   some (Lp.out (Lp.go s21.1)))) n' (rR done,(i:Int))).bind (lpK λ(t19:(List Qa))=>some (t19,(0:Int),(0:Int)))=some (match runQ lim T Y P ((tT t).Code.drop i) i done with | .inl e=>([],e.1,(e.2:Int)) | .inr l=>(rR l,0,0)):=by
  intro m
  induction m with
  | zero=>
    intro i n' done hi hn' hd hq;rw[W4 (t:=Lp.go (rR done)) (by simp only[];rw[decide_eq_false (by omega)];rfl) (by omega),Option.bind_some,Xf,eC,List.drop_of_length_le (by simp;omega)];rfl
  | succ m ih=>
    intro i n' done hi hn' hd hq;obtain⟨n'',rfl⟩:∃ n'',n'=n''+1:=⟨n' - 1,by omega⟩
    have hx:t.Code[i]?=some (t.Code[i]'(by omega)):=List.getElem?_eq_getElem (by omega);have hNx:=hN (t.Code[i]'(by omega)) (List.getElem_mem (by omega));generalize t.Code[i]'(by omega)=x at hx hNx;have hxm:(tT t).Code[i]?=some (tI x):=by rw[eC];exact Qc6 tI hx
    have hmay:=m1 i (tI x) hxm;obtain⟨v,e1,e2⟩:=Qom (T:=T) (Y:=Y) (P:=P) (done:=done) hn (by omega) hk (by rw[hd];exact hmay) hNx hT hY hP hq hy hp;rw[Qnh hxm];simp only[runQ];cases ho:opQ (tI x) T Y P done with
    | none=>
      rw[ho] at e1
      rw[W4 (t:=Lp.out ([],3,(i:Int))) (by
       simp only[]
       rw[decide_eq_true (show(i:Int)<(t.Code.length:Int) by omega),bifT,Jl hx,sbind,e1,sbind];rfl) (by omega),Option.bind_some,Zu]
    | some q=>
      rw[ho] at e1;have hqk:=e2 q ho;have hf:Jq n (rF q) lim=some (decide ((qz q:Int)≤lim)):=by unfold Jq;rw[Qf7 (k:=8*k+1) hn (by omega) hqk,sbind]
      by_cases hz:(qz q:Int)≤lim
      . have hq129:qw q≤129:=by have:=qw_qz (q:=q) (b:=4096) (by omega);omega
        rw[Qg7 (s':=(rR (done++[q]),((i+1:Nat):Int))) (by
         simp only[];rw[decide_eq_true (show(i:Int)<(t.Code.length:Int) by omega),bifT,Jl hx,sbind,e1,sbind];simp only[]
         rw[Bool.not_true,bifF,hf,sbind,decide_eq_true hz,Bool.not_true,bifF,Vw (by simp[Kf];omega) (by simp[Kf];omega),sbind,w1 (by omega),Qiy])]
        rw[ih (i+1) n'' (done++[q]) (by omega) (by omega) (by simp;omega) (λz hz'=>by
         rcases List.mem_append.1 hz' with h | h
         . exact hq z h
         . rw[List.mem_singleton.1 h];omega)]
        simp only[];rw[if_pos hz]
      . rw[W4 (t:=Lp.out ([],6,(i:Int))) (by
         simp only[];rw[decide_eq_true (show(i:Int)<(t.Code.length:Int) by omega),bifT,Jl hx,sbind,e1,sbind];simp only[]
         rw[Bool.not_true,bifF,hf,sbind,decide_eq_false hz,Bool.not_false,bifT]) (by omega),Option.bind_some,Zu]
        simp only[];rw[if_neg hz]
 have:=key t.Code.length 0 n [] (by omega) (by unfold big at hn;omega) rfl (λ_ h=>by cases h);rw[List.drop_zero] at this;exact this
theorem Qon{n:Nat}{t:Qz}{l:List Rat}(hn:big≤n)(ht:t.Al.length≤1000000)(ho:∀ o∈t.Al,0≤o∧o<(l.length:Int)):Wa n t (rR l)=some (rR (t.Al.map λo=>l.getD o.toNat 0)):=by unfold Wa;rw[Wq (λi=>(rR ((t.Al.take i).map λo=>l.getD o.toNat 0),(i:Int))) t.Al.length (rR (t.Al.map λo=>l.getD o.toNat 0))];intro i hi;have hp:t.Al[i]?=some t.Al[i]:=List.getElem?_eq_getElem hi;have hb:=ho t.Al[i] (List.getElem_mem hi);generalize t.Al[i]=o at hp hb;rw[decide_eq_true (show(i:Int)<(t.Al.length:Int) by omega),bifT,Jl hp,sbind,Qc8 hb.1 hb.2,sbind,Vw (by simp[Kf];omega) (by simp[Kf];omega),sbind,w1 (by omega),Qg1 hp,List.map_append,List.map_singleton,Qiy];rw[decide_eq_false (by omega),bifF,List.take_length];unfold big at hn;omega;rfl
theorem Qap{n k:Nat}{l:List Rat}{lim:Int}(hn:big≤n)(hk:k<274877906944)(hl:QR k l)(hll:l.length≤1000000):
 Jf n (rR l) lim=some (match fitQ lim l 0 with | none=>(l.length:Int) | some j=>(j:Int)):=by
 unfold Jf
 have key:∀(m i n':Nat),i+m=l.length->m<n'->(loopM (λ(s13:Int)=>
  bif decide (s13<((rR l).length:Int)) then (
   (getI (rR l) s13).bind λy14=>
   (Jq n y14 lim).bind λr16=>
   bif !r16 then (
    some (Lp.out (Lp.out (s13))))
   else (
    some (Lp.go (wrap64 (s13+(1:Int))))))
  else (
   some (Lp.out (Lp.go ())))) n' (i:Int)).bind (lpK λ(_:Unit)=>some ((rR l).length:Int))=some (match fitQ lim (l.drop i) i with | none=>(l.length:Int) | some j=>(j:Int)):=by
  intro m
  induction m with
  | zero=>
    intro i n' hi hn';rw[W4 (t:=Lp.go ()) (by simp only[Kf];rw[decide_eq_false (by omega)];rfl) (by omega),Option.bind_some,Xf,List.drop_of_length_le (by omega),Kf];rfl
  | succ m ih=>
    intro i n' hi hn';obtain⟨n'',rfl⟩:∃ n'',n'=n''+1:=⟨n' - 1,by omega⟩
    have hx:l[i]?=some (l[i]'(by omega)):=List.getElem?_eq_getElem (by omega);have hq:=hl (l[i]'(by omega)) (List.getElem_mem (by omega));generalize l[i]'(by omega)=q at hx hq;have hf:Jq n (rF q) lim=some (decide ((qz q:Int)≤lim)):=by unfold Jq;rw[Qf7 (k:=k) hn (by omega) hq,sbind]
    rw[Qnh hx];simp only[fitQ];by_cases hz:(qz q:Int)≤lim
    rw[Qg7 (s':=((i+1:Nat):Int)) (by
     simp only[Kf]
     rw[decide_eq_true (show(i:Int)<(l.length:Int) by omega),bifT,Jl (Qlg hx),sbind,hf,sbind,decide_eq_true hz,Bool.not_true,bifF,w1 (by omega)]),ih (i+1) n'' (by omega) (by omega),if_pos hz]
    rw[W4 (t:=Lp.out (i:Int)) (by
     simp only[Kf]
     rw[decide_eq_true (show(i:Int)<(l.length:Int) by omega),bifT,Jl (Qlg hx),sbind,hf,sbind,decide_eq_false hz,Bool.not_false,bifT]) (by omega),Option.bind_some,Zu,if_neg hz]
 have:=key l.length 0 n (by omega) (by unfold big at hn;omega);rw[List.drop_zero] at this;exact this
def mixI:List Rat->List (List Rat)->Nat->Rat->Rat
 | c::cs,a::l,i,z=>mixI cs l i (z+c*a.getD i 0)
 | _,_,_,z=>z
theorem Qza:∀ {cs:List Rat}{l:List (List Rat)}{i:Nat}{z:Rat}{c a},cs.length=l.length->mixI (cs++[c]) (l++[a]) i z=mixI cs l i z+c*a.getD i 0
 | [],[],i,z,c,a,_=>rfl
 | [],_::_,_,_,_,_,h=>by simp at h
 | _::_,[],_,_,_,_,h=>by simp at h
 | x::cs,y::l,i,z,c,a,h=>by simp only[List.cons_append,mixI];exact Qza (by simpa using h)
theorem Qx8{l:List Rat}{i:Nat}{x:Rat}(h:l[i]?=some x):l.getD i 0=x:=by rw[List.getD_eq_getElem?_getD,h];rfl
theorem Q7g{g:Rat->Rat->Rat}{a z:List Rat}{i m:Nat}(ha:a.length=m)(hz:z.length=m)(hi:i<m):(List.zipWith g a z).getD i 0=g (a.getD i 0) (z.getD i 0):=by have h1:a[i]?=some a[i]:=List.getElem?_eq_getElem (by omega);have h2:z[i]?=some z[i]:=List.getElem?_eq_getElem (by omega);rw[Qx8 h1,Qx8 h2,List.getD_eq_getElem?_getD,List.getElem?_zipWith,h1,h2];rfl
theorem Q14{m i:Nat}(hi:i<m):∀ {cs:List Rat}{l:List (List Rat)}{z:List Rat},(∀ a∈l,a.length=m)->z.length=m->(mixQ cs l z).getD i 0=mixI cs l i (z.getD i 0)
 | [],_,z,_,_=>by simp only[mixQ,mixI]
 | _::_,[],z,_,_=>by simp only[mixQ,mixI]
 | c::cs,a::l,z,hl,hz=>by simp only[mixQ,mixI];have ha:=hl a (.head _);rw[Q14 hi (λb hb=>hl b (.tail _ hb)) (by simp;omega),Q7g ha hz hi]
theorem Qtj{j k:Nat}:∀ {cs:List Rat}{l:List (List Rat)}{i:Nat}{z:Rat}{b:Nat},1≤k->QR j cs->(∀ a∈l,QR k a)->qw z≤b->qw (mixI cs l i z)≤b+l.length*(j+k+1)
 | [],_,i,z,b,_,_,_,h=>by simp only[mixI];omega
 | _::_,[],i,z,b,_,_,_,h=>by simp only[mixI];omega
 | x::cs,y::l,i,z,b,h1,hc,hl,h=>by simp only[mixI];have h2:=Qb3 h (Xg (hc x (.head _)) (Vl (i:=i) (hl y (.head _)) h1));have:=Qtj (i:=i) h1 (λq hq=>hc q (.tail _ hq)) (λa ha=>hl a (.tail _ ha)) h2;rw[List.length_cons,Nat.succ_mul];omega
theorem Q7h{H:Rat}{Y c:List Rat}{kss:List (List Rat)}{i:Nat}{y:Rat}(hk:∀ a∈kss,a.length=Y.length)(hy:Y[i]?=some y):(fromQ H Y c kss)[i]?=some (y+H*mixI c kss i 0):=by
 have hi:=Kb hy;have hml:(mixQ c kss (List.replicate Y.length 0)).length=Y.length:=Qkr hk (by simp);have hmg:(mixQ c kss (List.replicate Y.length 0))[i]?=some (mixI c kss i 0):=by have:=Q14 (cs:=c) hi hk (show(List.replicate Y.length (0:Rat)).length=Y.length by simp);rw[Qx8 (l:=List.replicate Y.length (0:Rat)) (x:=0) (by simp[hi])] at this;rw[←this,List.getD_eq_getElem?_getD,List.getElem?_eq_getElem (by omega)];rfl
 unfold fromQ towQ addQ scaleQ;rw[List.getElem?_zipWith,hy,List.getElem?_map,hmg];rfl
def rRR(l:List (List Rat)):List (List Qa):=l.map rR
theorem Qmp(l:List (List Rat)):(rRR l).length=l.length:=by unfold rRR;simp
theorem Qva(l:List (List Rat))(a:List Rat):rRR (l++[a])=rRR l++[rR a]:=by unfold rRR;simp
theorem Qx9{l:List (List Rat)}{i:Nat}{a:List Rat}(h:l[i]?=some a):(rRR l)[i]?=some (rR a):=by unfold rRR;exact Qc6 rR h
theorem Qya{n k i m:Nat}{H:Rat}{c:List Rat}{kss:List (List Rat)}(hn:big≤n)(h0:129≤k)(hk:k<16384)(hH:qw H≤k)(hc:QR k c)(hkq:∀ a∈kss,QR 129 a)(hl:kss.length≤8)(hcl:c.length=kss.length)(hkl:∀ a∈kss,a.length=m)(hi:i<m):
 Y5 n (rR c) (rRR kss) (i:Int) (rF H)=some (rF (H*mixI c kss i 0)):=by
 unfold Y5;rw[Qad hn,sbind];rw[Wq (λj=>(rF (mixI (c.take j) (kss.take j) i 0),(j:Int))) c.length (rF (mixI c kss i 0))];have hq:=Qtj (i:=i) (z:=0) (b:=1) (by omega) hc hkq (by rw[Qam];exact Nat.le_refl _);have h3:kss.length*(k+129+1)≤8*(k+129+1):=Nat.mul_le_mul_right _ hl;rw[Wi (k:=20*k) hn (by omega) (by omega) (by omega),sbind];intro j hj;have hcj:c[j]?=some c[j]:=List.getElem?_eq_getElem hj;have hkj:kss[j]?=some (kss[j]'(by omega)):=List.getElem?_eq_getElem (by omega);have q1:=hc c[j] (List.getElem_mem hj);have q2:=hkq (kss[j]'(by omega)) (List.getElem_mem (by omega));have q3:=hkl (kss[j]'(by omega)) (List.getElem_mem (by omega));generalize c[j]=x at hcj q1;generalize kss[j]'(by omega)=a at hkj q2 q3;have haq:=Vl (i:=i) q2 (by omega);have hx:=Xg q1 haq;have hq:=Qtj (i:=i) (z:=0) (b:=1) (cs:=c.take j) (l:=kss.take j) (j:=k) (k:=129) (by omega) (λq h=>hc q (List.mem_of_mem_take h)) (λa h=>hkq a (List.mem_of_mem_take h)) (by rw[Qam];exact Nat.le_refl _);have h3:(kss.take j).length*(k+129+1)≤8*(k+129+1):=Nat.mul_le_mul_right _ (by simp;omega);rw[Qg1 hcj,Qg1 hkj,Qza (by simp;omega)];simp only[jn_eq];rw[Kf,decide_eq_true (show(j:Int)<(c.length:Int) by omega),bifT,Jl (Qlg hcj),sbind,Qj4,sbind];by_cases hz:x=0;rw[decide_eq_true hz,Bool.not_true,bifF,w1 (by omega),hz,Rat.zero_mul,Rat.add_zero];rw[decide_eq_false hz,Bool.not_false,bifT,sbind,Jl (Qx9 hkj),sbind,Qc8 (by omega) (by omega),sbind,Int.toNat_natCast,Wi (k:=k) hn (by omega) q1 (by omega),sbind,Zi (k:=20*k) hn (by omega) (by omega) (by omega),sbind,w1 (by omega)];rw[Kf,decide_eq_false (by omega),bifF,List.take_length,hcl,List.take_length];unfold big at hn;omega;rfl
theorem Qbv{n k:Nat}{H:Rat}{Y c:List Rat}{kss:List (List Rat)}(hn:big≤n)(h0:129≤k)(hk:k<16384)(hH:qw H≤k)(hY:QR k Y)(hc:QR k c)(hkq:∀ a∈kss,QR 129 a)(hl:kss.length≤8)(hcl:c.length=kss.length)(hkl:∀ a∈kss,a.length=Y.length)(hy:Y.length≤1000):
 Jc n (rR Y) (rR c) (rRR kss) (rF H)=some (rR (fromQ H Y c kss)):=by
 unfold Jc;have hfl:=Qcv (H:=H) (Y:=Y) (c:=c) hkl;have hmx:=λi=>Qtj (i:=i) (z:=0) (b:=1) (cs:=c) (l:=kss) (j:=k) (k:=129) (by omega) hc hkq (by rw[Qam];exact Nat.le_refl _);have h3:kss.length*(k+129+1)≤8*(k+129+1):=Nat.mul_le_mul_right _ hl;rw[Wq (λi=>(rR ((fromQ H Y c kss).take i),(i:Int))) Y.length (rR (fromQ H Y c kss))];intro i hi;have hyi:Y[i]?=some Y[i]:=List.getElem?_eq_getElem hi;have q1:=hY Y[i] (List.getElem_mem hi);generalize Y[i]=y at hyi q1;have hf:=Q7h (H:=H) (c:=c) hkl hyi;have hm1:=hmx i;have hm2:=Xg hH hm1;rw[Kf,decide_eq_true (show(i:Int)<(Y.length:Int) by omega),bifT,Jl (Qlg hyi),sbind,Qya hn h0 hk hH hc hkq hl hcl hkl hi,sbind,Zi (k:=22*k) hn (by omega) (by omega) (by omega),sbind,Vw (by simp[Kf];omega) (by simp[Kf];omega),sbind,w1 (by omega),Qg1 hf,Qiy];rw[Kf,decide_eq_false (by omega),bifF,←hfl,List.take_length];unfold big at hn;omega;rfl
theorem Qqd{n k:Nat}{s:Q2}(hn:big≤n)(h1:1≤k)(hk:k<1048576)(hs:SchWr k s)(hB:∀ f∈s.B,numR (tF f))(hE:∀ f∈s.E,numR (tF f))(hl:s.E.length=s.B.length)(h8:s.B.length≤8)(hne:s.E≠[]):
 Wy n s=some (rR (gapQ (tS s))):=by
 have eE0:(tS s).E≠[]:=by show s.E.map tF≠[];simpa using hne
 have eB:rv (tS s).B=rvr s.B:=Qcw s.B;have eE:rv (tS s).E=rvr s.E:=Qcw s.E;have eg:gapQ (tS s)=List.zipWith (λb e=>b - e) (rvr s.B) (rvr s.E):=by unfold gapQ addQ scaleQ;rw[if_neg eE0,eB,eE,List.zipWith_map_right];congr 1;funext b e;grind
 have qB:QR k (rvr s.B):=Qfr (λf hf=>Fk_wd (hs.b f hf)) h1;have qE:QR k (rvr s.E):=Qfr (λf hf=>Fk_wd (hs.e f hf)) h1;have rB:=Qg3 hB;have rE:=Qg3 hE;have lB:=X7 s.B;have lE:=X7 s.E;unfold Wy;rw[eg];generalize rvr s.B=b at *;generalize rvr s.E=e at *;rw[←rB,←rE];rw[←rB] at lB h8 hl;rw[←rE] at lE hl;rw[Kf] at h8 hl;rw[Kf] at hl;rw[Wq (λi=>(rR ((List.zipWith (λb e=>b - e) b e).take i),(i:Int))) b.length (rR (List.zipWith (λb e=>b - e) b e))];intro i hi;have h1':b[i]?=some b[i]:=List.getElem?_eq_getElem hi;have h2':e[i]?=some (e[i]'(by omega)):=List.getElem?_eq_getElem (by omega);have q1:=qB b[i] (List.getElem_mem hi);have q2:=qE (e[i]'(by omega)) (List.getElem_mem (by omega));generalize b[i]=x at h1' q1;generalize e[i]'(by omega)=y at h2' q2;have hz:(List.zipWith (λb e=>b - e) b e)[i]?=some (x - y):=by rw[List.getElem?_zipWith,h1',h2']
 simp only[jn_eq,Kf];rw[decide_eq_true (show(i:Int)<(e.length:Int) by omega),bifT,decide_eq_true (show(i:Int)<(b.length:Int) by omega),bifT,Jl (Qlg h1'),sbind,Jl (Qlg h2'),sbind,Qhc (k:=k) hn (by omega) q1 q2,sbind,Vw (by simp[Kf];omega) (by simp[Kf];omega),sbind,w1 (by omega),Qg1 hz,Qiy];simp only[jn_eq,Kf];rw[decide_eq_false (show ¬(b.length:Int)<(e.length:Int) by omega),bifF,bifF];have:(List.zipWith (λb e=>b - e) b e).length=b.length:=by simp;omega
 rw[←this,List.take_length];unfold big at hn;omega;rfl
theorem Qoo{n m:Nat}(hn:big≤n)(hm:m≤300):Wb n (m:Int)=some (rR (List.replicate m 0)):=by unfold Wb;rw[Wq (λi=>(rR (List.replicate i 0),(i:Int))) m (rR (List.replicate m 0))];intro i hi;simp only[jn_eq];rw[decide_eq_true (show(i:Int)<(m:Int) by omega),bifT,decide_eq_true (show(i:Int)<300 by omega),bifT,Qad hn,sbind,Vw (by simp[Kf];omega) (by simp[Kf];omega),sbind,w1 (by omega),List.replicate_succ',Qiy];simp only[jn_eq];rw[decide_eq_false (by omega),bifF,bifF];unfold big at hn;omega;rfl
theorem Qs3:∀ {Y:List Rat}{m:Nat},Y.length=m->addQ (List.replicate m 0) Y=Y
 | [],m,h=>by unfold addQ;simp
 | x::Y,m,h=>by
   obtain⟨j,rfl⟩:∃ j,m=j+1:=⟨m - 1,by simp at h;omega⟩
   have:=Qs3 (Y:=Y) (m:=j) (by simpa using h);unfold addQ at this ⊢;rw[List.replicate_succ,List.zipWith_cons_cons,this];congr 1;grind
theorem Qwy{t:Qr}{lim:Int}{T H:Rat}{Y P:List Rat}(hlim:lim≤4096):∀ {r:List (List Rat×Rat)}{i:Nat}{yss kss:List (List Rat)}{z}{j:Nat},(∀ a∈kss,QR 129 a)->kss.length=j->yss.length=j->stagesQ t lim T H Y P r i yss kss=.inr z →
 (∀ a∈z.2,QR 129 a)∧z.2.length=j+r.length∧z.1.length=j+r.length
 | [],i,yss,kss,z,j,h1,h2,h3,h=>by simp only[stagesQ] at h;cases h;exact⟨h1,h2,h3⟩
 | x::r,i,yss,kss,z,j,h1,h2,h3,h=>by
   simp only[stagesQ] at h;cases hs:stageQ t lim T H Y P x.1 x.2 i kss with
   | inl f=>rw[hs] at h;cases h
   | inr w=>
     rw[hs] at h;have hw:QR 129 w.2:=by
      unfold stageQ at hs;split at hs;cases hs;cases hf:fieldQ t lim (T+H*x.2) (fromQ H Y x.1 kss) P with
      | inl e=>rw[hf] at hs;cases hs
      | inr k=>rw[hf] at hs;cases hs;exact(Qsx hlim hf).2
     obtain⟨g1,g2,g3⟩:=Qwy hlim (j:=j+1) (λa ha=>by
      rcases List.mem_append.1 ha with ha | ha;exact h1 a ha
      rw[List.mem_singleton.1 ha];exact hw) (by simp;omega) (by simp;omega) h
     exact⟨g1,by rw[g2,List.length_cons];omega,by rw[g3,List.length_cons];omega⟩
def noMr:Q4:=⟨[],[],[],[]⟩
def toMr(z:MadeQ):Q4:=⟨rRR z.ys,rRR z.ks,rR z.next,rR z.err⟩
theorem Q3d{s:Q2}(h:schR (tS s)):(∀ r∈s.A,∀ f∈r,numR (tF f))∧(∀ f∈s.B,numR (tF f))∧(∀ f∈s.C,numR (tF f))∧∀ f∈s.E,numR (tF f):=by obtain⟨hA,hB⟩:=h.2.2.1;have eB:(tS s).B=s.B.map tF:=rfl;have eC:(tS s).C=s.C.map tF:=rfl;have eE:(tS s).E=s.E.map tF:=rfl;have eA:(tS s).A=s.A.map (·.map tF):=rfl;rw[eA] at hA;rw[eB,eC,eE] at hB;exact⟨λr hr=>Qc7.1 (hA (r.map tF) (List.mem_map_of_mem hr)),Qc7.1 (hB _ (by simp)),Qc7.1 (hB _ (by simp)),Qc7.1 (hB _ (by simp))⟩
theorem Qtk{s:Q2}(h:schR (tS s)):gapQ (tS s)=[]↔s.E=[]:=by obtain⟨⟨⟨g1,g2⟩,g3,g4,g5⟩,g6⟩:=Qky.1 h.2.1;have eE:(tS s).E=s.E.map tF:=rfl;have eB:(tS s).B=s.B.map tF:=rfl;constructor;intro hg;unfold gapQ at hg;split at hg;rename_i hE;rw[eE] at hE;simpa using hE;have:=congrArg List.length hg;rw[Qkq,Qfh,Ju,Ju,eE,eB] at this;simp only[List.length_map,List.length_nil] at this;exact List.eq_nil_of_length_eq_zero (by omega);intro hE;unfold gapQ;rw[if_pos (by rw[eE,hE];rfl)]
theorem Qrn{n k:Nat}{p:Qu}{T H:Rat}{Y:List Rat}(hn:big≤n)(h0:129≤k)(hk:k<8000)(hp:PrbWr k p)(hr:prbR (tP p))(hT:qw T≤k)(hH:qw H≤k)(hY:QR k Y)(hl:(Y.length:Int)=p.Tape.An):
 Zf n p (rF T) (rF H) (rR Y)=some (match doQ (tT p.Tape) (tS p.Aj) (limQ p.Am) T H Y (rvr p.P) with | .inl f=>(noMr,⟨f.Ak,f.Stage,f.At⟩) | .inr z=>(toMr z,⟨0,0,0⟩)):=by
 obtain⟨hta,hsc,hpl⟩:=hr;have hta':tapeR (tT p.Tape):=hta;have hsc':schR (tS p.Aj):=hsc;have hpl':(p.P.length:Int)=p.Tape.Aq:=by
  have e:((tP p).P.length:Int)=(p.P.length:Int):=by unfold tP;simp
  rw[←e];exact hpl
 obtain⟨nA,nB,nC,nE⟩:=Q3d hsc';obtain⟨⟨⟨g1,g2⟩,g3,g4,g5⟩,g6⟩:=Qky.1 hsc'.2.1;obtain⟨⟨d1,d2⟩,⟨d3,d4⟩,d5,d6⟩:=hta'.1;have d1':1≤p.Tape.An:=d1;have d2':p.Tape.An≤6:=d2
 have hoc:∀ o∈p.Tape.Al,0≤o∧o<(p.Tape.Code.length:Int):=λo ho=>by
  have:=hta'.2.2 o ho;have e:(tT p.Tape).Code.length=p.Tape.Code.length:=by unfold tT;simp
  rw[e] at this;exact this
 have hol:(p.Tape.Al.length:Int)=p.Tape.An:=d5;have hPq:QR k (rvr p.P):=Qfr (λf hf=>Fk_wd (hp.pk f hf)) (by omega);have hPl:((rvr p.P).length:Int)=p.Tape.Aq:=by rw[X7];exact hpl'
 have hNorm:Ky n p.P=some (rR (rvr p.P)):=Qcx hn (by omega) (λf hf=>Fk_wd (hp.pk f hf)) hp.pl;obtain⟨lim,hlim⟩:∃ lim,lim=limQ p.Am:=⟨_,rfl⟩
 have hlim4:lim≤4096:=by rw[hlim];unfold limQ;omega
 have eL:X0 p.Am=some lim:=by rw[hlim];rfl
 unfold Zf;rw[eL,sbind,←hlim];clear eL hlim
 have key:∀(m i n':Nat) (yss kss:List (List Rat)) (K:(List (List Qa))×(List (List Qa))->Option (Q4×Jt)),i+m=p.Aj.B.length->m<n'->yss.length=i->kss.length=i->(∀ a∈kss,QR 129 a)->(∀ a∈kss,a.length=Y.length) →
  (loopM (λ(s43:(List (List Qa))×(List (List Qa))×Int)=>
  bif decide (s43.2.2<(p.Aj.B.length:Int)) then (
   (getI p.Aj.A s43.2.2).bind λy44=>
   (Jc n (rR Y) y44 s43.2.1 (rF H)).bind λr46=>
   (Jf n r46 lim).bind λr48=>
   bif decide (r48<(r46.length:Int)) then (
    some (Lp.out (Lp.out (((⟨[],[],[],[]⟩:Q4),(⟨(6:Int),s43.2.2,wrap64 ((300:Int)+r48)⟩:Jt))))))
   else (
    (Ku n p (rF T) (rF H) s43.2.2).bind λr50=>
    (Kz n p r50 r46).bind λr52=>
    (Ym n p.Tape r52 lim).bind λr54=>
    bif !decide (r54.2.1=(0:Int)) then (
     some (Lp.out (Lp.out (((⟨[],[],[],[]⟩:Q4),(⟨r54.2.1,s43.2.2,r54.2.2⟩:Jt))))))
    else (
     (appM 24 s43.1 ([r46]:List (List Qa))).bind λy56=>
     (Wa n p.Tape r54.1).bind λr58=>
     (appM 24 s43.2.1 ([r58]:List (List Qa))).bind λy60=>
     some (Lp.go (y56,y60,wrap64 (s43.2.2+(1:Int)))))))
  else (
   some (Lp.out (Lp.go (s43.1,s43.2.1))))) n' (rRR yss,rRR kss,(i:Int))).bind (lpK K)=match stagesQ (tT p.Tape) lim T H Y (rvr p.P) ((pairQ (tS p.Aj)).drop i) i yss kss with | .inl f=>some (noMr,⟨f.Ak,f.Stage,f.At⟩) | .inr z=>K (rRR z.1,rRR z.2):=by
  intro m
  induction m with
  | zero=>
    intro i n' yss kss K hi hn' hy1 hk1 hq hkl;have he:(pairQ (tS p.Aj)).drop i=[]:=by apply List.drop_eq_nil_of_le;unfold pairQ tS;rw[List.length_zip,Ju,List.length_map,List.length_map,List.length_map];omega
    rw[W4 (t:=Lp.go (rRR yss,rRR kss)) (by simp only[];rw[decide_eq_false (by omega)];rfl) (by omega),Option.bind_some,Xf,he];rfl
  | succ m ih=>
    intro i n' yss kss K hi hn' hy1 hk1 hq hkl;obtain⟨n'',rfl⟩:∃ n'',n'=n''+1:=⟨n' - 1,by omega⟩
    have ha:p.Aj.A[i]?=some (p.Aj.A[i]'(by omega)):=List.getElem?_eq_getElem (by omega);have hc:p.Aj.C[i]?=some (p.Aj.C[i]'(by omega)):=List.getElem?_eq_getElem (by omega);have ham:=List.getElem_mem (l:=p.Aj.A) (n:=i) (by omega);have hcm:=List.getElem_mem (l:=p.Aj.C) (n:=i) (by omega);generalize p.Aj.A[i]'(by omega)=a at ha ham;generalize p.Aj.C[i]'(by omega)=c at hc hcm;have hal:=g6 i (by omega) a ha;have hra:=Qg3 (nA a ham);have hrc:=Qti (nC c hcm);have haq:QR k (rvr a):=Qfr (λf hf=>Fk_wd (hp.s.a a ham f hf)) (by omega);have hcq:qw (fr c)≤k:=qw_fr (Fk_wd (hp.s.c c hcm)) (by omega);have hpd:=Qyx (s:=tS p.Aj) (i:=i) (a:=a.map tF) (c:=tF c) (Qc6 _ ha) (Qc6 _ hc);rw[Qcw,fr_tF] at hpd;rw[hpd];simp only[stagesQ];have hF:=Qbv (c:=rvr a) hn h0 (by omega) hH hY haq hq (by omega) (by rw[X7];omega) hkl (by omega);rw[hra] at hF;have hfb:=Qg0 hY hH haq hq (by omega) h0;have hfl:=Qcv (H:=H) (Y:=Y) (c:=rvr a) hkl;have hRow:=Qap (lim:=lim) hn (show 22*k<274877906944 by omega) hfb (by omega);unfold stageQ;cases hf:fitQ lim (fromQ H Y (rvr a) kss) 0 with
    | some j=>
      rw[hf] at hRow;have hj:=Qha hf;simp only[] at hRow ⊢
      rw[W4 (t:=Lp.out (noMr,⟨6,(i:Int),300+(j:Int)⟩)) (by
       simp only[]
       rw[decide_eq_true (show(i:Int)<(p.Aj.B.length:Int) by omega),bifT,Jl ha,sbind,hF,sbind,hRow,sbind,Kf,decide_eq_true (by omega),bifT,w64 (by omega) (by omega)];rfl) (by omega),Option.bind_some,Zu]
    | none=>
      rw[hf] at hRow;simp only[] at hRow ⊢;have hmul:=Xg hH hcq;have hadd:=Qb3 hT hmul;have hMo:Ku n p (rF T) (rF H) (i:Int)=some (rF (T+H*fr c)):=by unfold Ku;rw[Jl hc,sbind,←hrc,Wi (k:=k) hn (by omega) hH hcq,sbind,fr_rF,Zi (k:=4*k) hn (by omega) (by omega) (by omega),sbind]
      have hPo:Kz n p (rF (T+H*fr c)) (rR (fromQ H Y (rvr a) kss))=some ⟨rF (T+H*fr c),rR (fromQ H Y (rvr a) kss),rR (rvr p.P)⟩:=by unfold Kz;rw[hNorm,sbind]
      have hTa:=Qwx (k:=22*k) (t:=p.Tape) (T:=T+H*fr c) (Y:=fromQ H Y (rvr a) kss) (P:=rvr p.P) (lim:=lim) hn (by omega) (by omega) hta' (λx hx=>Wh (hp.t x hx) (by omega)) (by omega) hfb (W8 hPq (by omega)) (by rw[hfl];exact hl) hPl hlim4;unfold fieldQ;cases hru:runQ lim (T+H*fr c) (fromQ H Y (rvr a) kss) (rvr p.P) (tT p.Tape).Code 0 [] with
      | inl e=>
        rw[hru] at hTa;have hkd:=Qod hru;simp only[] at hTa ⊢
        rw[W4 (t:=Lp.out (noMr,⟨e.1,(i:Int),(e.2:Int)⟩)) (by
         simp only[];rw[decide_eq_true (show(i:Int)<(p.Aj.B.length:Int) by omega),bifT,Jl ha,sbind,hF,sbind,hRow,sbind,Kf,decide_eq_false (by omega),bifF,hMo,sbind,hPo,sbind,hTa,sbind];simp only[]
         rw[decide_eq_false (show ¬ e.1=0 by omega),Bool.not_false,bifT];rfl) (by omega),Option.bind_some,Zu]
      | inr l=>
        rw[hru] at hTa;obtain⟨l1,l2⟩:=Qtf hlim4 (λ_ h=>by cases h) hru;have l1':l.length=p.Tape.Code.length:=by rw[l1];unfold tT;simp
        have hOu:=Qon (t:=p.Tape) (l:=l) hn hp.o (by rw[l1'];exact hoc);simp only[] at hTa ⊢;have hoe:(tT p.Tape).Al=p.Tape.Al:=rfl;rw[hoe]
        rw[Qg7 (s':=(rRR (yss++[fromQ H Y (rvr a) kss]),rRR (kss++[p.Tape.Al.map λo=>l.getD o.toNat 0]),((i+1:Nat):Int))) (by
         simp only[];rw[decide_eq_true (show(i:Int)<(p.Aj.B.length:Int) by omega),bifT,Jl ha,sbind,hF,sbind,hRow,sbind,Kf,decide_eq_false (by omega),bifF,hMo,sbind,hPo,sbind,hTa,sbind];simp only[]
         rw[decide_eq_true trivial,Bool.not_true,bifF,Vw (by simp[Qmp];omega) (by simp[Qmp];omega),sbind,hOu,sbind,Vw (by simp[Qmp];omega) (by simp[Qmp];omega),sbind,w1 (by omega),Qva,Qva])]
        exact ih (i+1) n'' _ _ K (by omega) (by omega) (by simp;omega) (by simp;omega) (λb hb=>by
         rcases List.mem_append.1 hb with h | h;exact hq b h;rw[List.mem_singleton.1 h];intro q hq';obtain⟨o,_,rfl⟩:=List.mem_map.1 hq';exact Vl l2 (by omega)) (λb hb=>by
         rcases List.mem_append.1 hb with h | h;exact hkl b h
         rw[List.mem_singleton.1 h];simp;omega)
 have hkey:=key p.Aj.B.length 0 n [] [] (λ(t41:(List (List Qa))×(List (List Qa)))=>
 (Jc n (rR Y) p.Aj.B t41.2 (rF H)).bind λr62=>
 (Jf n r62 lim).bind λr64=>
 bif decide (r64<(r62.length:Int)) then (
  some ((⟨[],[],[],[]⟩:Q4),(⟨(6:Int),(p.Aj.B.length:Int),wrap64 ((300:Int)+r64)⟩:Jt)))
 else (
  jn (λ(j76:((List Qa))->Option _)=>
   bif decide ((0:Int)<(p.Aj.E.length:Int)) then (
    (Wb n ((rR Y).length:Int)).bind λr79=>
    (Wy n p.Aj).bind λr81=>
    (Jc n r79 r81 t41.2 (rF H)).bind λr83=>
    j76 r83)
   else (
    j76 [])) (λ(s78:(List Qa))=>
   (Jf n s78 lim).bind λr85=>
   bif decide (r85<(s78.length:Int)) then (
    some ((⟨[],[],[],[]⟩:Q4),(⟨(6:Int),wrap64 ((p.Aj.B.length:Int)+(1:Int)),wrap64 ((300:Int)+r85)⟩:Jt)))
   else (
    some ((⟨t41.1,t41.2,r62,s78⟩:Q4),(⟨0,0,0⟩:Jt)))))) (by omega) (by unfold big at hn;omega) rfl rfl (λ_ h=>by cases h) (λ_ h=>by cases h)
 refine hkey.trans ?_;clear hkey key;rw[List.drop_zero];unfold doQ;have epair:List.zip ((tS p.Aj).A.map rv) (rv (tS p.Aj).C)=pairQ (tS p.Aj):=rfl;rw[epair];cases hst:stagesQ (tT p.Tape) lim T H Y (rvr p.P) (pairQ (tS p.Aj)) 0 [] [] with
 | inl f=>rfl
 | inr z=>
   simp only[];obtain⟨z1,z2,z3,z4⟩:=Qog (m:=Y.length) hlim4 (by have e:((tT p.Tape).Al.length:Int)=p.Tape.An:=hol;omega) rfl (λ_ h=>by cases h) (λ_ h=>by cases h) hst;obtain⟨y1,y2,y3⟩:=Qwy hlim4 (λ_ h=>by cases h) rfl rfl hst;have hzl:z.2.length=p.Aj.B.length:=by rw[y2];show 0+(pairQ (tS p.Aj)).length=_;unfold pairQ tS;rw[List.length_zip,Ju,List.length_map,List.length_map,List.length_map];omega
   have hrB:=Qg3 nB;have hBq:QR k (rvr p.Aj.B):=Qfr (λf hf=>Fk_wd (hp.s.b f hf)) (by omega);have hF:=Qbv (c:=rvr p.Aj.B) hn h0 (by omega) hH hY hBq y1 (by omega) (by rw[X7];omega) z1 (by omega);rw[hrB] at hF;have hfb:=Qg0 hY hH hBq y1 (by omega) h0;have hfl:=Qcv (H:=H) (Y:=Y) (c:=rvr p.Aj.B) z1;have hRow:=Qap (lim:=lim) hn (show 22*k<274877906944 by omega) hfb (by omega);have eB:rv (tS p.Aj).B=rvr p.Aj.B:=Qcw _;have eBl:((tS p.Aj).B.length:Int)=(p.Aj.B.length:Int):=by unfold tS;simp
   unfold endQ;rw[eB,eBl,hF,sbind,hRow,sbind];cases hf:fitQ lim (fromQ H Y (rvr p.Aj.B) z.2) 0 with
   | some j=>
     have hj:=Qha hf;simp only[];rw[Kf,decide_eq_true (by omega),bifT,w64 (by omega) (by omega)];rfl
   | none=>
     simp only[];rw[Kf,decide_eq_false (by omega),bifF,jn_eq];by_cases hE:p.Aj.E=[]
     have hg:=(Qtk hsc').2 hE;rw[hE,if_pos hg];have h00:=Qap (k:=1) (l:=[]) (lim:=lim) hn (by decide) (λ_ h=>by cases h) (by simp);have h00':Jf n [] lim=some 0:=h00;rw[decide_eq_false (by simp),bifF];simp only[];rw[h00',sbind,decide_eq_false (by simp),bifF];rfl;have hg:gapQ (tS p.Aj)≠[]:=λh=>hE ((Qtk hsc').1 h);have hEl:p.Aj.E.length≠0:=λh=>hE (List.eq_nil_of_length_eq_zero h);have hgapl:(gapQ (tS p.Aj)).length=p.Aj.B.length:=by
      have eE:(tS p.Aj).E=p.Aj.E.map tF:=rfl;have eB2:(tS p.Aj).B=p.Aj.B.map tF:=rfl;unfold gapQ;rw[if_neg (by rw[eE];simpa using hE),Qkq,Qfh,Ju,Ju,eE,eB2];simp;omega
     have hgq:QR (2*k+2) (gapQ (tS p.Aj)):=by
      have hs:SchW k (tS p.Aj):=⟨λr hr=>by
       have eA:(tS p.Aj).A=p.Aj.A.map (·.map tF):=rfl;rw[eA] at hr;obtain⟨l,hl',rfl⟩:=List.mem_map.1 hr;intro x hx;obtain⟨f,hf',rfl⟩:=List.mem_map.1 hx;exact hp.s.a l hl' f hf',λx hx=>by
       obtain⟨f,hf',rfl⟩:=List.mem_map.1 hx;exact hp.s.b f hf',λx hx=>by
       obtain⟨f,hf',rfl⟩:=List.mem_map.1 hx;exact hp.s.c f hf',λx hx=>by
       obtain⟨f,hf',rfl⟩:=List.mem_map.1 hx;exact hp.s.e f hf',by
       have:=hp.s.nl;show p.Aj.Name.length≤_
       omega⟩
      exact Qwl (by omega) hs
     have hGap:=Qqd hn (show 1≤k by omega) (by omega) hp.s nB nE (by omega) g2 hE;have hF2:=Qbv (k:=2*k+2) (Y:=List.replicate Y.length 0) (c:=gapQ (tS p.Aj)) hn (by omega) (by omega) (show qw H≤2*k+2 by omega) (W8 (Qsy _) (by omega)) hgq y1 (by omega) (by omega) (by simpa using z1) (by simp;omega);have e0:fromQ H (List.replicate Y.length 0) (gapQ (tS p.Aj)) z.2=towQ H Y.length (gapQ (tS p.Aj)) z.2:=by
      unfold fromQ;rw[List.length_replicate,Qs3 (Qhb z1)]
     rw[e0] at hF2;have htl:=Qhb (H:=H) (c:=gapQ (tS p.Aj)) z1;have htb:=Qks (m:=Y.length) (show qw H≤2*k+2 by omega) hgq y1 (by omega) (by omega);have hRow2:=Qap (lim:=lim) hn (show 20*(2*k+2)<274877906944 by omega) htb (by omega);rw[if_neg hg,decide_eq_true (show(0:Int)<(p.Aj.E.length:Int) by omega),bifT,Kf Y,Qoo hn (by omega),sbind,hGap,sbind,hF2,sbind];simp only[];rw[hRow2,sbind];cases hf2:fitQ lim (towQ H Y.length (gapQ (tS p.Aj)) z.2) 0 with
     | some j=>
       have hj:=Qha hf2;simp only[];rw[Kf,decide_eq_true (by omega),bifT,w64 (x:=300+(j:Int)) (by omega) (by omega),w1 (by omega)];rfl
     | none=>
       simp only[];rw[Kf,decide_eq_false (by omega),bifF];rfl
theorem Q6f{a:Rat}{m:Nat}(h:a≠0):a ^ (-((m:Nat):Int)) / a=a⁻¹ ^ (m+1):=by
 rw[Rat.zpow_neg,Rat.zpow_natCast,Rat.div_def,Rat.pow_succ];congr 1
 induction m with
 | zero=>rw[Rat.pow_zero,Rat.pow_zero];grind
 | succ m ih=>rw[Rat.pow_succ,Rat.pow_succ,←ih];grind
theorem Qvb{n k:Nat}{a:Rat}{b:Int}(hn:big≤n)(hk:k<1048576)(ha:qw a≤k)(hb:-8≤b∧b≤8)(h0:¬(b<0∧a=0)):
 Zp n (rF a) b=some (rF ((b:Rat)*turnQ a (a ^ b) b))∧qw ((b:Rat)*turnQ a (a ^ b) b)≤9*k+2:=by
 have h1:=Qwb a;have qb:=Q1q (z:=b) (by omega)
 have bnd:∀ m:Nat,m≤9->∀ q:Rat,qw q≤k->qw ((b:Rat)*q ^ m)≤9*k+2:=λm hm q hq=>by have h3:=Qwc hq m;have h2:m*k≤9*k:=Nat.mul_le_mul_right _ hm;have:=Xg qb h3;omega
 unfold Zp;simp only[jn_eq,bifd];rw[Qj6 hn (by omega) (by omega),sbind];by_cases hp:0<b;obtain⟨m,hm⟩:∃ m:Nat,b=((m+1:Nat):Int):=⟨(b - 1).toNat,by omega⟩
 have e:turnQ a (a ^ b) b=a ^ m:=by unfold turnQ;rw[if_pos hp,show b - 1=(m:Int) by omega,Rat.zpow_natCast]
 rw[e];refine⟨?_,bnd m (by omega) a ha⟩;rw[Wq (λi=>(rF ((b:Rat)*a ^ i),((i+1:Nat):Int))) m (rF ((b:Rat)*a ^ m))];rw[Wq (λ_=>(rF ((b:Rat)*a ^ m),(1:Int))) 0 (rF ((b:Rat)*a ^ m)) (λi hi=>absurd hi (Nat.not_lt_zero _)) (by simp only[];rw[if_neg (by omega),bifF]) (by unfold big at hn;omega) rfl];intro i hi;simp only[];rw[if_pos (by omega),Wi (k:=9*k+2) hn (by omega) (bnd i (by omega) _ ha) (by omega),sbind,w1 (by omega),Rat.mul_assoc,←Rat.pow_succ];simp only[];rw[if_neg (by omega)];unfold big at hn;omega;rw[Rat.pow_zero,Rat.mul_one];rfl;rw[Wq (λ_=>(rF (b:Rat),(1:Int))) 0 (rF (b:Rat)) (λi hi=>absurd hi (Nat.not_lt_zero _)) (by simp only[];rw[if_neg (by omega)]) (by unfold big at hn;omega) rfl];by_cases hz:b=0;subst hz;have e:((0:Int):Rat)*turnQ a (a ^ (0:Int)) 0=((0:Int):Rat):=by rw[show((0:Int):Rat)=0 from rfl,Rat.zero_mul]
 rw[e];refine⟨?_,by rw[show((0:Int):Rat)=0 from rfl,Qam];omega⟩;rw[Wq (λ_=>(rF ((0:Int):Rat),(1:Int))) 0 (rF ((0:Int):Rat)) (λi hi=>absurd hi (Nat.not_lt_zero _)) (by simp only[];rw[if_pos (by decide),if_neg (by decide)]) (by unfold big at hn;omega) rfl];have hlt:b<0:=by omega
 have hne:a≠0:=λg=>h0 ⟨hlt,g⟩;obtain⟨m,hm⟩:∃ m:Nat,b=-((m:Nat):Int):=⟨b.natAbs,by omega⟩
 have e:turnQ a (a ^ b) b=a⁻¹ ^ (m+1):=by unfold turnQ;rw[if_neg hp,if_pos hlt,hm,Q6f hne]
 rw[e];refine⟨?_,bnd (m+1) (by omega) _ (Qsu ha)⟩;rw[Wq (λi=>(rF ((b:Rat)*a⁻¹ ^ i),1 - (i:Int))) (m+1) (rF ((b:Rat)*a⁻¹ ^ (m+1)))];intro i hi;simp only[];rw[if_pos (by omega),if_pos hlt,Qhd (k:=9*k+2) hn (by omega) (bnd i (by omega) _ (Qsu ha)) (by omega),sbind,w64 (by omega) (by omega)];have e2:(b:Rat)*a⁻¹ ^ i / a=(b:Rat)*a⁻¹ ^ (i+1):=by rw[←Qy5];grind
 rw[e2];congr 3;omega;simp only[];rw[if_neg (by omega),bifF];unfold big at hn;omega;rw[Rat.pow_zero,Rat.mul_one];rfl
theorem Q7i{a b da db:Rat}(h:b≠0):(da*b - a*db) / (b*b)=(da - a / b*db) / b:=by rw[Rat.div_def,Rat.div_def,Rat.div_def,Rat.inv_mul_rev];have:b*b⁻¹=1:=Rat.mul_inv_cancel b h;grind
theorem Qvc{n k:Nat}{t:Qz}{x:Jg}{T T' q:Rat}{Y P Y' P' vs ds:List Rat}(hn:big≤n)(h1:1≤k)(hk:k<1048576)(hx:mayR (tT t) vs.length (tI x))
 (hV:QR k vs) (hT':qw T'≤k) (hY':QR k Y') (hP':QR k P') (hD:QR k ds) (hl:ds.length=vs.length) (hy:(Y'.length:Int)=t.An) (hp:(P'.length:Int)=t.Aq) (ho:opQ (tI x) T Y P vs=some q) :
 Wg n x ⟨rF T',rR Y',rR P'⟩ (rR vs) (rR ds)=some (rF (slopeQ (tI x) q T' Y' P' vs ds))∧qw (slopeQ (tI x) q T' Y' P' vs ds)≤20*k+10:=by
 unfold Wg slopeQ;unfold opQ at ho;have eO:(tI x).Op=x.Op:=rfl;have eA:(tI x).A=x.A:=rfl;have eB:(tI x).B=x.B:=rfl;have rd:=Qte hx;have gA:x.Op=6∨x.Op=11∨x.Op=7∨x.Op=8∨x.Op=9∨x.Op=10->getI (rR vs) x.A=some (rF (vs.getD x.A.toNat 0)):=λh=>Qc8 (rd _ (rdT_A (x:=tI x) h)).1 (rd _ (rdT_A (x:=tI x) h)).2;have gB:x.Op=7∨x.Op=8∨x.Op=9∨x.Op=10->getI (rR vs) x.B=some (rF (vs.getD x.B.toNat 0)):=λh=>Qc8 (rd _ (rdT_B (x:=tI x) h)).1 (rd _ (rdT_B (x:=tI x) h)).2;have dA:x.Op=6∨x.Op=11∨x.Op=7∨x.Op=8∨x.Op=9∨x.Op=10->getI (rR ds) x.A=some (rF (ds.getD x.A.toNat 0)):=λh=>Qc8 (rd _ (rdT_A (x:=tI x) h)).1 (by rw[hl];exact(rd _ (rdT_A (x:=tI x) h)).2);have dB:x.Op=7∨x.Op=8∨x.Op=9∨x.Op=10->getI (rR ds) x.B=some (rF (ds.getD x.B.toNat 0)):=λh=>Qc8 (rd _ (rdT_B (x:=tI x) h)).1 (by rw[hl];exact(rd _ (rdT_B (x:=tI x) h)).2);have qA:qw (vs.getD x.A.toNat 0)≤k:=Vl hV h1;have qB:qw (vs.getD x.B.toNat 0)≤k:=Vl hV h1;have pA:qw (ds.getD x.A.toNat 0)≤k:=Vl hD h1;have pB:qw (ds.getD x.B.toNat 0)≤k:=Vl hD h1;have hop:=Q3c hx;rw[eO] at hop;simp only[eO,eA,eB] at ho ⊢;generalize vs.getD x.A.toNat 0=a at gA qA ho ⊢;generalize vs.getD x.B.toNat 0=b at gB qB ho ⊢;generalize ds.getD x.A.toNat 0=a' at dA pA ⊢;generalize ds.getD x.B.toNat 0=b' at dB pB ⊢;rcases hop with h | h | h | h | h | h | h | h | h | h;simp only[h,Int.reduceEq,decide_true,decide_false,bifT,bifF,if_true,if_false];rw[Qad hn,sbind,Qam];exact⟨rfl,by omega⟩;simp only[h,Int.reduceEq,decide_true,decide_false,bifT,bifF,if_true,if_false];exact⟨trivial,by omega⟩;obtain⟨a1,a2⟩:=Qwg hx h;have a1':0≤x.A:=a1;have a2':x.A<t.An:=a2;have hg:getI (rR Y') x.A=some (rF (Y'.getD x.A.toNat 0)):=Qc8 a1' (by omega);have:=Vl (i:=x.A.toNat) hY' h1;simp only[h,Int.reduceEq,decide_true,decide_false,bifT,bifF,if_true,if_false,hg,sbind];exact⟨trivial,by omega⟩;obtain⟨a1,a2⟩:=Qwh hx h;have a1':0≤x.A:=a1;have a2':x.A<t.Aq:=a2;have hg:getI (rR P') x.A=some (rF (P'.getD x.A.toNat 0)):=Qc8 a1' (by omega);have:=Vl (i:=x.A.toNat) hP' h1;simp only[h,Int.reduceEq,decide_true,decide_false,bifT,bifF,if_true,if_false,hg,sbind];exact⟨trivial,by omega⟩;have hg:=dA (by omega);simp only[h,Int.reduceEq,decide_true,decide_false,bifT,bifF,if_true,if_false,hg,sbind,Qkx hn (show k<274877906944 by omega) pA];exact⟨trivial,by rw[Qna];omega⟩;have hg:=gA (by omega);have hg2:=dA (by omega);simp only[h,Int.reduceEq,decide_true,decide_false,bifT,bifF,if_true,if_false] at ho ⊢;split at ho;cases ho;rename_i hc;obtain⟨w1,w2⟩:=Qvb (a:=a) (b:=x.B) hn hk qA (by omega) (λg=>hc (.inr (.inr g)));have hq:q=a ^ x.B:=(Option.some.inj ho).symm;subst hq;have:=Xg w2 pA;rw[hg,sbind,w1,sbind,hg2,sbind,Wi (k:=9*k+2) hn (by omega) w2 (by omega),sbind];exact⟨rfl,by omega⟩;have hg:=dA (by omega);have hg2:=dB (by omega);have:=Qb3 pA pB;simp only[h,Int.reduceEq,decide_true,decide_false,bifT,bifF,if_true,if_false,hg,hg2,sbind,Zi hn (show k<274877906944 by omega) pA pB];exact⟨trivial,by omega⟩;have hg:=dA (by omega);have hg2:=dB (by omega);have:=Qle pA pB
 simp only[h,Int.reduceEq,decide_true,decide_false,bifT,bifF,if_true,if_false,hg,hg2,sbind,Qhc hn (show k<274877906944 by omega) pA pB];exact⟨trivial,by omega⟩;have hg:=dA (by omega);have hg2:=dB (by omega);have hg3:=gA (by omega);have hg4:=gB (by omega);have m1:=Xg pA qB;have m2:=Xg qA pB;have m3:=Qb3 m1 m2;simp only[h,Int.reduceEq,decide_true,decide_false,bifT,bifF,if_true,if_false,hg,hg2,hg3,hg4,sbind,Wi hn (show k<274877906944 by omega) pA qB,Wi hn (show k<274877906944 by omega) qA pB,Zi hn (show k+k<274877906944 by omega) m1 m2];exact⟨trivial,by omega⟩;have hg:=dA (by omega);have hg2:=dB (by omega);have hg3:=gA (by omega);have hg4:=gB (by omega);have m1:=Xg pA qB;have m2:=Xg qA pB;have m3:=Qle m1 m2;have m4:=Xg qB qB;simp only[h,Int.reduceEq,decide_true,decide_false,bifT,bifF,if_true,if_false] at ho ⊢;split at ho;cases ho;rename_i hb;have hq:q=a / b:=(Option.some.inj ho).symm;subst hq;have d0:=Qnb qA qB;have d1:=Xg d0 pB;have d2:=Qle pA d1;have d3:=Qnb d2 qB;rw[hg,sbind,hg4,sbind,Wi hn (show k<274877906944 by omega) pA qB,sbind,hg3,sbind,hg2,sbind,Wi hn (show k<274877906944 by omega) qA pB,sbind,Qhc (k:=2*k) hn (by omega) (by omega) (by omega),sbind,sbind,sbind,Wi hn (show k<274877906944 by omega) qB qB,sbind,Qhd (k:=8*k+8) hn (by omega) (by omega) (by omega),sbind,Q7i hb];exact⟨rfl,by omega⟩
theorem Qwz{n k:Nat}{t:Qz}{T T':Rat}{Y P Y' P':List Rat}{lim:Int}(hn:big≤n)(h1:129≤k)(hk:k<1048576)(ht:tapeR (tT t))(hN:∀ c∈t.Code,Fk k (tF c.N))
 (hT:qw T≤k) (hY:QR k Y) (hP:QR k P) (hT':qw T'≤k) (hY':QR k Y') (hP':QR k P') (hyl:Y'.length=Y.length) (hpl:P'.length=P.length) (hy:(Y.length:Int)=t.An) (hp:(P.length:Int)=t.Aq) (hg:lim≤4096) :
 Yn n t ⟨rF T,rR Y,rR P⟩ ⟨rF T',rR Y',rR P'⟩ lim=some (match prunQ lim T Y P T' Y' P' (tT t).Code 0 [] [] with | .inl e=>([],[],⟨e.1,e.2.1,(e.2.2:Int)⟩) | .inr l=>(rR l.1,rR l.2,⟨0,0,0⟩)):=by
 obtain⟨⟨c1,c2,c3,c4⟩,mm1,m2⟩:=ht;have hlen:t.Code.length≤300:=by unfold tT at c4;simpa using c4
 have eC:(tT t).Code=t.Code.map tI:=rfl;unfold Yn
 have key:∀(m i n':Nat) (vs ds:List Rat),i+m=t.Code.length->m<n'->vs.length=i->ds.length=i->QR k vs->QR k ds →
  (loopM (λ(s37:(List Qa)×(List Qa)×Int)=>
  bif decide (s37.2.2<(t.Code.length:Int)) then (
   (getI t.Code s37.2.2).bind λy38=>
   (V9 n y38 ⟨rF T,rR Y,rR P⟩ s37.1).bind λr40=>
   bif !r40.2 then (
    some (Lp.out (Lp.out ((([]:List Qa),([]:List Qa),(⟨(3:Int),(0:Int),s37.2.2⟩:Jt))))))
   else (
    (Jq n r40.1 lim).bind λr42=>
    bif !r42 then (
     some (Lp.out (Lp.out ((([]:List Qa),([]:List Qa),(⟨(6:Int),(0:Int),s37.2.2⟩:Jt))))))
    else (
     (getI t.Code s37.2.2).bind λy44=>
     (Wg n y44 ⟨rF T',rR Y',rR P'⟩ s37.1 s37.2.1).bind λr46=>
     (Jq n r46 lim).bind λr48=>
     bif !r48 then (
      some (Lp.out (Lp.out ((([]:List Qa),([]:List Qa),(⟨(6:Int),(1:Int),s37.2.2⟩:Jt))))))
     else (
      (appM 56 s37.1 ([r40.1]:List Qa)).bind λy50=>
      (appM 56 s37.2.1 ([r46]:List Qa)).bind λy52=>
      some (Lp.go (y50,y52,wrap64 (s37.2.2+(1:Int))))))))
  else (
   some (Lp.out (Lp.go (s37.1,s37.2.1))))) n' (rR vs,rR ds,(i:Int))).bind (lpK λ(t35:(List Qa)×(List Qa))=>
 some (t35.1,t35.2,(⟨0,0,0⟩:Jt)))=some (match prunQ lim T Y P T' Y' P' ((tT t).Code.drop i) i vs ds with | .inl e=>([],[],⟨e.1,e.2.1,(e.2.2:Int)⟩) | .inr l=>(rR l.1,rR l.2,⟨0,0,0⟩)):=by
  intro m
  induction m with
  | zero=>
    intro i n' vs ds hi hn' hv hd hq hqd;rw[W4 (t:=Lp.go (rR vs,rR ds)) (by simp only[];rw[decide_eq_false (by omega)];rfl) (by omega),Option.bind_some,Xf,eC,List.drop_of_length_le (by simp;omega)];rfl
  | succ m ih=>
    intro i n' vs ds hi hn' hv hd hq hqd;obtain⟨n'',rfl⟩:∃ n'',n'=n''+1:=⟨n' - 1,by omega⟩
    have hx:t.Code[i]?=some (t.Code[i]'(by omega)):=List.getElem?_eq_getElem (by omega);have hNx:=hN (t.Code[i]'(by omega)) (List.getElem_mem (by omega));generalize t.Code[i]'(by omega)=x at hx hNx;have hxm:(tT t).Code[i]?=some (tI x):=by rw[eC];exact Qc6 tI hx
    have hmay:=mm1 i (tI x) hxm;obtain⟨v,e1,e2⟩:=Qom (T:=T) (Y:=Y) (P:=P) (done:=vs) hn (by omega) hk (by rw[hv];exact hmay) hNx hT hY hP hq hy hp;rw[Qnh hxm];simp only[prunQ]
    have fits:∀ {z:Rat}{j:Nat},j<274877906944->qw z≤j->Jq n (rF z) lim=some (decide ((qz z:Int)≤lim)):=λhj hz=>by unfold Jq;rw[Qf7 hn hj hz,sbind]
    cases ho:opQ (tI x) T Y P vs with
    | none=>
      rw[ho] at e1
      rw[W4 (t:=Lp.out ([],[],⟨3,0,(i:Int)⟩)) (by
       simp only[]
       rw[decide_eq_true (show(i:Int)<(t.Code.length:Int) by omega),bifT,Jl hx,sbind,e1,sbind];rfl) (by omega),Option.bind_some,Zu]
    | some q=>
      rw[ho] at e1;have hqk:=e2 q ho;have hf:=fits (z:=q) (j:=8*k+1) (by omega) hqk;obtain⟨g1,g2⟩:=Qvc (T':=T') (Y':=Y') (P':=P') (ds:=ds) hn (by omega) hk (by rw[hv];exact hmay) hq hT' hY' hP' hqd (by omega) (by omega) (by omega) ho;have hf2:=fits (z:=slopeQ (tI x) q T' Y' P' vs ds) (j:=20*k+10) (by omega) g2;by_cases hz:(qz q:Int)≤lim
      . by_cases hz2:(qz (slopeQ (tI x) q T' Y' P' vs ds):Int)≤lim
        . have hq129:qw q≤129:=by have:=qw_qz (q:=q) (b:=4096) (by omega);omega
          have hs129:qw (slopeQ (tI x) q T' Y' P' vs ds)≤129:=by have:=qw_qz (q:=slopeQ (tI x) q T' Y' P' vs ds) (b:=4096) (by omega);omega
          rw[Qg7 (s':=(rR (vs++[q]),rR (ds++[slopeQ (tI x) q T' Y' P' vs ds]),((i+1:Nat):Int))) (by
           simp only[];rw[decide_eq_true (show(i:Int)<(t.Code.length:Int) by omega),bifT,Jl hx,sbind,e1,sbind];simp only[]
           rw[Bool.not_true,bifF,hf,sbind,decide_eq_true hz,Bool.not_true,bifF,sbind,g1,sbind,hf2,sbind,decide_eq_true hz2,Bool.not_true,bifF,Vw (by simp[Kf];omega) (by simp[Kf];omega),sbind,Vw (by simp[Kf];omega) (by simp[Kf];omega),sbind,w1 (by omega),Qiy,Qiy])]
          rw[ih (i+1) n'' (vs++[q]) (ds++[slopeQ (tI x) q T' Y' P' vs ds]) (by omega) (by omega) (by simp;omega) (by simp;omega) (λz hz'=>by
           rcases List.mem_append.1 hz' with h | h
           . exact hq z h
           . rw[List.mem_singleton.1 h];omega) (λz hz'=>by
           rcases List.mem_append.1 hz' with h | h
           . exact hqd z h
           . rw[List.mem_singleton.1 h];omega)]
          simp only[];rw[if_pos hz,if_pos hz2]
        . rw[W4 (t:=Lp.out ([],[],⟨6,1,(i:Int)⟩)) (by
           simp only[];rw[decide_eq_true (show(i:Int)<(t.Code.length:Int) by omega),bifT,Jl hx,sbind,e1,sbind];simp only[]
           rw[Bool.not_true,bifF,hf,sbind,decide_eq_true hz,Bool.not_true,bifF,sbind,g1,sbind,hf2,sbind,decide_eq_false hz2,Bool.not_false,bifT]) (by omega),Option.bind_some,Zu]
          simp only[];rw[if_pos hz,if_neg hz2]
      . rw[W4 (t:=Lp.out ([],[],⟨6,0,(i:Int)⟩)) (by
         simp only[];rw[decide_eq_true (show(i:Int)<(t.Code.length:Int) by omega),bifT,Jl hx,sbind,e1,sbind];simp only[]
         rw[Bool.not_true,bifF,hf,sbind,decide_eq_false hz,Bool.not_false,bifT]) (by omega),Option.bind_some,Zu]
        simp only[];rw[if_neg hz]
 have:=key t.Code.length 0 n [] [] (by omega) (by unfold big at hn;omega) rfl rfl (λ_ h=>by cases h) (λ_ h=>by cases h);rw[List.drop_zero] at this;exact this
set_option maxRecDepth 100000
theorem Fk_tF{k:Nat}{x:Qa}(hB:Ye x)(h:x.N.length≤k∧x.D.length≤k):Fk k (tF x):=⟨hB.2.1.2,h.1,hB.2.2.1.2,h.2⟩
theorem FR_tF{many k:Nat}{l:List Qa}(hB:J5 l)(h:FL many k l):FR k (l.map tF):=λx hx=>by obtain⟨y,hy,rfl⟩:=List.mem_map.1 hx;exact Fk_tF (hB.2 y hy) (h.2 y hy)
theorem Q8t{a b k:Nat}{p:Qu}{bits:Int}(hB:Qaq p)(hk:k≤129)
 (h:(p.Tape.Code.length≤a∧p.Tape.Al.length≤a∧∀ c∈p.Tape.Code,c.N.N.length≤k∧c.N.D.length≤k)∧(p.Aj.Name.length≤50∧p.Aj.A.length≤b∧FL b 4 p.Aj.B∧FL b 4 p.Aj.C∧FL b 4 p.Aj.E∧∀ r∈p.Aj.A,FL b 4 r)∧FL 6 k p.P) :
 PrbW 129 ⟨tT p.Tape,tS p.Aj,p.P.map tF,bits⟩:=by
 obtain⟨bt,bs,bp,_⟩:=hB;obtain⟨⟨t1,t2,t3⟩,⟨s1,s2,s3,s4,s5,s6⟩,p1⟩:=h;refine⟨λc hc=>?_,bt.2.2.1,⟨λr hr=>?_,Yz (FR_tF bs.2.2.2.1 s3) (by omega),Yz (FR_tF bs.2.1 s4) (by omega),Yz (FR_tF bs.2.2.2.2.1 s5) (by omega),by show p.Aj.Name.length≤_;omega⟩,Yz (FR_tF bp p1) hk⟩;obtain⟨d,hd,rfl⟩:=List.mem_map.1 hc;exact Wh (Fk_tF (bt.1.2 d hd).2.2.2.1 (t3 d hd)) hk;obtain⟨d,hd,rfl⟩:=List.mem_map.1 hr;exact Yz (FR_tF (bs.2.2.1.2 d hd) (s6 d hd)) (by omega)
theorem PrbW.mono{j k:Nat}{p:Qn}(h:PrbW j p)(hk:j≤k):PrbW k p:=
 ⟨λc hc=>Wh (h.t c hc) hk,h.d,⟨λr hr=>Yz (h.s.a r hr) hk,Yz h.s.b hk,Yz h.s.c hk,Yz h.s.e hk,h.s.n⟩,Yz h.p hk⟩
set_option maxRecDepth 100000
theorem Q4j{t:Qr}{lim:Int}{T H:Rat}{Y P a:List Rat}{c:Rat}{i:Nat}{kss:List (List Rat)}{f}(h:stageQ t lim T H Y P a c i kss=.inl f):f.Ak≠0:=by
 unfold stageQ at h;split at h;cases h;show(6:Int)≠0;decide;cases hf:fieldQ t lim (T+H*c) (fromQ H Y a kss) P with
 | inl e=>rw[hf] at h;cases h;have:=Qpf hf;show e.1≠0;omega
 | inr k=>rw[hf] at h;cases h
theorem Qug{t:Qr}{lim:Int}{T H:Rat}{Y P:List Rat}:∀ {r:List (List Rat×Rat)}{i:Nat}{yss kss:List (List Rat)}{f},stagesQ t lim T H Y P r i yss kss=.inl f->f.Ak≠0
 | [],i,yss,kss,f,h=>by simp only[stagesQ] at h;cases h
 | x::r,i,yss,kss,f,h=>by
   simp only[stagesQ] at h;cases hs:stageQ t lim T H Y P x.1 x.2 i kss with
   | inl g=>rw[hs] at h;cases h;exact Q4j hs
   | inr w=>rw[hs] at h;exact Qug h
theorem Q7j{t:Qr}{s:Qp}{lim:Int}{T H:Rat}{Y P:List Rat}{f}(h:doQ t s lim T H Y P=.inl f):f.Ak≠0:=by
 unfold doQ at h;cases hst:stagesQ t lim T H Y P (List.zip (s.A.map rv) (rv s.C)) 0 [] [] with
 | inl g=>rw[hst] at h;cases h;exact Qug hst
 | inr z=>
   rw[hst] at h;simp only[] at h;unfold endQ at h;split at h;cases h;show(6:Int)≠0;decide;split at h;cases h;show(6:Int)≠0;decide;cases h
theorem Q15{p:Qu}{T H:Rat}{Y:List Rat}(hr:prbR (tP p))(hl:(Y.length:Int)=p.Tape.An):stepQ (tP p) T H Y=doQ (tT p.Tape) (tS p.Aj) (limQ p.Am) T H Y (rvr p.P):=by unfold stepQ;rw[if_pos ⟨hr,hl⟩,show rv (tP p).P=rvr p.P from Qcw p.P];rfl
theorem Q7k{a b k:Nat}{p:Qu}(hB:Qaq p)(hk:k≤129)(ha:a≤1000000)(hb:b≤1000000)
 (h:(p.Tape.Code.length≤a∧p.Tape.Al.length≤a∧∀ c∈p.Tape.Code,c.N.N.length≤k∧c.N.D.length≤k)∧(p.Aj.Name.length≤50∧p.Aj.A.length≤b∧FL b 4 p.Aj.B∧FL b 4 p.Aj.C∧FL b 4 p.Aj.E∧∀ r∈p.Aj.A,FL b 4 r)∧FL 6 k p.P) :
 PrbWr 129 p:=by
 obtain⟨bt,bs,bp,_⟩:=hB;obtain⟨⟨t1,t2,t3⟩,⟨s1,s2,s3,s4,s5,s6⟩,p1⟩:=h;have mk:∀ {m j:Nat}{l:List Qa},J5 l->FL m j l->j≤129->FKs 129 l:=λh1 h2 h3 f hf=>Wh (FR_tF h1 h2 (tF f) (List.mem_map_of_mem hf)) h3;refine⟨λx hx=>Wh (Fk_tF (bt.1.2 x hx).2.2.2.1 (t3 x hx)) hk,by omega,⟨λr hr=>mk (bs.2.2.1.2 r hr) (s6 r hr) (by omega),λr hr=>by have:=(s6 r hr).1;omega,mk bs.2.2.2.1 s3 (by omega),by have:=s3.1;omega,mk bs.2.1 s4 (by omega),by have:=s4.1;omega,mk bs.2.2.2.2.1 s5 (by omega),by have:=s5.1;omega,by omega⟩,mk bp p1 hk,by have:=p1.1;omega⟩
theorem PrbWr.mono{j k:Nat}{p:Qu}(h:PrbWr j p)(hk:j≤k):PrbWr k p:=
 ⟨λx hx=>Wh (h.t x hx) hk,h.o,⟨λr hr f hf=>Wh (h.s.a r hr f hf) hk,h.s.al,λf hf=>Wh (h.s.b f hf) hk,h.s.bl,λf hf=>Wh (h.s.c f hf) hk,h.s.cl,λf hf=>Wh (h.s.e f hf) hk,h.s.el,h.s.nl⟩,λf hf=>Wh (h.pk f hf) hk,h.pl⟩
theorem Q8u{k:Nat}{s:Q2}(h:SchWr k s):SchW k (tS s):=⟨λr hr=>by
 have eA:(tS s).A=s.A.map (·.map tF):=rfl;rw[eA] at hr;obtain⟨l,hl',rfl⟩:=List.mem_map.1 hr;intro x hx;obtain⟨f,hf',rfl⟩:=List.mem_map.1 hx;exact h.a l hl' f hf',λx hx=>by
 obtain⟨f,hf',rfl⟩:=List.mem_map.1 hx;exact h.b f hf',λx hx=>by
 obtain⟨f,hf',rfl⟩:=List.mem_map.1 hx;exact h.c f hf',λx hx=>by
 obtain⟨f,hf',rfl⟩:=List.mem_map.1 hx;exact h.e f hf',by
 have:=h.nl;show s.Name.length≤_
 omega⟩
theorem Quh{t:Qr}{lim:Int}{T H:Rat}{P U V:List Rat}(hlim:lim≤4096):∀ {r:List ((List Rat×Rat)×List Rat)}{i:Nat}{kss z:List (List Rat)}{j:Nat},(∀ a∈kss,QR 129 a∧a.length=t.Al.length)->kss.length=j->tstagesQ t lim T H U V P r i kss=.inr z →
 (∀ a∈z,QR 129 a∧a.length=t.Al.length)∧z.length=j+r.length
 | [],i,kss,z,j,h1,h2,h=>by simp only[tstagesQ] at h;cases h;exact⟨h1,h2⟩
 | x::r,i,kss,z,j,h1,h2,h=>by
   simp only[tstagesQ] at h;cases hs:tstageQ t lim T H U V P x.2 x.1.1 x.1.2 i kss with
   | inl f=>rw[hs] at h;cases h
   | inr w=>
     rw[hs] at h;have hw:QR 129 w∧w.length=t.Al.length:=by
      unfold tstageQ at hs;split at hs;cases hs;cases hf:pfieldQ t lim (T+H*x.1.2) x.2 P 0 (fromQ H U x.1.1 kss) V with
      | inl e=>rw[hf] at hs;cases hs
      | inr k=>
        rw[hf] at hs;cases hs;obtain⟨q1,q2,q3,q4⟩:=Qws hlim hf;exact⟨q4,q2⟩
     obtain⟨g1,g2⟩:=Quh hlim (j:=j+1) (λa ha=>by
      rcases List.mem_append.1 ha with ha | ha;exact h1 a ha
      rw[List.mem_singleton.1 ha];exact hw) (by simp;omega) h
     exact⟨g1,by rw[g2,List.length_cons];omega⟩
theorem Q8v{t:Qr}{lim:Int}{T H:Rat}{Y P a:List Rat}{c:Rat}{i:Nat}{kss:List (List Rat)}{f}(h:stageQ t lim T H Y P a c i kss=.inl f):(f.Ak=3∨f.Ak=6)∧f.Step=0:=by
 unfold stageQ at h;split at h;cases h;exact⟨.inr rfl,rfl⟩;cases hf:fieldQ t lim (T+H*c) (fromQ H Y a kss) P with
 | inl e=>rw[hf] at h;cases h;exact⟨Qpf hf,rfl⟩
 | inr k=>rw[hf] at h;cases h
theorem Q16{t:Qr}{lim:Int}{T H:Rat}{Y P:List Rat}:∀ {r:List (List Rat×Rat)}{i:Nat}{yss kss:List (List Rat)}{f},stagesQ t lim T H Y P r i yss kss=.inl f->(f.Ak=3∨f.Ak=6)∧f.Step=0
 | [],i,yss,kss,f,h=>by simp only[stagesQ] at h;cases h
 | x::r,i,yss,kss,f,h=>by
   simp only[stagesQ] at h;cases hs:stageQ t lim T H Y P x.1 x.2 i kss with
   | inl g=>rw[hs] at h;cases h;exact Q8v hs
   | inr w=>rw[hs] at h;exact Q16 h
theorem doQ_f{t:Qr}{s:Qp}{lim:Int}{T H:Rat}{Y P:List Rat}{f}(h:doQ t s lim T H Y P=.inl f):(f.Ak=3∨f.Ak=6)∧f.Step=0:=by
 unfold doQ at h;cases hst:stagesQ t lim T H Y P (List.zip (s.A.map rv) (rv s.C)) 0 [] [] with
 | inl g=>rw[hst] at h;cases h;exact Q16 hst
 | inr z=>
   rw[hst] at h;simp only[] at h;unfold endQ at h;split at h;cases h;exact⟨.inr rfl,rfl⟩;split at h;cases h;exact⟨.inr rfl,rfl⟩;cases h
theorem Qzb{t:Qr}{lim:Int}{T H:Rat}{P U V:List Rat}:∀ {r:List ((List Rat×Rat)×List Rat)}{i:Nat}{kss:List (List Rat)}{f},tstagesQ t lim T H U V P r i kss=.inl f->(f.Ak=3∨f.Ak=6)∧f.Step=0
 | [],i,kss,f,h=>by simp only[tstagesQ] at h;cases h
 | x::r,i,kss,f,h=>by
   simp only[tstagesQ] at h;cases hs:tstageQ t lim T H U V P x.2 x.1.1 x.1.2 i kss with
   | inl g=>
     rw[hs] at h;cases h;unfold tstageQ at hs;split at hs;cases hs;exact⟨.inr rfl,rfl⟩;cases hf:pfieldQ t lim (T+H*x.1.2) x.2 P 0 (fromQ H U x.1.1 kss) V with
     | inl e=>rw[hf] at hs;cases hs;exact⟨Qs0 hf,rfl⟩
     | inr k=>rw[hf] at hs;cases hs
   | inr w=>rw[hs] at h;exact Qzb h
theorem Jan{t:Qr}{s:Qp}{lim:Int}{T H:Rat}{P U V:List Rat}{yss:List (List Rat)}{f}(h:tdoQ t s lim T H U V P yss=.inl f):(f.Ak=3∨f.Ak=6)∧f.Step=0:=by
 unfold tdoQ at h;cases hst:tstagesQ t lim T H U V P (List.zip (pairQ s) yss) 0 [] with
 | inl g=>rw[hst] at h;cases h;exact Qzb hst
 | inr z=>
   rw[hst] at h;simp only[] at h;unfold tendQ at h;split at h;cases h;exact⟨.inr rfl,rfl⟩;split at h;cases h;exact⟨.inr rfl,rfl⟩;cases h
theorem Qs4{n k:Nat}{p:Qu}{T H:Rat}{Y U V:List Rat}(hn:big≤n)(h0:129≤k)(hk:k<8000)(hp:PrbWr k p)(hr:prbR (tP p))(hT:qw T≤k)(hH:qw H≤k)(hY:QR k Y)(hl:(Y.length:Int)=p.Tape.An)(hU:QR k U)(hul:U.length=Y.length)(hV:QR k V)(hvl:V.length=p.P.length):
 Yt n p (rF T) (rF H) (rR Y) (rR U) (rR V)=some (match tiltQ (tP p) T H Y U V with | .inl f=>([],[],⟨f.Ak,f.Stage,f.At⟩) | .inr z=>(rR z.2.1,rR z.2.2,⟨0,0,0⟩)):=by
 have hr':=hr;obtain⟨hta,hsc,hpl⟩:=hr;have hta':tapeR (tT p.Tape):=hta;have hsc':schR (tS p.Aj):=hsc;have hpl':(p.P.length:Int)=p.Tape.Aq:=by
  have e:((tP p).P.length:Int)=(p.P.length:Int):=by unfold tP;simp
  rw[←e];exact hpl
 obtain⟨nA,nB,nC,nE⟩:=Q3d hsc';obtain⟨⟨⟨g1,g2⟩,g3,g4,g5⟩,g6⟩:=Qky.1 hsc'.2.1;obtain⟨⟨d1,d2⟩,⟨d3,d4⟩,d5,d6⟩:=hta'.1;have d1':1≤p.Tape.An:=d1;have d2':p.Tape.An≤6:=d2
 have hoc:∀ o∈p.Tape.Al,0≤o∧o<(p.Tape.Code.length:Int):=λo ho=>by
  have:=hta'.2.2 o ho;have e:(tT p.Tape).Code.length=p.Tape.Code.length:=by unfold tT;simp
  rw[e] at this;exact this
 have hol:(p.Tape.Al.length:Int)=p.Tape.An:=d5;have hPq:QR k (rvr p.P):=Qfr (λf hf=>Fk_wd (hp.pk f hf)) (by omega);have hPl:((rvr p.P).length:Int)=p.Tape.Aq:=by rw[X7];exact hpl'
 have hPe:rv (tP p).P=rvr p.P:=Qcw p.P;have hPn:(tP p).P.length=p.P.length:=by unfold tP;simp
 have hNorm:Ky n p.P=some (rR (rvr p.P)):=Qcx hn (by omega) (λf hf=>Fk_wd (hp.pk f hf)) hp.pl;have eL:X0 p.Am=some (limQ p.Am):=rfl;have hsQ:=Q15 (T:=T) (H:=H) hr' hl;have hlim4:limQ p.Am≤4096:=by unfold limQ;omega
 unfold Yt tiltQ;rw[eL,sbind,Qrn hn h0 hk hp hr' hT hH hY hl,sbind,hsQ];cases hd:doQ (tT p.Tape) (tS p.Aj) (limQ p.Am) T H Y (rvr p.P) with
 | inl f=>
   have hkd:=Q7j hd;have hk2:f.Ak≠2:=by have:=(doQ_f hd).1;omega
   simp only[];rw[decide_eq_false hkd,Bool.not_false,bifT,if_neg (by rw[hPn];rintro(g | g | g)<;>contradiction)]
 | inr z=>
 rw[hd] at hsQ;obtain⟨y1,y2⟩:=Q1r hsQ;have y2':z.ys.length=p.Aj.B.length:=by rw[y2];show(tS p.Aj).B.length=_;unfold tS;simp
 simp only[];rw[decide_eq_true trivial,Bool.not_true,bifF,if_neg (by rw[hPn];rintro(g | g)<;>contradiction),hPe];rw[show(tP p).Tape=tT p.Tape from rfl,show(tP p).Aj=tS p.Aj from rfl,show(tP p).Am=p.Am from rfl,show(toMr z).Ys=rRR z.ys from rfl];generalize limQ p.Am=lim at hlim4 ⊢;clear hd hsQ eL y2;generalize z.ys=yss at y1 y2' ⊢
 have key:∀(m i n':Nat) (kss:List (List Rat)) (K:List (List Qa)->Option (List Qa×List Qa×Jt)),i+m=p.Aj.B.length->m<n'->kss.length=i->(∀ a∈kss,QR 129 a)->(∀ a∈kss,a.length=U.length) →
  (loopM (λ(s49:(List (List Qa))×Int)=>
  bif decide (s49.2<(p.Aj.B.length:Int)) then (
   (getI p.Aj.A s49.2).bind λy50=>
   (Jc n (rR U) y50 s49.1 (rF H)).bind λr52=>
   (Jf n r52 lim).bind λr54=>
   bif decide (r54<(r52.length:Int)) then (
    some (Lp.out (Lp.out ((([]:List Qa),([]:List Qa),(⟨(6:Int),s49.2,wrap64 ((300:Int)+r54)⟩:Jt))))))
   else (
    (Jv n (0:Int)).bind λr56=>
    (Ku n p (rF T) (rF H) s49.2).bind λr58=>
    (getI (rRR yss) s49.2).bind λy60=>
    (Kz n p r58 y60).bind λr62=>
    (Yn n p.Tape r62 (⟨r56,r52,rR V⟩:J9) lim).bind λr64=>
    bif !decide (r64.2.2.a0=(0:Int)) then (
     some (Lp.out (Lp.out ((([]:List Qa),([]:List Qa),(⟨r64.2.2.a0,s49.2,r64.2.2.a2⟩:Jt))))))
    else (
     (Wa n p.Tape r64.2.1).bind λr66=>
     (appM 24 s49.1 ([r66]:List (List Qa))).bind λy68=>
     some (Lp.go (y68,wrap64 (s49.2+(1:Int)))))))
  else (
   some (Lp.out (Lp.go s49.1)))) n' (rRR kss,(i:Int))).bind (lpK K)=match tstagesQ (tT p.Tape) lim T H U V (rvr p.P) ((List.zip (pairQ (tS p.Aj)) yss).drop i) i kss with | .inl f=>some ([],[],⟨f.Ak,f.Stage,f.At⟩) | .inr z=>K (rRR z):=by
  intro m
  induction m with
  | zero=>
    intro i n' kss K hi hn' hk1 hq hkl;have he:(List.zip (pairQ (tS p.Aj)) yss).drop i=[]:=by apply List.drop_eq_nil_of_le;rw[List.length_zip];omega
    rw[W4 (t:=Lp.go (rRR kss)) (by simp only[];rw[decide_eq_false (by omega)];rfl) (by omega),Option.bind_some,Xf,he];rfl
  | succ m ih=>
    intro i n' kss K hi hn' hk1 hq hkl;obtain⟨n'',rfl⟩:∃ n'',n'=n''+1:=⟨n' - 1,by omega⟩
    have ha:p.Aj.A[i]?=some (p.Aj.A[i]'(by omega)):=List.getElem?_eq_getElem (by omega);have hc:p.Aj.C[i]?=some (p.Aj.C[i]'(by omega)):=List.getElem?_eq_getElem (by omega);have hyi:yss[i]?=some (yss[i]'(by omega)):=List.getElem?_eq_getElem (by omega);have ham:=List.getElem_mem (l:=p.Aj.A) (n:=i) (by omega);have hcm:=List.getElem_mem (l:=p.Aj.C) (n:=i) (by omega);have hym:=y1 (yss[i]'(by omega)) (List.getElem_mem _);generalize p.Aj.A[i]'(by omega)=a at ha ham;generalize p.Aj.C[i]'(by omega)=c at hc hcm;generalize yss[i]'(by omega)=yi at hyi hym;have hal:=g6 i (by omega) a ha;have hra:=Qg3 (nA a ham);have hrc:=Qti (nC c hcm);have haq:QR k (rvr a):=Qfr (λf hf=>Fk_wd (hp.s.a a ham f hf)) (by omega);have hcq:qw (fr c)≤k:=qw_fr (Fk_wd (hp.s.c c hcm)) (by omega);have hpd:=Qy2 (s:=tS p.Aj) (i:=i) (a:=a.map tF) (c:=tF c) (Qc6 _ ha) (Qc6 _ hc) hyi;rw[Qcw,fr_tF] at hpd;rw[hpd];simp only[tstagesQ];have hF:=Qbv (c:=rvr a) hn h0 (by omega) hH hU haq hq (by omega) (by rw[X7];omega) hkl (by omega);rw[hra] at hF;have hfb:=Qg0 hU hH haq hq (by omega) h0;have hfl:=Qcv (H:=H) (Y:=U) (c:=rvr a) hkl;have hRow:=Qap (lim:=lim) hn (show 22*k<274877906944 by omega) hfb (by omega);unfold tstageQ;cases hf:fitQ lim (fromQ H U (rvr a) kss) 0 with
    | some j=>
      rw[hf] at hRow;have hj:=Qha hf;simp only[] at hRow ⊢
      rw[W4 (t:=Lp.out ([],[],⟨6,(i:Int),300+(j:Int)⟩)) (by
       simp only[]
       rw[decide_eq_true (show(i:Int)<(p.Aj.B.length:Int) by omega),bifT,Jl ha,sbind,hF,sbind,hRow,sbind,Kf,decide_eq_true (by omega),bifT,w64 (by omega) (by omega)]) (by omega),Option.bind_some,Zu]
    | none=>
      rw[hf] at hRow;simp only[] at hRow ⊢;have hmul:=Xg hH hcq;have hadd:=Qb3 hT hmul;have hMo:Ku n p (rF T) (rF H) (i:Int)=some (rF (T+H*fr c)):=by unfold Ku;rw[Jl hc,sbind,←hrc,Wi (k:=k) hn (by omega) hH hcq,sbind,fr_rF,Zi (k:=4*k) hn (by omega) (by omega) (by omega),sbind]
      have hPo:Kz n p (rF (T+H*fr c)) (rR yi)=some ⟨rF (T+H*fr c),rR yi,rR (rvr p.P)⟩:=by unfold Kz;rw[hNorm,sbind]
      have hTa:=Qwz (k:=22*k) (t:=p.Tape) (T:=T+H*fr c) (Y:=yi) (P:=rvr p.P) (T':=0) (Y':=fromQ H U (rvr a) kss) (P':=V) (lim:=lim) hn (by omega) (by omega) hta' (λx hx=>Wh (hp.t x hx) (by omega)) (by omega) (W8 hym.1 (by omega)) (W8 hPq (by omega)) (by rw[Qam];omega) hfb (W8 hV (by omega)) (by rw[hfl];omega) (by rw[X7];exact hvl) (by omega) hPl hlim4;unfold pfieldQ;cases hru:prunQ lim (T+H*fr c) yi (rvr p.P) 0 (fromQ H U (rvr a) kss) V (tT p.Tape).Code 0 [] [] with
      | inl e=>
        rw[hru] at hTa;have hkd:=Qmg hru;simp only[] at hTa ⊢
        rw[W4 (t:=Lp.out ([],[],⟨e.1,(i:Int),(e.2.2:Int)⟩)) (by
         simp only[];rw[decide_eq_true (show(i:Int)<(p.Aj.B.length:Int) by omega),bifT,Jl ha,sbind,hF,sbind,hRow,sbind,Kf,decide_eq_false (by omega),bifF,Qad hn,sbind,hMo,sbind,Jl (Qx9 hyi),sbind,hPo,sbind,hTa,sbind];simp only[]
         rw[decide_eq_false (show ¬ e.1=0 by omega),Bool.not_false,bifT]) (by omega),Option.bind_some,Zu]
      | inr l=>
        rw[hru] at hTa;obtain⟨l1,l2,l3,l4⟩:=Qq6 hlim4 (λ_ h=>by cases h) (λ_ h=>by cases h) rfl hru;have l1':l.2.length=p.Tape.Code.length:=by rw[l2,l1];unfold tT;simp
        have hOu:=Qon (t:=p.Tape) (l:=l.2) hn hp.o (by rw[l1'];exact hoc);simp only[] at hTa ⊢;have hoe:(tT p.Tape).Al=p.Tape.Al:=rfl;rw[hoe]
        rw[Qg7 (s':=(rRR (kss++[p.Tape.Al.map λo=>l.2.getD o.toNat 0]),((i+1:Nat):Int))) (by
         simp only[];rw[decide_eq_true (show(i:Int)<(p.Aj.B.length:Int) by omega),bifT,Jl ha,sbind,hF,sbind,hRow,sbind,Kf,decide_eq_false (by omega),bifF,Qad hn,sbind,hMo,sbind,Jl (Qx9 hyi),sbind,hPo,sbind,hTa,sbind];simp only[]
         rw[decide_eq_true trivial,Bool.not_true,bifF,hOu,sbind,Vw (by simp[Qmp];omega) (by simp[Qmp];omega),sbind,w1 (by omega),Qva])]
        exact ih (i+1) n'' _ K (by omega) (by omega) (by simp;omega) (λb hb=>by
         rcases List.mem_append.1 hb with h | h;exact hq b h;rw[List.mem_singleton.1 h];intro q hq';obtain⟨o,_,rfl⟩:=List.mem_map.1 hq';exact Vl l4 (by omega)) (λb hb=>by
         rcases List.mem_append.1 hb with h | h;exact hkl b h
         rw[List.mem_singleton.1 h];simp;omega)
 have hkey:=key p.Aj.B.length 0 n [] (λ(t47:(List (List Qa)))=>
  (Jc n (rR U) p.Aj.B t47 (rF H)).bind λr70=>
  (Jf n r70 lim).bind λr72=>
  bif decide (r72<(r70.length:Int)) then (
   some (([]:List Qa),([]:List Qa),(⟨(6:Int),(p.Aj.B.length:Int),wrap64 ((300:Int)+r72)⟩:Jt)))
  else (
   jn (λ(j84:((List Qa))->Option _)=>
    bif decide ((0:Int)<(p.Aj.E.length:Int)) then (
     (Wb n ((rR Y).length:Int)).bind λr87=>
     (Wy n p.Aj).bind λr89=>
     (Jc n r87 r89 t47 (rF H)).bind λr91=>
     j84 r91)
    else (
     j84 ([]:List Qa))) (λ(s86:(List Qa))=>
    (Jf n s86 lim).bind λr93=>
    bif decide (r93<(s86.length:Int)) then (
     some (([]:List Qa),([]:List Qa),(⟨(6:Int),wrap64 ((p.Aj.B.length:Int)+(1:Int)),wrap64 ((300:Int)+r93)⟩:Jt)))
    else (
     some (r70,s86,(⟨0,0,0⟩:Jt)))))) (by omega) (by unfold big at hn;omega) rfl (λ_ h=>by cases h) (λ_ h=>by cases h)
 refine hkey.trans ?_;clear hkey key;rw[List.drop_zero];unfold tdoQ;cases hst:tstagesQ (tT p.Tape) lim T H U V (rvr p.P) (List.zip (pairQ (tS p.Aj)) yss) 0 [] with
 | inl f=>rfl
 | inr z=>
   simp only[];obtain⟨y1',y2⟩:=Quh hlim4 (λ_ h=>by cases h) rfl hst;have hout:(tT p.Tape).Al.length=U.length:=by have e:((tT p.Tape).Al.length:Int)=p.Tape.An:=hol;omega
   have z1:∀ a∈z,a.length=U.length:=λa ha=>(y1' a ha).2.trans hout;have y1:∀ a∈z,QR 129 a:=λa ha=>(y1' a ha).1;have hzl:z.length=p.Aj.B.length:=by rw[y2,List.length_zip];unfold pairQ tS;rw[List.length_zip,Ju,List.length_map,List.length_map,List.length_map,List.length_nil];omega
   have hrB:=Qg3 nB;have hBq:QR k (rvr p.Aj.B):=Qfr (λf hf=>Fk_wd (hp.s.b f hf)) (by omega);have hF:=Qbv (c:=rvr p.Aj.B) hn h0 (by omega) hH hU hBq y1 (by omega) (by rw[X7];omega) z1 (by omega);rw[hrB] at hF;have hfb:=Qg0 hU hH hBq y1 (by omega) h0;have hfl:=Qcv (H:=H) (Y:=U) (c:=rvr p.Aj.B) z1;have hRow:=Qap (lim:=lim) hn (show 22*k<274877906944 by omega) hfb (by omega);have eB:rv (tS p.Aj).B=rvr p.Aj.B:=Qcw _;have eBl:((tS p.Aj).B.length:Int)=(p.Aj.B.length:Int):=by unfold tS;simp
   unfold tendQ;rw[eB,eBl,hF,sbind,hRow,sbind];cases hf:fitQ lim (fromQ H U (rvr p.Aj.B) z) 0 with
   | some j=>
     have hj:=Qha hf;simp only[];rw[Kf,decide_eq_true (by omega),bifT,w64 (by omega) (by omega)]
   | none=>
     simp only[];rw[Kf,decide_eq_false (by omega),bifF,jn_eq];by_cases hE:p.Aj.E=[]
     have hg:=(Qtk hsc').2 hE;rw[hE,if_pos hg];have h00:=Qap (k:=1) (l:=[]) (lim:=lim) hn (by decide) (λ_ h=>by cases h) (by simp);have h00':Jf n [] lim=some 0:=h00;rw[decide_eq_false (by simp),bifF];simp only[];rw[h00',sbind,decide_eq_false (by simp),bifF];rfl;have hg:gapQ (tS p.Aj)≠[]:=λh=>hE ((Qtk hsc').1 h);have hEl:p.Aj.E.length≠0:=λh=>hE (List.eq_nil_of_length_eq_zero h);have hgapl:(gapQ (tS p.Aj)).length=p.Aj.B.length:=by
      have eE:(tS p.Aj).E=p.Aj.E.map tF:=rfl;have eB2:(tS p.Aj).B=p.Aj.B.map tF:=rfl;unfold gapQ;rw[if_neg (by rw[eE];simpa using hE),Qkq,Qfh,Ju,Ju,eE,eB2];simp;omega
     have hgq:QR (2*k+2) (gapQ (tS p.Aj)):=Qwl (by omega) (Q8u hp.s);have hGap:=Qqd hn (show 1≤k by omega) (by omega) hp.s nB nE (by omega) g2 hE;have hF2:=Qbv (k:=2*k+2) (Y:=List.replicate Y.length 0) (c:=gapQ (tS p.Aj)) hn (by omega) (by omega) (show qw H≤2*k+2 by omega) (W8 (Qsy _) (by omega)) hgq y1 (by omega) (by omega) (by simpa [hul] using z1) (by simp;omega);have e0:fromQ H (List.replicate Y.length 0) (gapQ (tS p.Aj)) z=towQ H U.length (gapQ (tS p.Aj)) z:=by
      unfold fromQ;rw[List.length_replicate,←hul,Qs3 (Qhb z1)]
     rw[e0] at hF2;have htl:=Qhb (H:=H) (c:=gapQ (tS p.Aj)) z1;have htb:=Qks (m:=U.length) (show qw H≤2*k+2 by omega) hgq y1 (by omega) (by omega);have hRow2:=Qap (lim:=lim) hn (show 20*(2*k+2)<274877906944 by omega) htb (by omega);rw[if_neg hg,decide_eq_true (show(0:Int)<(p.Aj.E.length:Int) by omega),bifT,Kf Y,Qoo hn (by omega),sbind,hGap,sbind,hF2,sbind];simp only[];rw[hRow2,sbind];cases hf2:fitQ lim (towQ H U.length (gapQ (tS p.Aj)) z) 0 with
     | some j=>
       have hj:=Qha hf2;simp only[];rw[Kf,decide_eq_true (by omega),bifT,w64 (x:=300+(j:Int)) (by omega) (by omega),w1 (by omega)];rfl
     | none=>
       simp only[];rw[Kf,decide_eq_false (by omega),bifF]
set_option maxRecDepth 100000
theorem Q3e{p:Qn}{T H:Rat}{Y U V:List Rat}{z}(h:tiltQ p T H Y U V=.inr z):stepQ p T H Y=.inr z.1∧U.length=Y.length∧V.length=p.P.length∧tdoQ p.Tape p.Aj (limQ p.Am) T H U V (rv p.P) z.1.ys=.inr z.2:=by
 unfold tiltQ at h;cases hs:stepQ p T H Y with
 | inl f=>
   rw[hs] at h;simp only[] at h;split at h<;>cases h
 | inr w=>
   rw[hs] at h;simp only[] at h;split at h;cases h;rename_i hc;cases hd:tdoQ p.Tape p.Aj (limQ p.Am) T H U V (rv p.P) w.ys with
   | inl f=>rw[hd] at h;cases h
   | inr x=>
     rw[hd] at h;cases h;refine⟨rfl,?_,?_,hd⟩;exact Decidable.not_not.1 λg=>hc (.inl g);exact Decidable.not_not.1 λg=>hc (.inr g)
set_option maxRecDepth 100000
theorem w34:W3 big=some true:=by kernel_rfl
theorem Qw0{n:Nat}{b:W9}(hn:big≤n):∃ v,Zx n b=some v∧(v=false->FL 6 2 b.U∧FL 6 2 b.V):=by
 unfold Zx;simp only[jn_eq];obtain⟨v,e1,e2⟩:=Zs (l:=b.U) (many:=6) (k:=2) hn (by decide);obtain⟨w,e3,e4⟩:=Zs (l:=b.V) (many:=6) (k:=2) hn (by decide);rw[show((6:Nat):Int)=6 from rfl,show((2:Nat):Int)=2 from rfl] at e1 e3;rw[e1,sbind];cases v
 case true=>exact⟨true,rfl,λh=>by cases h⟩
 rw[bifF,e3,sbind];cases w
 case true=>exact⟨true,rfl,λh=>by cases h⟩
 exact⟨false,rfl,λ_=>⟨e2 rfl,e4 rfl⟩⟩
set_option maxRecDepth 100000
theorem Qvd{j k:Nat}{l:List Qa}(h:FRr j l)(hk:j≤k):FRr k l:=λf hf=>by obtain⟨a,b,c,d⟩:=h f hf;exact⟨a,b,by omega,by omega⟩
set_option maxRecDepth 100000
theorem Q6g{p:Qn}{T H:Rat}{Y U V:List Rat}(h:¬(prbR p∧(Y.length:Int)=p.Tape.An∧U.length=Y.length∧V.length=p.P.length)):tiltQ p T H Y U V=.inl ⟨2,0,0,0⟩:=by
 unfold tiltQ;by_cases hc:prbR p∧(Y.length:Int)=p.Tape.An;have hn:U.length≠Y.length∨V.length≠p.P.length:=by by_cases h1:U.length=Y.length;exact .inr λh2=>h ⟨hc.1,hc.2,h1,h2⟩;exact .inl h1
 cases hs:stepQ p T H Y with
 | inl f=>simp only[];rw[if_pos (.inr hn)]
 | inr z=>simp only[];rw[if_pos hn]
 have:stepQ p T H Y=.inl ⟨2,0,0,0⟩:=by unfold stepQ;rw[if_neg hc]
 rw[this];simp only[true_or,if_true]
theorem Q3f:∀ {cs:List Rat}{l:List (List Rat)}{z:List Rat},(mixQ cs l z).length≤z.length
 | [],_,z=>by simp only[mixQ];exact Nat.le_refl _
 | _::_,[],z=>by simp only[mixQ];exact Nat.le_refl _
 | c::cs,a::l,z=>by simp only[mixQ];refine Nat.le_trans Q3f ?_;rw[List.length_zipWith];omega
theorem Q8w{p:Qn}{T H:Rat}{Y U V:List Rat}{z}(h:tiltQ p T H Y U V=.inr z):QR 129 z.2.1∧QR 129 z.2.2∧z.2.1.length≤U.length∧z.2.2.length≤U.length∧QR 129 z.1.next∧z.1.next.length=Y.length∧(Y.length:Int)=p.Tape.An∧(Y.length:Int)≤6:=by
 obtain⟨h1,h2,h3,h4⟩:=Q3e h;obtain⟨r1,r2,r3,r4,r5⟩:=Quz h1;have hd:p.Tape.An≤6:=r1.1.1.1.2;have hlim:limQ p.Am≤4096:=by unfold limQ;omega
 unfold tdoQ at h4;cases hst:tstagesQ p.Tape (limQ p.Am) T H U V (rv p.P) (List.zip (pairQ p.Aj) z.1.ys) 0 [] with
 | inl g=>rw[hst] at h4;cases h4
 | inr kss=>
   rw[hst] at h4;simp only[] at h4;unfold tendQ at h4;split at h4
   . cases h4
   . rename_i hf1
     split at h4
     . cases h4
     . rename_i hf2
       have hz:=(Sum.inr.inj h4).symm;rw[hz];refine⟨Qmn hlim hf1,Qmn hlim hf2,?_,?_,r3,r4,r2,by omega⟩
       . simp only[]
         unfold fromQ addQ;rw[List.length_zipWith];omega
       . simp only[]
         split
         . simp
         . unfold towQ scaleQ
           rw[List.length_map];refine Nat.le_trans Q3f ?_;rw[List.length_replicate];omega
theorem Jao{p:Qn}{T H:Rat}{Y U V:List Rat}{f}(h:tiltQ p T H Y U V=.inl f):f.Step=0:=by
 unfold tiltQ at h;cases hs:stepQ p T H Y with
 | inl g=>
   rw[hs] at h;simp only[] at h;split at h;cases h;rfl;cases h;unfold stepQ at hs;split at hs;exact(doQ_f hs).2;cases hs;rfl
 | inr z=>
   rw[hs] at h;simp only[] at h;split at h;cases h;rfl;cases hd:tdoQ p.Tape p.Aj (limQ p.Am) T H U V (rv p.P) z.ys with
   | inl g=>rw[hd] at h;cases h;exact(Jan hd).2
   | inr w=>rw[hd] at h;cases h
theorem Qw1(p:Qu)(f:V7)(b:W9)(hB:Qaq p)(hF:Qhp f)(hb:Qi9 b):∃ n,Xl n p f b=some true:=by
 refine⟨big,?_⟩;have hn:big≤big:=Nat.le_refl _;unfold Xl;simp only[jn_eq];obtain⟨v,e1,e2⟩:=Qwp (p:=p) (a:=10) (b:=4) (k:=2) hn (by decide) (by decide);rw[show((10:Nat):Int)=10 from rfl,show((4:Nat):Int)=4 from rfl,show((2:Nat):Int)=2 from rfl] at e1;rw[e1,sbind];cases v
 case true=>rw[bifT,bifT,w34];rfl
 obtain⟨⟨t1,t2,t3⟩,⟨s1,s2,s3,s4,s5,s6⟩,p1⟩:=e2 rfl;rw[bifF];by_cases c1:(3:Int)<(p.Aj.B.length:Int)
 . rw[decide_eq_true c1,bifT,bifT,w34];rfl
 rw[decide_eq_false c1,bifF];obtain⟨v,e3,e4⟩:=Qwq (f:=f) hn;rw[e3,sbind];cases v
 case true=>rw[bifT,bifT,w34];rfl
 obtain⟨f1,f2,f3⟩:=e4 rfl;obtain⟨v,e5,e6⟩:=Qw0 (b:=b) hn;rw[bifF,e5,sbind];cases v
 case true=>rw[bifT,bifT,w34];rfl
 obtain⟨u1,v1⟩:=e6 rfl;rw[bifF];by_cases c2:(400:Int)<p.Am
 . rw[decide_eq_true c2,bifT,w34];rfl
 rw[decide_eq_false c2,bifF];obtain⟨bu1,bv1,_⟩:=hb;have hw:=Q8t (bits:=p.Am) hB (by decide) (e2 rfl);have hwr:=Q7k hB (by decide) (by decide) (by decide) (e2 rfl);have hT:Fk 129 (tF f.T):=Wh (Fk_tF hF.1 f1) (by decide);have hH:Fk 129 (tF f.H):=Wh (Fk_tF hF.2.1 f2) (by decide);have hY:FR 129 (f.Y.map tF):=Yz (FR_tF hF.2.2.1 f3) (by decide);have hU:FR 129 (b.U.map tF):=Yz (FR_tF bu1 u1) (by decide);have hV:FR 129 (b.V.map tF):=Yz (FR_tF bv1 v1) (by decide);have hYr:FRr 129 f.Y:=Qvd (Q1x hF.2.2.1 f3) (by decide);have hUr:FRr 129 b.U:=Qvd (Q1x bu1 u1) (by decide);have hVr:FRr 129 b.V:=Qvd (Q1x bv1 v1) (by decide);have hTr:=Fk_wd hT;have hHr:=Fk_wd hH;have f4:=f3.1;have u4:=u1.1;have v4:=v1.1;have to:∀ x:Qa,V5 x=some (tF x):=λ_=>rfl;rw[Qzz hn (by omega) (by omega) (by omega) (by have:=s3.1;omega) (by have:=s4.1;omega) (by have:=s5.1;omega) (λr hr=>by have:=(s6 r hr).1;omega) (by have:=p1.1;omega),sbind,to,sbind,to,sbind,Qa5 hn (by omega),sbind,Qa5 hn (by omega),sbind,Qa5 hn (by omega),sbind];obtain⟨a1,a2,a3⟩:=Qtv (p:=tP p) (t:=tF f.T) (h:=tF f.H) (y:=f.Y.map tF) (u:=b.U.map tF) (v:=b.V.map tF) hn (by decide) (by decide) hw hT hH hY hU hV;rw[Qcw,Qcw,Qcw,fr_tF,fr_tF] at a1 a2 a3;have qT:=qw_fr hTr (by decide);have qH:=qw_fr hHr (by decide);have qY:=Qfr hYr (by decide);have qU:=Qfr hUr (by decide);have qV:=Qfr hVr (by decide);have hPn:(tP p).P.length=p.P.length:=by unfold tP;simp
 rw[a1,sbind,Qu9 (k:=129) hn (by decide) (by decide) hwr,sbind,bifnP]
 have bad:¬(prbR (tP p)∧((rvr f.Y).length:Int)=(tP p).Tape.An∧(rvr b.U).length=(rvr f.Y).length∧(rvr b.V).length=(tP p).P.length)->(bif decide (((match tiltQ (tP p) (fr f.T) (fr f.H) (rvr f.Y) (rvr b.U) (rvr b.V) with | .inl f=>(noMv,f) | .inr z=>(⟨toR z.2.1,toR z.2.2,toM z.1⟩,⟨0,0,0,0⟩):Q9×Qe).1.Next.length:Int)=0) then
  bif decide (((match tiltQ (tP p) (fr f.T) (fr f.H) (rvr f.Y) (rvr b.U) (rvr b.V) with | .inl f=>(noMv,f) | .inr z=>(⟨toR z.2.1,toR z.2.2,toM z.1⟩,⟨0,0,0,0⟩):Q9×Qe).1.Err.length:Int)=0) then
  bif decide (((match tiltQ (tP p) (fr f.T) (fr f.H) (rvr f.Y) (rvr b.U) (rvr b.V) with | .inl f=>(noMv,f) | .inr z=>(⟨toR z.2.1,toR z.2.2,toM z.1⟩,⟨0,0,0,0⟩):Q9×Qe).1.Made.Ks.length:Int)=0) then
  bif Q1 (match tiltQ (tP p) (fr f.T) (fr f.H) (rvr f.Y) (rvr b.U) (rvr b.V) with | .inl f=>(noMv,f) | .inr z=>(⟨toR z.2.1,toR z.2.2,toM z.1⟩,⟨0,0,0,0⟩):Q9×Qe).2 ⟨2,0,0,0⟩ then
  (W3 big).bind λr44=>some r44 else some false else some false else some false else some false)=some true:=by
  intro h;rw[Q6g h];simp only[];rw[Yr,bifT,w34];rfl
 by_cases hr:prbR (tP p)
 case neg=>rw[if_neg hr,bifT];exact bad λh=>hr h.1
 rw[if_pos hr];by_cases hy:(f.Y.length:Int)=p.Tape.An
 case neg=>
  rw[decide_eq_false hy,Bool.not_false,bifT,bifT];exact bad λh=>hy (by rw[X7] at h;exact h.2.1)
 rw[decide_eq_true hy,Bool.not_true,bifF];by_cases hu:(b.U.length:Int)=(f.Y.length:Int)
 case neg=>
  rw[decide_eq_false hu,Bool.not_false,bifT,bifT];exact bad λh=>hu (by have:=h.2.2.1;rw[X7,X7] at this;omega)
 rw[decide_eq_true hu,Bool.not_true,bifF];by_cases hv:(b.V.length:Int)=(p.P.length:Int)
 case neg=>
  rw[decide_eq_false hv,Bool.not_false,bifT];exact bad λh=>hv (by have:=h.2.2.2;rw[X7,hPn] at this;omega)
 clear bad;rw[decide_eq_true hv,Bool.not_true,bifF,Xw hn hTr.1 hTr.2.1 (by omega) (by omega),sbind,Xw hn hHr.1 hHr.2.1 (by omega) (by omega),sbind,Qcx hn (show 129<1099511627776 by decide) hYr (by omega),sbind,Qcx hn (show 129<1099511627776 by decide) hUr (by omega),sbind,Qcx hn (show 129<1099511627776 by decide) hVr (by omega),sbind];have hyr:((rvr f.Y).length:Int)=p.Tape.An:=by rw[X7];exact hy
 rw[Qs4 hn (by decide) (by decide) hwr hr qT qH qY hyr qU (by rw[X7,X7];omega) qV (by rw[X7];omega),sbind];unfold Qa6;have e00:Xb big [] []=some true:=Qhe (k:=1) (a:=[]) (b:=[]) hn (by decide) (by decide) (λ_ h=>by cases h);cases hM:tiltQ (tP p) (fr f.T) (fr f.H) (rvr f.Y) (rvr b.U) (rvr b.V) with
 | inl g=>
   have g0:=Jao hM;have gk:=a2 g hM;obtain⟨b1,b2,b3,b4⟩:=g;simp only[] at g0 gk;subst g0;simp only[];rw[decide_eq_false gk,bifF];rw[show noMv.Next=[] from rfl,show noMv.Err=[] from rfl,show noMv.Made.Next=[] from rfl,e00,sbind,bifT,sbind,bifT,sbind,bifT,sbind,Yr,bifT,w34];rfl
 | inr z=>
   obtain⟨z1,z2,z3,z4,z5,z6,z7,z8⟩:=Q8w hM;have hdo:=(Q3e hM).1;rw[Q15 hr hyr] at hdo;rw[X7] at z3 z4 z6;simp only[];rw[decide_eq_true trivial,bifT,Qrn hn (by decide) (by decide) hwr hr qT qH qY hyr,hdo,sbind];rw[Qhe (k:=129) hn (by omega) (by decide) z1,sbind,decide_eq_true rfl,bifT,Qhe (k:=129) hn (by omega) (by decide) z2,sbind,decide_eq_true rfl,bifT];rw[show(toM z.1).Next=toR z.1.next from rfl,show(toMr z.1).Next=rR z.1.next from rfl,Qhe (k:=129) hn (by omega) (by decide) z5,sbind,decide_eq_true rfl,bifT,sbind,Yr,bifT,w34];rfl
end Go.Proofs.YtlfphifbmoccgaaGreatDoor
