import Derived.Test.YtlihkcaoachkdaaGreatDoorP2
import Derived.KernelRfl
namespace Go.Proofs.YtlihkcaoachkdaaGreatDoor
open Go Go.RowKit
set_option maxRecDepth 100000
structure TA(K d:Nat)(x:TryA):Prop where
 t:qw x.T≤K
 w:qw x.Want≤K
 h:qw x.H≤K
 e:qw x.Err≤K
 y:QR K x.Y
 l:x.Y.length=d
theorem Q12{p:Qw}{r:Ja}{E:Rat}{d:Nat}(hr:RulR r)(hl:qw (fv r.Low)≤2)(hh:qw (fv r.High)≤2)(hE:qw E≤2):∀(m:Nat) (tr:List TryA) (T:Rat) (Y:List Rat) (W:Rat),
 tr.length+m≤12->qw T≤(gA tr.length).1->qw W≤(gA tr.length).2->QR 129 Y->Y.length=d->(∀ t∈tr,TA 4000 d t) →
 (∀ t∈(adaptQ p r E m tr T Y W).1.1,TA 4000 d t)∧qw (adaptQ p r E m tr T Y W).1.2.1≤4000∧QR 129 (adaptQ p r E m tr T Y W).1.2.2∧(adaptQ p r E m tr T Y W).1.2.2.length=d∧(adaptQ p r E m tr T Y W).1.1.length≤tr.length+m
 | 0,tr,T,Y,W,h12,hT,hW,hY,hYl,htr=>by
   obtain⟨b1,b2⟩:=gA_le tr.length (by omega)
   unfold adaptQ
   split<;>exact⟨htr,by show qw T≤4000;omega,hY,hYl,Nat.le_refl _⟩
 | m+1,tr,T,Y,W,h12,hT,hW,hY,hYl,htr=>by
   obtain⟨b1,b2⟩:=gA_le tr.length (by omega)
   have hst:=Qwt tr.length
   have stay:(∀ t∈tr,TA 4000 d t)∧qw T≤4000∧QR 129 Y∧Y.length=d∧tr.length≤tr.length+(m+1):=⟨htr,by omega,hY,hYl,by omega⟩
   by_cases h:T=E
   . simp only[adaptQ,if_pos h];exact h ▸ stay
   simp only[adaptQ,if_neg h]
   cases dP (underQ r W)
   case true=>exact stay
   rw[bifF]
   obtain⟨c1,c2⟩:=Qyc (E:=E) hT hE hW
   cases hs:stepQ p T (cutQ T E W) Y with
   | inl f=>exact stay
   | inr z=>
     obtain⟨_,_,z1,z2,z3⟩:=Qu6 hs
     have hne:=Qtc (k:=129) (l:=z.err) (by decide) z3
     have hfa:=Qrt hr (j:=2) hl hh (normQ z.err)
     have hml:=Qab c1 hfa
     have hlen:(tr++[tryA r E T Y W z]).length=tr.length+1:=by simp
     have ih:=Q12 (p:=p) (E:=E) (d:=d) hr hl hh hE m (tr++[tryA r E T Y W z]) (bif dP (accQ r (normQ z.err)) then T+cutQ T E W else T) (bif dP (accQ r (normQ z.err)) then z.next else Y) (cutQ T E W*factorQ r (normQ z.err)) (by rw[hlen];omega) (by
      rw[hlen]
      show qw _≤(gA tr.length).1+(gA tr.length).2+1
      cases dP (accQ r (normQ z.err))
      . rw[bifF];omega
      . rw[bifT];omega) (by
      rw[hlen]
      show qw _≤max ((gA tr.length).1+3) (gA tr.length).2+3
      omega) (by
      cases dP (accQ r (normQ z.err))
      . exact hY
      . exact z1) (by
      cases dP (accQ r (normQ z.err))
      . exact hYl
      . rw[bifT,z2];exact hYl) (λt ht=>by
      rcases List.mem_append.1 ht with ht | ht
      . exact htr t ht
      . rw[List.mem_singleton.1 ht]
        exact⟨by show qw T≤_;omega,by show qw W≤_;omega,by show qw (cutQ T E W)≤_;omega,by show qw (normQ z.err)≤_;omega,show QR 4000 Y from X6 hY (by decide),hYl⟩)
     rw[hlen] at ih
     obtain⟨i1,i2,i3,i4,i5⟩:=ih
     exact⟨i1,i2,i3,i4,Nat.le_trans i5 (by omega)⟩
def mA(tr:List TryA)(T:Rat)(Y:List Rat):Ji:=⟨tr.map toTryA,toF T,toR Y⟩
theorem Q7g{k m:Nat}{t:TryA}(h:TA k m t):QR k [t.T,t.Want,t.H,t.Err]:=λq hq=>by
 rcases List.mem_cons.1 hq with rfl | hq
 . exact h.t
 rcases List.mem_cons.1 hq with rfl | hq
 . exact h.w
 rcases List.mem_cons.1 hq with rfl | hq
 . exact h.h
 rw[List.mem_singleton.1 hq];exact h.e
def tR(r:Je):Ja:=⟨tF r.Tol,tF r.Safe,tF r.Low,tF r.High,tF r.Least,r.Fine,r.Most⟩
def tK(k:Q0):Jq:=⟨tP k.Problem,tR k.Rules,tF k.Start,tF k.End,tF k.First,k.Y.map tF⟩
def F2(f:Qa):Prop:=f.N.length≤2∧f.D.length≤2
structure TskL(k:Q0):Prop where
 p:(k.Problem.Tape.Code.length≤10∧k.Problem.Tape.Outs.length≤10∧∀ c∈k.Problem.Tape.Code,c.N.N.length≤2∧c.N.D.length≤2)∧(k.Problem.Scheme.Name.length≤50∧k.Problem.Scheme.A.length≤4∧FL 4 4 k.Problem.Scheme.B∧FL 4 4 k.Problem.Scheme.C∧FL 4 4 k.Problem.Scheme.E∧∀ r∈k.Problem.Scheme.A,FL 4 4 r)∧FL 6 2 k.Problem.P
 r:F2 k.Rules.Tol∧F2 k.Rules.Safe∧F2 k.Rules.Low∧F2 k.Rules.High∧F2 k.Rules.Least
 m:k.Rules.Most≤12∨200<k.Rules.Most
 s:F2 k.Start
 e:F2 k.End
 f:F2 k.First
 y:FL 4 2 k.Y
theorem Qwv{r:Je}:∃ v,Z7 r 2=some v∧(v=false->F2 r.Tol∧F2 r.Safe∧F2 r.Low∧F2 r.High∧F2 r.Least):=by
 unfold Z7
 simp only[jn_eq]
 have e:∀ g:Qa,Jc g 2=some (!decide (g.N.length≤2∧g.D.length≤2)):=λg=>Qgi g 2
 simp only[e,sbind]
 by_cases h1:r.Tol.N.length≤2∧r.Tol.D.length≤2
 case neg=>rw[decide_eq_false h1];exact⟨true,rfl,λh=>by cases h⟩
 by_cases h2:r.Safe.N.length≤2∧r.Safe.D.length≤2
 case neg=>rw[decide_eq_true h1,decide_eq_false h2];exact⟨true,rfl,λh=>by cases h⟩
 by_cases h3:r.Low.N.length≤2∧r.Low.D.length≤2
 case neg=>rw[decide_eq_true h1,decide_eq_true h2,decide_eq_false h3];exact⟨true,rfl,λh=>by cases h⟩
 by_cases h4:r.High.N.length≤2∧r.High.D.length≤2
 case neg=>rw[decide_eq_true h1,decide_eq_true h2,decide_eq_true h3,decide_eq_false h4];exact⟨true,rfl,λh=>by cases h⟩
 by_cases h5:r.Least.N.length≤2∧r.Least.D.length≤2
 case neg=>rw[decide_eq_true h1,decide_eq_true h2,decide_eq_true h3,decide_eq_true h4,decide_eq_false h5];exact⟨true,rfl,λh=>by cases h⟩
 rw[decide_eq_true h1,decide_eq_true h2,decide_eq_true h3,decide_eq_true h4,decide_eq_true h5]
 exact⟨false,rfl,λ_=>⟨h1,h2,h3,h4,h5⟩⟩
theorem Qww{n:Nat}{k:Q0}(hn:big≤n):∃ v,Z8 n k=some v∧(v=false->TskL k):=by
 unfold Z8
 simp only[jn_eq]
 have e:∀ g:Qa,Jc g 2=some (!decide (g.N.length≤2∧g.D.length≤2)):=λg=>Qgi g 2
 obtain⟨v,e1,e2⟩:=Qwa (p:=k.Problem) (a:=10) (b:=4) (k:=2) hn (by decide) (by decide)
 rw[show((10:Nat):Int)=10 from rfl,show((4:Nat):Int)=4 from rfl,show((2:Nat):Int)=2 from rfl] at e1
 obtain⟨w,e3,e4⟩:=Qwv (r:=k.Rules)
 obtain⟨u,e5,e6⟩:=Qcf (l:=k.Y) (many:=4) (k:=2) hn (by decide)
 rw[show((4:Nat):Int)=4 from rfl,show((2:Nat):Int)=2 from rfl] at e5
 simp only[e1,e3,e5,e,sbind]
 cases v
 case true=>exact⟨true,rfl,λh=>by cases h⟩
 rw[bifF]
 by_cases c1:(300:Int)<k.Problem.Bits
 . rw[decide_eq_true c1];exact⟨true,rfl,λh=>by cases h⟩
 rw[decide_eq_false c1,bifF]
 cases w
 case true=>exact⟨true,rfl,λh=>by cases h⟩
 rw[bifF]
 have fin:(k.Rules.Most≤12∨200<k.Rules.Most)->∃ v,(bif !decide (k.Start.N.length≤2∧k.Start.D.length≤2) then some true else bif !decide (k.End.N.length≤2∧k.End.D.length≤2) then some true else bif !decide (k.First.N.length≤2∧k.First.D.length≤2) then some true else some u)=some v∧(v=false->TskL k):=λhM=>by
  by_cases h1:k.Start.N.length≤2∧k.Start.D.length≤2
  case neg=>rw[decide_eq_false h1];exact⟨true,rfl,λh=>by cases h⟩
  by_cases h2:k.End.N.length≤2∧k.End.D.length≤2
  case neg=>rw[decide_eq_true h1,decide_eq_false h2];exact⟨true,rfl,λh=>by cases h⟩
  by_cases h3:k.First.N.length≤2∧k.First.D.length≤2
  case neg=>rw[decide_eq_true h1,decide_eq_true h2,decide_eq_false h3];exact⟨true,rfl,λh=>by cases h⟩
  rw[decide_eq_true h1,decide_eq_true h2,decide_eq_true h3]
  exact⟨u,rfl,λh=>⟨e2 rfl,e4 rfl,hM,h1,h2,h3,e6 h⟩⟩
 by_cases c2:(12:Int)<k.Rules.Most
 . rw[decide_eq_true c2,bifT]
   by_cases c3:k.Rules.Most≤200
   . rw[decide_eq_true c3];exact⟨true,rfl,λh=>by cases h⟩
   rw[decide_eq_false c3,bifF]
   exact fin (.inr (by omega))
 . rw[decide_eq_false c2,bifF]
   exact fin (.inl (by omega))
theorem Q8w{k:Q0}(hB:Qea k)(h:TskL k):TskW (tK k):=by
 obtain⟨b1,b2,b3,b4,b5,b6,_⟩:=hB
 obtain⟨r1,r2,r3,r4,r5,_⟩:=b2
 obtain⟨l1,l2,l3,l4,l5⟩:=h.r
 refine⟨(Q8s (bits:=k.Problem.Bits) b1 (by decide) h.p).mono (by decide),λx hx=>?_,Fk_tF b3 h.s,Fk_tF b4 h.e,Fk_tF b5 h.f,FR_tF b6 h.y⟩
 rcases List.mem_cons.1 hx with rfl | hx
 . exact Fk_tF r1 l1
 rcases List.mem_cons.1 hx with rfl | hx
 . exact Fk_tF r2 l2
 rcases List.mem_cons.1 hx with rfl | hx
 . exact Fk_tF r3 l3
 rcases List.mem_cons.1 hx with rfl | hx
 . exact Fk_tF r4 l4
 rw[List.mem_singleton.1 hx];exact Fk_tF r5 l5
theorem Qz4{n:Nat}{k:Q0}(hn:big≤n)(h:TskL k):Qbb n k=some (tK k):=by
 obtain⟨⟨t1,t2,t3⟩,⟨s1,s2,s3,s4,s5,s6⟩,p1⟩:=h.p
 have y1:=h.y.1
 unfold Qbb Qcq J5
 rw[Qzv hn (by omega) (by omega) (by omega) (by have:=s3.1;omega) (by have:=s4.1;omega) (by have:=s5.1;omega) (λr hr=>by have:=(s6 r hr).1;omega) (by have:=p1.1;omega),sbind]
 simp only[sbind]
 rw[Qdq hn (by omega),sbind];rfl
theorem w39:W5 big=some true:=by kernel_rfl
set_option maxRecDepth 100000
set_option maxRecDepth 100000
theorem Qwx{p:Qw}{T H:Rat}{Y:List Rat}{f}(h:stepQ p T H Y=.inl f):f.Kind≠0:=by
 unfold stepQ at h
 split at h
 . exact Q68 h
 . cases h;show(2:Int)≠0;decide
def accA(l:List TryA):List TryA:=l.filter (·.Ok)
set_option maxRecDepth 100000
theorem okT_A(tr:List TryA):okT (tr.map toTryA)=(accA tr).map toTryA:=by
 unfold okT accA
 rw[List.filter_map];rfl
theorem FT_A{d:Nat}{t:TryA}(h:TA 4000 d t)(hd:d≤1000):FT 4000 (toTryA t):=⟨Qf3 (Q7g h),Qf3 h.y,by show(toR t.Y).length≤_;rw[Zl,h.l];omega⟩
theorem Qwy{p:Qw}{r:Ja}{E:Rat}:∀(m:Nat) (tr:List TryA) (T:Rat) (Y:List Rat) (W:Rat),(adaptQ p r E m tr T Y W).2.Kind=0->(adaptQ p r E m tr T Y W).2=⟨0,0,0,0⟩
 | 0,tr,T,Y,W,h=>by
   by_cases hT:T=E
   . simp only[adaptQ,if_pos hT]
   . simp only[adaptQ,if_neg hT] at h;exact absurd h (by decide)
 | m+1,tr,T,Y,W,h=>by
   by_cases hT:T=E
   . simp only[adaptQ,if_pos hT]
   simp only[adaptQ,if_neg hT] at h ⊢
   cases hu:dP (underQ r W)
   case true=>rw[hu] at h;exact absurd h (show ¬(4:Int)=0 by decide)
   rw[hu,bifF] at h
   rw[bifF]
   cases hs:stepQ p T (cutQ T E W) Y with
   | inl f=>rw[hs] at h;exact absurd h (show ¬ f.Kind=0 from Qwx hs)
   | inr z=>
     rw[hs] at h
     exact Qwy m _ _ _ _ h
set_option maxRecDepth 100000
theorem Q7h{f:Qe}(h:¬ f.Kind=0):Q7 f ⟨0,0,0,0⟩=false:=Qzb h
set_option maxRecDepth 100000
theorem Qyd{n k:Nat}{f:Qa}(hn:big≤n)(hk:k<274877906944)(h1:1≤k)(hf:Fk k (tF f)):Vl n f=some (!dP (numR (tF f))):=by
 unfold Vl
 simp only[jn_eq]
 rw[Qu2 _ hn hk h1 hf,bifnP]
 unfold numR
 by_cases c:tF f=toF (fv (tF f))
 . rw[if_pos c]
   have hr:rF (fr f)=f:=Qlq.2 c
   have hs:=Qgg (q:=fr f) hn hk (qw_fr (Fk_wd hf) h1)
   rw[hr] at hs
   rw[hs,sbind,fr_tF]
   by_cases c2:qz (fr f)≤190
   . rw[decide_eq_false (by omega),dP_t ⟨c,c2⟩];rfl
   . rw[decide_eq_true (by omega),dP_f λg=>c2 g.2];rfl
 . rw[if_neg c,dP_f λg=>c g.1];rfl
theorem Qva{n:Nat}{r:Je}(hn:big≤n)(hw:RulW 2 (tR r)):∃ w,Zt n r=some w∧decide (w=0)=dP (RulR (tR r)):=by
 obtain⟨w1,w2,w3,w4,w5⟩:=hw.all
 unfold Zt
 simp only[jn_eq]
 rw[Qj9 hn,sbind]
 have bad:∀ {f:Qa},Fk 2 (tF f)->Vl n f=some (!dP (numR (tF f))):=λh=>Qyd hn (by decide) (by decide) h
 have no:¬ RulR (tR r)->∀ w:Int,w≠0->∃ v,some w=some v∧decide (v=0)=dP (RulR (tR r)):=λh w hw=>⟨w,rfl,by rw[dP_f h,decide_eq_false hw]⟩
 rw[bad (f:=r.Tol) w1,sbind]
 by_cases n1:numR (tF r.Tol)
 case neg=>rw[dP_f n1];exact no (λh=>n1 (h.f _ (by show tF r.Tol∈[tF r.Tol,tF r.Safe,tF r.Low,tF r.High,tF r.Least];simp))) 1 (by decide)
 rw[dP_t n1,Bool.not_true,bifF,bad (f:=r.Safe) w2,sbind]
 by_cases n2:numR (tF r.Safe)
 case neg=>rw[dP_f n2];exact no (λh=>n2 (h.f _ (by show tF r.Safe∈[tF r.Tol,tF r.Safe,tF r.Low,tF r.High,tF r.Least];simp))) 1 (by decide)
 rw[dP_t n2,Bool.not_true,bifF,bad (f:=r.Low) w3,sbind]
 by_cases n3:numR (tF r.Low)
 case neg=>rw[dP_f n3];exact no (λh=>n3 (h.f _ (by show tF r.Low∈[tF r.Tol,tF r.Safe,tF r.Low,tF r.High,tF r.Least];simp))) 1 (by decide)
 rw[dP_t n3,Bool.not_true,bifF,bad (f:=r.High) w4,sbind]
 by_cases n4:numR (tF r.High)
 case neg=>rw[dP_f n4];exact no (λh=>n4 (h.f _ (by show tF r.High∈[tF r.Tol,tF r.Safe,tF r.Low,tF r.High,tF r.Least];simp))) 1 (by decide)
 rw[dP_t n4,Bool.not_true,bifF,bad (f:=r.Least) w5,sbind]
 by_cases n5:numR (tF r.Least)
 case neg=>rw[dP_f n5];exact no (λh=>n5 (h.f _ (by show tF r.Least∈[tF r.Tol,tF r.Safe,tF r.Low,tF r.High,tF r.Least];simp))) 1 (by decide)
 rw[dP_t n5,Bool.not_true,bifF]
 have f0:fracsR (tR r):=λx hx=>by
  have hx':x∈[tF r.Tol,tF r.Safe,tF r.Low,tF r.High,tF r.Least]:=hx
  rcases List.mem_cons.1 hx' with rfl | hx'
  . exact n1
  rcases List.mem_cons.1 hx' with rfl | hx'
  . exact n2
  rcases List.mem_cons.1 hx' with rfl | hx'
  . exact n3
  rcases List.mem_cons.1 hx' with rfl | hx'
  . exact n4
  rw[List.mem_singleton.1 hx'];exact n5
 have q2:=qw_fr (Fk_wd w2) (show 1≤2 by decide)
 have q3:=qw_fr (Fk_wd w3) (show 1≤2 by decide)
 have q4:=qw_fr (Fk_wd w4) (show 1≤2 by decide)
 have g1:J2 r.Tol=some (fr r.Tol).num.sign:=by have:=Qce (fr r.Tol);rwa [Qbi n1] at this
 have g2:J2 r.Safe=some (fr r.Safe).num.sign:=by have:=Qce (fr r.Safe);rwa [Qbi n2] at this
 have g3:J2 r.Low=some (fr r.Low).num.sign:=by have:=Qce (fr r.Low);rwa [Qbi n3] at this
 have g5:J2 r.Least=some (fr r.Least).num.sign:=by have:=Qce (fr r.Least);rwa [Qbi n5] at this
 have k1:qw (1:Rat)≤2:=by rw[Qwq];decide
 have h2:Q4 n r.Safe (rF 1)=some (fr r.Safe - 1).num.sign:=by have:=Xw (p:=fr r.Safe) (q:=1) (k:=2) hn (by decide) q2 k1;rwa [Qbi n2] at this
 have h3:Q4 n r.Low (rF 1)=some (fr r.Low - 1).num.sign:=by have:=Xw (p:=fr r.Low) (q:=1) (k:=2) hn (by decide) q3 k1;rwa [Qbi n3] at this
 have h4:Q4 n r.High (rF 1)=some (fr r.High - 1).num.sign:=by have:=Xw (p:=fr r.High) (q:=1) (k:=2) hn (by decide) q4 k1;rwa [Qbi n4] at this
 rw[g1,sbind]
 by_cases c2:(fr r.Tol).num.sign<0
 . rw[decide_eq_true c2];exact no (λh=>by have:0≤(fr r.Tol).num.sign:=h.tol;omega) 2 (by decide)
 rw[decide_eq_false c2,bifF,g2,sbind]
 by_cases c3:(fr r.Safe).num.sign≤0
 . rw[decide_eq_true c3];exact no (λh=>by have:0<(fr r.Safe).num.sign:=h.safe;omega) 3 (by decide)
 rw[decide_eq_false c3,bifF,h2,sbind]
 by_cases c4:0<(fr r.Safe - 1).num.sign
 . rw[decide_eq_true c4];exact no (λh=>by have:(fr r.Safe - 1).num.sign≤0:=h.safe1;omega) 3 (by decide)
 rw[decide_eq_false c4,bifF,g3,sbind]
 by_cases c5:(fr r.Low).num.sign≤0
 . rw[decide_eq_true c5];exact no (λh=>by have:0<(fr r.Low).num.sign:=h.low;omega) 4 (by decide)
 rw[decide_eq_false c5,bifF,h3,sbind]
 by_cases c6:0≤(fr r.Low - 1).num.sign
 . rw[decide_eq_true c6];exact no (λh=>by have:(fr r.Low - 1).num.sign<0:=h.low1;omega) 4 (by decide)
 rw[decide_eq_false c6,bifF,h4,sbind]
 by_cases c7:(fr r.High - 1).num.sign<0
 . rw[decide_eq_true c7];exact no (λh=>by have:0≤(fr r.High - 1).num.sign:=h.high;omega) 5 (by decide)
 rw[decide_eq_false c7,bifF,g5,sbind]
 by_cases c8:(fr r.Least).num.sign≤0
 . rw[decide_eq_true c8];exact no (λh=>by have:0<(fr r.Least).num.sign:=h.least;omega) 6 (by decide)
 rw[decide_eq_false c8,bifF]
 by_cases c9:r.Fine<1
 . rw[decide_eq_true c9];exact no (λh=>by have:1≤r.Fine:=h.fine.1;omega) 7 (by decide)
 rw[decide_eq_false c9,bifF]
 by_cases c10:1024<r.Fine
 . rw[decide_eq_true c10];exact no (λh=>by have:r.Fine≤1024:=h.fine.2;omega) 7 (by decide)
 rw[decide_eq_false c10,bifF]
 by_cases c11:r.Most<1
 . rw[decide_eq_true c11];exact no (λh=>by have:1≤r.Most:=h.most.1;omega) 8 (by decide)
 rw[decide_eq_false c11,bifF]
 by_cases c12:200<r.Most
 . rw[decide_eq_true c12];exact no (λh=>by have:r.Most≤200:=h.most.2;omega) 8 (by decide)
 rw[decide_eq_false c12,bifF]
 have d2:0<(fr r.Safe).num.sign:=by omega
 have d1:0≤(fr r.Tol).num.sign:=by omega
 have d3:(fr r.Safe - 1).num.sign≤0:=by omega
 have d4:0<(fr r.Low).num.sign:=by omega
 have d5:(fr r.Low - 1).num.sign<0:=by omega
 have d6:0≤(fr r.High - 1).num.sign:=by omega
 have d7:0<(fr r.Least).num.sign:=by omega
 have d8:1≤r.Fine∧r.Fine≤1024:=by omega
 have d9:1≤r.Most∧r.Most≤200:=by omega
 exact⟨0,rfl,by rw[dP_t (show RulR (tR r) from⟨f0,d1,d2,d3,d4,d5,d6,d7,d8,d9⟩)];rfl⟩
theorem Qye{n k:Nat}{T E W:Rat}(hn:big≤n)(hk:k<100000000)(hT:qw T≤k)(hE:qw E≤k)(hW:qw W≤k):Y3 n (rF T) (rF E) (rF W)=some (rF (cutQ T E W)):=by
 unfold Y3 cutQ
 have h1:=Qg6 hT hW
 rw[Qau (k:=k) hn (by omega) hT hW,sbind,Xw (k:=k+k+1) hn (by omega) h1 (by omega),sbind,show T+W - E=W - (E - T) by grind]
 by_cases h:0<(W - (E - T)).num.sign
 . rw[decide_eq_true h,if_pos h,bifT,Qhj (k:=k) hn (by omega) hE hT,sbind]
 . rw[decide_eq_false h,if_neg h];rfl
theorem Qvb{n k:Nat}{x:Rat}(hn:big≤n)(hk:k<1000000000)(hx:qw x≤k)(h0:0≤x.num):Zv n (rF x)=some (rW (floorQ x)):=by
 have a1:=Qas x
 have a2:=Qcl x
 have hd:=x.den_nz
 unfold Zv Qcs Qbm Qb8 Qb9
 simp only[jn_eq]
 unfold rF
 rw[sbind]
 simp only[]
 have hlq:(toL (x.num.natAbs / x.den)).length≤k:=Nat.le_trans (K3 (Nat.div_le_self _ _)) (by omega)
 rw[Qqm hn (by omega) (by omega) (Qy _) (Qy _) (by rw[Qo];exact hd),sbind,Qo,Qo,decide_eq_false (show ¬ x.num<0 by omega),show((false:Bool) != false)=false from rfl,bifF]
 simp only[bifF]
 rw[Qbg hn (Qy _) (by simp only[];omega),sbind]
 have e1:wy ⟨false,toL (x.num.natAbs / x.den)⟩=floorQ x:=by
  unfold wy floorQ
  simp only[Qo,Bool.false_eq_true,if_false]
  rw[Int.natCast_ediv]
  congr 1;omega
 rw[e1]
 have hfl:(toL (floorQ x).natAbs).length≤k:=Nat.le_trans (K3 (Qo2 _)) (by omega)
 unfold rW
 simp only[]
 have m1:=@Yq (floorQ x).natAbs x.den
 rw[Zj hn (by omega) (by omega) (Qy _) (Qy _),sbind,Qo,Qo,Qbg hn (Qy _) (by simp only[];omega),sbind]
 generalize hz:wy ⟨decide (floorQ x<0) != false,toL ((floorQ x).natAbs*x.den)⟩=z
 have hzl:(toL z.natAbs).length≤2*k:=by
  have:z.natAbs=(floorQ x).natAbs*x.den:=by
   rw[←hz];unfold wy;simp only[Qo];split<;>omega
  rw[this];omega
 rw[sbind]
 unfold rW
 simp only[]
 rw[Qbg hn (Qy _) (by simp only[];omega),sbind,sbind]
 generalize hy:wy ⟨!decide (z<0),toL z.natAbs⟩=y
 have hyl:(toL y.natAbs).length≤2*k:=by
  have:y.natAbs=z.natAbs:=by
   rw[←hy];unfold wy;simp only[Qo];split<;>omega
  rw[this];omega
 unfold rW
 rw[Qqp hn (Qy _) (Qy _) (by simp only[];omega) (by simp only[];omega),sbind,sbind]
set_option maxRecDepth 100000
theorem Q7i{q:Rat}(h:0≤q):0≤floorQ q:=by
 unfold floorQ
 exact Int.ediv_nonneg (Rat.num_nonneg.2 h) (Int.natCast_nonneg _)
theorem Q54{z:Int}{d:Nat}(hd:d≠0):mkRat z d=(z:Rat) / ((d:Int):Rat):=by
 have h1:((z:Rat))=mkRat z 1:=by rw[←Rat.mkRat_self (z:Rat)];rfl
 have h2:(((d:Int):Rat))=mkRat (d:Int) 1:=by rw[←Rat.mkRat_self ((d:Int):Rat)];rfl
 rw[Rat.div_def,h1,h2,Qs4 (by omega) (by decide),Int.sign_eq_one_of_pos (by omega),Rat.mkRat_mul_mkRat]
 simp
theorem Q8x{x:Rat}{fine:Int}(hf:1≤fine∧fine≤1024):downQ x fine=(floorQ (x*(fine:Rat)):Rat) / (fine:Rat):=by
 unfold downQ
 rw[Q54 (by omega),show((fine.toNat:Nat):Int)=fine by omega]
theorem Jag{z:Int}(hz:0≤z):fr ⟨false,toL z.natAbs,[1]⟩=(z:Rat):=by
 unfold fr
 simp only[Qo,Bool.false_eq_true,if_false]
 rw[show val [1]=1 from rfl,show((z.natAbs:Nat):Int)=z by omega]
 rw[←Rat.mkRat_self (z:Rat)];rfl
theorem Qt8{n k:Nat}{r:Je}{e:Rat}(hn:big≤n)(h1:2≤k)(hk:k<1000000)(hw:RulW 2 (tR r))(hr:RulR (tR r))(he:qw e≤k)(he0:0≤e):Xt n r (rF e)=some (rF (factorQ (tR r) e)):=by
 obtain⟨w1,w2,w3,w4,w5⟩:=hw.all
 have q1:=qw_fr (Fk_wd w1) (show 1≤2 by decide)
 have q2:=qw_fr (Fk_wd w2) (show 1≤2 by decide)
 have q3:=qw_fr (Fk_wd w3) (show 1≤2 by decide)
 have q4:=qw_fr (Fk_wd w4) (show 1≤2 by decide)
 have n1:rF (fr r.Tol)=r.Tol:=Qbi (hr.f _ (by show tF r.Tol∈[tF r.Tol,tF r.Safe,tF r.Low,tF r.High,tF r.Least];simp))
 have n2:rF (fr r.Safe)=r.Safe:=Qbi (hr.f _ (by show tF r.Safe∈[tF r.Tol,tF r.Safe,tF r.Low,tF r.High,tF r.Least];simp))
 have n3:rF (fr r.Low)=r.Low:=Qbi (hr.f _ (by show tF r.Low∈[tF r.Tol,tF r.Safe,tF r.Low,tF r.High,tF r.Least];simp))
 have n4:rF (fr r.High)=r.High:=Qbi (hr.f _ (by show tF r.High∈[tF r.Tol,tF r.Safe,tF r.Low,tF r.High,tF r.Least];simp))
 have hf:1≤r.Fine∧r.Fine≤1024:=hr.fine
 have s1:0≤fr r.Tol:=Q52.1 hr.tol
 have s2:0<fr r.Safe:=Qnv.1 hr.safe
 have s3:fr r.Low<1:=sg_lt.1 hr.low1
 have s4:1≤fr r.High:=sg_ge.1 hr.high
 have fF:factorQ (tR r) e=if e=0 then fr r.High else if (downQ (fr r.Safe*fr r.Tol / e) r.Fine - fr r.Low).num.sign<0 then fr r.Low else if 0<(downQ (fr r.Safe*fr r.Tol / e) r.Fine - fr r.High).num.sign then fr r.High else downQ (fr r.Safe*fr r.Tol / e) r.Fine:=rfl
 unfold Xt
 simp only[jn_eq]
 rw[Qge,sbind,fF]
 by_cases h0:e=0
 . rw[decide_eq_true h0,if_pos h0,bifT,n4]
 rw[decide_eq_false h0,if_neg h0,bifF]
 have hfw:qw (r.Fine:Rat)≤1:=Qtt (by omega) (Qnu hf)
 have m1:=Qab q2 q1
 have m2:=Qab m1 hfw
 have m3:=Qs3 m2 he
 have eM:Jx n r.Safe r.Tol=some (rF (fr r.Safe*fr r.Tol)):=by
  have:=Zk (p:=fr r.Safe) (q:=fr r.Tol) (k:=2) hn (by decide) q2 q1
  rwa [n1,n2] at this
 rw[Qj8 hn (by omega) (by omega),sbind,eM,sbind,Zk (k:=4) hn (by decide) m1 (by omega),sbind,Qhl (k:=k+5) hn (by omega) (by omega) (by omega),sbind]
 have ex:fr r.Safe*fr r.Tol*(r.Fine:Rat) / e=fr r.Safe*fr r.Tol / e*(r.Fine:Rat):=by rw[Rat.div_def,Rat.div_def];grind
 rw[ex] at m3 ⊢
 have epos:0<e:=Rat.lt_iff_le_and_ne.2 ⟨he0,λh=>h0 h.symm⟩
 have x0:0≤fr r.Safe*fr r.Tol / e*(r.Fine:Rat):=by
  have a1:0≤fr r.Safe*fr r.Tol:=Rat.mul_nonneg (Rat.le_of_lt s2) s1
  have a2:0≤e⁻¹:=Rat.le_of_lt (Rat.inv_pos.2 epos)
  have a3:(0:Rat)≤(r.Fine:Rat):=by exact_mod_cast (show(0:Int)≤r.Fine by omega)
  rw[Rat.div_def]
  exact Rat.mul_nonneg (Rat.mul_nonneg a1 a2) a3
 rw[Qvb (k:=k+5) hn (by omega) (by omega) (Rat.num_nonneg.2 x0),sbind]
 have z0:=Q7i x0
 have zl:(toL (floorQ (fr r.Safe*fr r.Tol / e*(r.Fine:Rat))).natAbs).length≤k+5:=Nat.le_trans (K3 (Qo2 _)) (Nat.le_trans (Qas _) (by omega))
 rw[Q8x hf]
 generalize floorQ (fr r.Safe*fr r.Tol / e*(r.Fine:Rat))=z at *
 rw[Qbg hn (Qy _) (by unfold rW;simp only[];omega),sbind,wy_rW]
 unfold rW
 simp only[]
 rw[Wl hn (Qy _) (λx hx=>by rw[List.mem_singleton.1 hx];decide) (by simp only[];omega) (by simp),sbind,Jag z0]
 have zq:qw (z:Rat)≤k+5:=Qtt (by omega) zl
 have dq:=Qs3 zq hfw
 have c1:Q4 n (rF ((z:Rat) / (r.Fine:Rat))) r.Low=some ((z:Rat) / (r.Fine:Rat) - fr r.Low).num.sign:=by
  have:=Xw (p:=(z:Rat) / (r.Fine:Rat)) (q:=fr r.Low) (k:=k+6) hn (by omega) (by omega) (by omega)
  rwa [n3] at this
 have c2:Q4 n (rF ((z:Rat) / (r.Fine:Rat))) r.High=some ((z:Rat) / (r.Fine:Rat) - fr r.High).num.sign:=by
  have:=Xw (p:=(z:Rat) / (r.Fine:Rat)) (q:=fr r.High) (k:=k+6) hn (by omega) (by omega) (by omega)
  rwa [n4] at this
 have c3:Q4 n r.Low r.High=some (fr r.Low - fr r.High).num.sign:=by
  have:=Xw (p:=fr r.Low) (q:=fr r.High) (k:=2) hn (by omega) q3 q4
  rwa [n3,n4] at this
 rw[Qhl (k:=k+5) hn (by omega) zq (by omega),sbind,c1,sbind]
 by_cases g1:((z:Rat) / (r.Fine:Rat) - fr r.Low).num.sign<0
 . have g3:¬ 0<(fr r.Low - fr r.High).num.sign:=λh=>by have:=sg_gt.1 h;grind
   rw[decide_eq_true g1,if_pos g1,bifT,c3,sbind,decide_eq_false g3,bifF,n3]
 rw[decide_eq_false g1,if_neg g1,bifF,c2,sbind]
 by_cases g2:0<((z:Rat) / (r.Fine:Rat) - fr r.High).num.sign
 . rw[decide_eq_true g2,if_pos g2,bifT,n4]
 . rw[decide_eq_false g2,if_neg g2,bifF]
set_option maxRecDepth 100000
def toTryAr(t:TryA):Qr:=⟨rF t.T,rF t.Want,rF t.H,rF t.Err,rR t.Y,t.Ok⟩
abbrev RfS:=(List Qr)×Qa×(List Qa)×Qa×Int
abbrev RfT:=(List Qr)×Qa×(List Qa)
def rfBody(n:Nat)(x0:Q0)(s57:RfS):Option (Lp RfS (Lp RfT (Qm×X7))):=
    (Jb n s57.2.1 x0.End).bind λr58=>
    bif !r58 then (
     bif decide (x0.Rules.Most<s57.2.2.2.2) then (
      some (Lp.out (Lp.out (((⟨s57.1,s57.2.1,s57.2.2.1⟩:Qm),(⟨(5:Int),s57.2.2.2.2,(0:Int),(0:Int)⟩:X7))))))
     else (
      (Q4 n s57.2.2.2.1 x0.Rules.Least).bind λr60=>
      bif decide (r60<(0:Int)) then (
       some (Lp.out (Lp.out (((⟨s57.1,s57.2.1,s57.2.2.1⟩:Qm),(⟨(4:Int),s57.2.2.2.2,(0:Int),(0:Int)⟩:X7))))))
      else (
       (Y3 n s57.2.1 x0.End s57.2.2.2.1).bind λr62=>
       (Zf n x0.Problem s57.2.1 r62 s57.2.2.1).bind λr64=>
       bif !decide (r64.2.a0=(0:Int)) then (
        some (Lp.out (Lp.out (((⟨s57.1,s57.2.1,s57.2.2.1⟩:Qm),(⟨r64.2.a0,s57.2.2.2.2,r64.2.a1,r64.2.a2⟩:X7))))))
       else (
        (Y2 n r64.1.Err).bind λr66=>
        (Q4 n r66 x0.Rules.Tol).bind λr68=>
        (some (([(⟨s57.2.1,s57.2.2.2.1,r62,r66,s57.2.2.1,decide (r68≤(0:Int))⟩:Qr)]:List Qr))).bind λz70=>
        (appM 256 s57.1 z70).bind λy71=>
        jn (λ(j75:(Qa×(List Qa))->Option _)=>
         bif decide (r68≤(0:Int)) then (
          (Kk n s57.2.1 r62).bind λr78=>
          j75 (r78,r64.1.Next))
         else (
          j75 (s57.2.1,s57.2.2.1))) (λ(s77:Qa×(List Qa))=>
         (Xt n x0.Rules r66).bind λr80=>
         (Jx n r62 r80).bind λr82=>
         some (Lp.go (y71,s77.1,s77.2,r82,wrap64 (s57.2.2.2.2+(1:Int)))))))))
    else (
     some (Lp.out (Lp.go (s57.1,s57.2.1,s57.2.2.1))))
theorem Q4d(n:Nat)(x0:Q0):Qaa n x0=(loopM (rfBody n x0) n (([]:List Qr),x0.Start,x0.Y,x0.First,(1:Int))).bind (lpK λ(t55:RfT)=>
 some ((⟨t55.1,t55.2.1,t55.2.2⟩:Qm),(⟨0,0,0,0⟩:X7))):=Eq.symm (Eq.symm rfl)
def toA4(f:Qe):X7:=⟨f.Kind,f.Step,f.Stage,f.At⟩
theorem Q8y{n:Nat}{p:Qv}{r:Je}{S E W0:Rat}{Y0:List Rat}(hn:big≤n)(hp:PrbWr 4000 p)(hpr:prbR (tP p))(hw:RulW 2 (tR r))(hr:RulR (tR r))(hE:qw E≤2):∀(m:Nat) (tr:List TryA) (T:Rat) (Y:List Rat) (W:Rat) (n':Nat),
 ((tr.length+m:Nat):Int)=r.Most->tr.length+m≤12->m<n'->qw T≤(gA tr.length).1->qw W≤(gA tr.length).2->QR 129 Y->(Y.length:Int)=p.Tape.Dim->Y.length≤1000 →
 (loopM (rfBody n ⟨p,r,rF S,rF E,rF W0,rR Y0⟩) n' (tr.map toTryAr,rF T,rR Y,rF W,((tr.length+1:Nat):Int))).bind (lpK λ(t55:RfT)=>
  some ((⟨t55.1,t55.2.1,t55.2.2⟩:Qm),(⟨0,0,0,0⟩:X7))) =
  some (⟨(adaptQ (tP p) (tR r) E m tr T Y W).1.1.map toTryAr,rF (adaptQ (tP p) (tR r) E m tr T Y W).1.2.1,rR (adaptQ (tP p) (tR r) E m tr T Y W).1.2.2⟩,toA4 (adaptQ (tP p) (tR r) E m tr T Y W).2):=by
 obtain⟨w1,w2,w3,w4,w5⟩:=hw.all
 have q1:=qw_fr (Fk_wd w1) (show 1≤2 by decide)
 have q5:=qw_fr (Fk_wd w5) (show 1≤2 by decide)
 have n1:rF (fr r.Tol)=r.Tol:=Qbi (hr.f _ (by show tF r.Tol∈[tF r.Tol,tF r.Safe,tF r.Low,tF r.High,tF r.Least];simp))
 have n5:rF (fr r.Least)=r.Least:=Qbi (hr.f _ (by show tF r.Least∈[tF r.Tol,tF r.Safe,tF r.Low,tF r.High,tF r.Least];simp))
 have same:∀ {T:Rat},qw T≤3000->Jb n (rF T) (rF E)=some (decide (T=E)):=λhT=>Qnk (k:=3000) hn (by decide) hT
 have under:∀ {W:Rat},qw W≤3000->Q4 n (rF W) r.Least=some (W - fr r.Least).num.sign:=λhW=>by
  have:=Xw (p:=_) (q:=fr r.Least) (k:=3000) hn (by decide) hW (by omega)
  rwa [n5] at this
 have acc:∀ {e:Rat},qw e≤129->Q4 n (rF e) r.Tol=some (e - fr r.Tol).num.sign:=λhe=>by
  have:=Xw (p:=_) (q:=fr r.Tol) (k:=129) hn (by decide) he (by omega)
  rwa [n1] at this
 intro m
 induction m with
 | zero=>
   intro tr T Y W n' hm h12 hn' hT hW hY hYl hY1
   obtain⟨b1,b2⟩:=gA_le tr.length (by omega)
   unfold adaptQ
   by_cases hTE:T=E
   . rw[Wb (t:=Lp.go (tr.map toTryAr,rF T,rR Y)) (by unfold rfBody;rw[same (by omega),sbind,decide_eq_true hTE];rfl) (by omega),if_pos hTE];rfl
   . rw[Wb (t:=Lp.out (⟨tr.map toTryAr,rF T,rR Y⟩,⟨5,((tr.length+1:Nat):Int),0,0⟩)) (by unfold rfBody;rw[same (by omega),sbind,decide_eq_false hTE,Bool.not_false,bifT,decide_eq_true (show r.Most<((tr.length+1:Nat):Int) by omega),bifT]) (by omega),if_neg hTE];rfl
 | succ m ih=>
   intro tr T Y W n' hm h12 hn' hT hW hY hYl hY1
   obtain⟨b1,b2⟩:=gA_le tr.length (by omega)
   by_cases hTE:T=E
   . rw[Wb (t:=Lp.go (tr.map toTryAr,rF T,rR Y)) (by unfold rfBody;rw[same (by omega),sbind,decide_eq_true hTE];rfl) (by omega)]
     unfold adaptQ
     rw[if_pos hTE];rfl
   by_cases hu:underQ (tR r) W
   . have hu':(W - fr r.Least).num.sign<0:=hu
     rw[Wb (t:=Lp.out (⟨tr.map toTryAr,rF T,rR Y⟩,⟨4,((tr.length+1:Nat):Int),0,0⟩)) (by unfold rfBody;rw[same (by omega),sbind,decide_eq_false hTE,Bool.not_false,bifT,decide_eq_false (show ¬ r.Most<((tr.length+1:Nat):Int) by omega),bifF,under (by omega),sbind,decide_eq_true hu',bifT]) (by omega)]
     unfold adaptQ
     rw[if_neg hTE,dP_t hu];rfl
   have hu':¬(W - fr r.Least).num.sign<0:=hu
   obtain⟨c1,c2⟩:=Qyc (E:=E) hT hE hW
   have hst:=Qwt tr.length
   have hcut:qw (cutQ T E W)≤3900:=by omega
   have d1:=Qz1 (k:=4000) (p:=p) (T:=T) (H:=cutQ T E W) (Y:=Y) hn (by decide) (by decide) hp hpr (by omega) (by omega) (X6 hY (by decide)) hYl
   rw[←Q69 hpr hYl] at d1
   have hCut:=Qye (k:=3900) (T:=T) (E:=E) (W:=W) hn (by decide) (by omega) (by omega) (by omega)
   cases hs:stepQ (tP p) T (cutQ T E W) Y with
   | inl f=>
     have hk:=Qwx hs
     rw[hs] at d1
     rw[Wb (t:=Lp.out (⟨tr.map toTryAr,rF T,rR Y⟩,⟨f.Kind,((tr.length+1:Nat):Int),f.Stage,f.At⟩)) (by
      unfold rfBody
      rw[same (by omega),sbind,decide_eq_false hTE,Bool.not_false,bifT,decide_eq_false (show ¬ r.Most<((tr.length+1:Nat):Int) by omega),bifF,under (by omega),sbind,decide_eq_false hu',bifF,hCut,sbind,d1,sbind]
      simp only[]
      rw[decide_eq_false hk,Bool.not_false,bifT]) (by omega)]
     unfold adaptQ
     rw[if_neg hTE,dP_f hu,bifF,hs];rfl
   | inr z=>
     rw[hs] at d1
     obtain⟨_,_,z1,z2,z3⟩:=Qu6 hs
     have hne:=Qtc (k:=129) (l:=z.err) (by decide) z3
     have hfa:=Qrt hr (j:=2) (qw_fv w3 (by decide)) (qw_fv w4 (by decide)) (normQ z.err)
     have hml:=Qab c1 hfa
     obtain⟨n',rfl⟩:∃ q,n'=q+1:=⟨n' - 1,by omega⟩
     have hlen:(tr++[tryA (tR r) E T Y W z]).length=tr.length+1:=by simp
     have hnn:0≤normQ z.err:=Rat.num_nonneg.1 (Q7c _)
     have hdec:decide ((normQ z.err - fr r.Tol).num.sign≤0)=dP (accQ (tR r) (normQ z.err)):=by rw[decP];rfl
     have herl:z.err.length≤1000000:=by have:=Q50 hs;omega
     have hgo:rfBody n ⟨p,r,rF S,rF E,rF W0,rR Y0⟩ (tr.map toTryAr,rF T,rR Y,rF W,((tr.length+1:Nat):Int))=some (Lp.go ((tr++[tryA (tR r) E T Y W z]).map toTryAr,rF (bif dP (accQ (tR r) (normQ z.err)) then T+cutQ T E W else T),rR (bif dP (accQ (tR r) (normQ z.err)) then z.next else Y),rF (cutQ T E W*factorQ (tR r) (normQ z.err)),((tr.length+1+1:Nat):Int))):=by
      unfold rfBody
      simp only[jn_eq]
      rw[same (by omega),sbind,decide_eq_false hTE,Bool.not_false,bifT,decide_eq_false (show ¬ r.Most<((tr.length+1:Nat):Int) by omega),bifF,under (by omega),sbind,decide_eq_false hu',bifF,hCut,sbind,d1,sbind]
      simp only[]
      rw[decide_eq_true trivial,Bool.not_true,bifF,show(toMr z).Err=rR z.err from rfl,show(toMr z).Next=rR z.next from rfl,Qx1 (k:=129) hn (by decide) (by decide) z3 herl,sbind,acc hne,sbind,sbind,Wz (by simp;omega) (by simp;omega),sbind,hdec]
      have e1:tr.map toTryAr++[(⟨rF T,rF W,rF (cutQ T E W),rF (normQ z.err),rR Y,dP (accQ (tR r) (normQ z.err))⟩:Qr)]=(tr++[tryA (tR r) E T Y W z]).map toTryAr:=by rw[List.map_append];rfl
      rw[e1,Qau (k:=3900) hn (by decide) (by omega) hcut,Qt8 (k:=129) hn (by decide) (by decide) hw hr hne hnn,sbind,sbind,Zk (k:=3900) hn (by decide) hcut (by omega),show wrap64 (((tr.length+1:Nat):Int)+1)=((tr.length+1+1:Nat):Int) from Go.Proofs.YtlihkcaoachkdaaGreatDoor.w1 (by omega)]
      cases dP (accQ (tR r) (normQ z.err))
      . rw[bifF,sbind,Zk (k:=3900) hn (by decide) hcut (by omega)];rfl
      . rfl
     rw[Qhf hgo]
     have hq:adaptQ (tP p) (tR r) E (m+1) tr T Y W=adaptQ (tP p) (tR r) E m (tr++[tryA (tR r) E T Y W z]) (bif dP (accQ (tR r) (normQ z.err)) then T+cutQ T E W else T) (bif dP (accQ (tR r) (normQ z.err)) then z.next else Y) (cutQ T E W*factorQ (tR r) (normQ z.err)):=by
      conv=>lhs;unfold adaptQ
      rw[if_neg hTE,dP_f hu,bifF,hs]
     rw[hq]
     have:=ih (tr++[tryA (tR r) E T Y W z]) (bif dP (accQ (tR r) (normQ z.err)) then T+cutQ T E W else T) (bif dP (accQ (tR r) (normQ z.err)) then z.next else Y) (cutQ T E W*factorQ (tR r) (normQ z.err)) n' (by rw[hlen];omega) (by rw[hlen];omega) (by omega) (by
      rw[hlen]
      show qw _≤(gA tr.length).1+(gA tr.length).2+1
      cases dP (accQ (tR r) (normQ z.err))
      . rw[bifF];omega
      . rw[bifT];omega) (by
      rw[hlen]
      show qw _≤max ((gA tr.length).1+3) (gA tr.length).2+3
      omega) (by
      cases dP (accQ (tR r) (normQ z.err))
      . exact hY
      . exact z1) (by
      cases dP (accQ (tR r) (normQ z.err))
      . exact hYl
      . rw[bifT,z2];exact hYl) (by
      cases dP (accQ (tR r) (normQ z.err))
      . exact hY1
      . rw[bifT,z2];exact hY1)
     rw[hlen] at this
     exact this
set_option maxRecDepth 100000
theorem Qwz{n:Nat}{p:Qv}{r:Je}{S E W0:Rat}{Y0:List Rat}(hn:big≤n)(hp:PrbWr 4000 p)(hpr:prbR (tP p))(hw:RulW 2 (tR r))(hr:RulR (tR r))(hM:r.Most≤12)(hS:qw S≤2)(hE:qw E≤2)(hW:qw W0≤2)(hY:QR 129 Y0)(hYl:(Y0.length:Int)=p.Tape.Dim)(hY1:Y0.length≤1000):
 Qaa n ⟨p,r,rF S,rF E,rF W0,rR Y0⟩=some (⟨(adaptQ (tP p) (tR r) E r.Most.toNat [] S Y0 W0).1.1.map toTryAr,rF (adaptQ (tP p) (tR r) E r.Most.toNat [] S Y0 W0).1.2.1,rR (adaptQ (tP p) (tR r) E r.Most.toNat [] S Y0 W0).1.2.2⟩,toA4 (adaptQ (tP p) (tR r) E r.Most.toNat [] S Y0 W0).2):=by
 rw[Q4d]
 have hm:1≤r.Most:=hr.most.1
 exact Q8y (S:=S) (W0:=W0) (Y0:=Y0) hn hp hpr hw hr hE r.Most.toNat [] S Y0 W0 n (by simp;omega) (by simp;omega) (by unfold big at hn;omega) hS hW hY hYl hY1
theorem is_A{n d:Nat}{tr:List TryA}{T:Rat}{Y:List Rat}(hn:big≤n)(ht:∀ t∈tr,TA 4000 d t)(hd:d≤1000)(hl:tr.length≤1000)(hT:qw T≤4000)(hY:QR 4000 Y)(hYl:Y.length≤1000):
 Vh n (mA tr T Y) ⟨tr.map toTryAr,rF T,rR Y⟩=some true:=by
 refine Qo0 hn (by show(tr.map toTryA).length≤_;rw[List.length_map];omega) (by show(toR Y).length≤_;rw[Zl];omega) (λt htm=>?_) ?_ ?_
 . obtain⟨u,hu,rfl⟩:=List.mem_map.1 htm
   show(toR u.Y).length≤_
   rw[Zl,(ht u hu).l];omega
 . unfold mA
   simp only[Q5r,Q5s,List.map_map]
   congr 1
   refine List.map_congr_left λt _=>?_
   show oTry (toTryA t)=toTryAr t
   unfold oTry toTryA toTryAr
   simp only[Q5r,Q5s]
 . refine⟨Qqv hT (by decide),Q51 hY (by decide) (by omega),by show(tr.map toTryAr).length≤_;rw[List.length_map];omega,λt htm=>?_⟩
   obtain⟨u,hu,rfl⟩:=List.mem_map.1 htm
   have g:=ht u hu
   exact⟨Qqv g.t (by decide),Qqv g.w (by decide),Qqv g.h (by decide),Qqv g.e (by decide),Q51 g.y (by decide) (by have:=g.l;omega)⟩
theorem okR_A(tr:List TryA):okR (tr.map toTryAr)=(accA tr).map toTryAr:=by
 unfold okR accA
 rw[List.filter_map];rfl
theorem Qw0(k:Q0)(hB:Qea k):∃ n,Xh n k=some true:=by
 refine⟨big,?_⟩
 have hn:big≤big:=Nat.le_refl _
 unfold Xh Qfz
 simp only[jn_eq]
 obtain⟨v,e1,e2⟩:=Qww (k:=k) hn
 rw[e1,sbind]
 cases v
 case true=>rw[bifT,w39];rfl
 have hL:=e2 rfl
 rw[bifF,Qz4 hn hL,sbind]
 have hw:=Q8w hB hL
 obtain⟨bp,br,bs,be,bf,by_,_⟩:=hB
 have hy1:=hL.y.1
 have hyl:(tK k).Y.length≤1000:=by show(k.Y.map tF).length≤1000;rw[List.length_map];omega
 have hM:=hL.m
 have a1:=Qwu (n:=big) (k:=tK k) hn hw (λhr=>by
  have h2:k.Rules.Most≤200:=hr.most.2
  show k.Rules.Most≤12;omega) hyl
 have ws:=Fk_wd hw.s
 have we:=Fk_wd hw.e
 have wf:=Fk_wd hw.f
 have hYr:FRr 2 k.Y:=Q98 by_ hL.y
 have hwr:=(Q7a bp (by decide) (by decide) (by decide) hL.p).mono (k:=4000) (by decide)
 have eN:Z9 big k=some ⟨k.Problem,k.Rules,rF (fr k.Start),rF (fr k.End),rF (fr k.First),rR (rvr k.Y)⟩:=by
  unfold Z9
  rw[Wl hn ws.1 ws.2.1 (by omega) (by omega),sbind,Wl hn we.1 we.2.1 (by omega) (by omega),sbind,Wl hn wf.1 wf.2.1 (by omega) (by omega),sbind,Qnm hn (show 2<1099511627776 by decide) hYr (by omega),sbind]
 have qS:qw (fr k.Start)≤2:=qw_fr ws (by decide)
 have qE:qw (fr k.End)≤2:=qw_fr we (by decide)
 have qF:qw (fr k.First)≤2:=qw_fr wf (by decide)
 have qY:QR 2 (rvr k.Y):=Qnl hYr (by decide)
 have hrv:rv (tK k).Y=rvr k.Y:=Qic k.Y
 have eR:Zu big ⟨k.Problem,k.Rules,rF (fr k.Start),rF (fr k.End),rF (fr k.First),rR (rvr k.Y)⟩=some (dP (TskR (tK k))):=by
  unfold Zu TskR
  simp only[jn_eq]
  rw[Qu5 (k:=4000) hn (by decide) (by decide) hwr,sbind,bifP]
  by_cases c1:prbR (tP k.Problem)
  case neg=>rw[if_neg c1,dP_f λh=>c1 h.1]
  obtain⟨w,g1,g2⟩:=Qva (r:=k.Rules) hn hw.r
  rw[if_pos c1,g1,sbind,g2,bifP]
  by_cases c2:RulR (tR k.Rules)
  case neg=>rw[if_neg c2,dP_f λh=>c2 h.2.1]
  rw[if_pos c2,Vk,Qdr]
  have hYm:(tK k).Y.length=k.Y.length:=List.length_map _
  by_cases c3:(k.Y.length:Int)=k.Problem.Tape.Dim
  case neg=>rw[decide_eq_false c3,bifF,dP_f λh=>c3 (by have:=h.2.2.1;rw[hYm] at this;exact this)]
  rw[decide_eq_true c3,bifT,Xw (k:=2) hn (by decide) qE qS,sbind]
  by_cases c4:0≤(fr k.End - fr k.Start).num.sign
  case neg=>rw[decide_eq_false c4,bifF,dP_f λh=>c4 (sg_ge.2 h.2.2.2.1)]
  rw[decide_eq_true c4,bifT,Qce,sbind]
  by_cases c5:0<(fr k.First).num.sign
  . rw[decide_eq_true c5,dP_t ⟨c1,c2,by rw[hYm];exact c3,sg_ge.1 c4,Qnv.1 c5⟩]
  . rw[decide_eq_false c5,dP_f λh=>c5 (Qnv.2 h.2.2.2.2)]
 rw[a1,sbind]
 by_cases hR:TskR (tK k)
 case neg=>
  rw[if_neg hR]
  simp only[]
  rw[Qb4 (show(2:Int)≠0 by decide),Bool.not_false,bifT,sbind,sbind,eN,sbind,eR,sbind,dP_f hR,Bool.not_false,bifT]
  simp only[]
  rw[show(⟨[],⟨⟨false,[]⟩,[]⟩,[]⟩:Ji)=noH from rfl,Q3c hn,sbind,bifT,sbind,bifT,Qav,bifT,bifT,Qis hn hw,sbind,dP_f hR,Bool.not_false,bifT,w39];rfl
 rw[if_pos hR]
 have hr:=hR.2.1
 have hmo1:k.Rules.Most≤200:=hr.most.2
 have hmo2:1≤k.Rules.Most:=hr.most.1
 have vr:=hw.r.all
 have hYd:((rvr k.Y).length:Int)=k.Problem.Tape.Dim:=by
  rw[←hrv,W9];exact hR.2.2.1
 have eP:=Qwz (n:=big) (p:=k.Problem) (r:=k.Rules) (S:=fr k.Start) (E:=fr k.End) (W0:=fr k.First) (Y0:=rvr k.Y) hn hwr hR.1 hw.r hr (by omega) qS qE qF (X6 qY (by decide)) hYd (by rw[Qdr];omega)
 have hok:=Q12 (p:=tP k.Problem) (r:=tR k.Rules) (E:=fr k.End) (d:=(rvr k.Y).length) hr (qw_fv vr.2.2.1 (by decide)) (qw_fv vr.2.2.2.1 (by decide)) qE k.Rules.Most.toNat [] (fr k.Start) (rvr k.Y) (fr k.First) (by simp;omega) qS qF (X6 qY (by decide)) rfl (λ_ h=>by cases h)
 have hzero:=Qwy (p:=tP k.Problem) (r:=tR k.Rules) (E:=fr k.End) k.Rules.Most.toNat [] (fr k.Start) (rvr k.Y) (fr k.First)
 have hsame:adaptQ (tK k).Problem (tK k).Rules (fv (tK k).End) (tK k).Rules.Most.toNat [] (fv (tK k).Start) (rv (tK k).Y) (fv (tK k).First)=adaptQ (tP k.Problem) (tR k.Rules) (fr k.End) k.Rules.Most.toNat [] (fr k.Start) (rvr k.Y) (fr k.First):=by rw[hrv];rfl
 rw[hsame]
 generalize adaptQ (tP k.Problem) (tR k.Rules) (fr k.End) k.Rules.Most.toNat [] (fr k.Start) (rvr k.Y) (fr k.First)=g at *
 obtain⟨⟨tr,T,Z⟩,F⟩:=g
 simp only[] at hok hzero eP ⊢
 obtain⟨o1,o2,o3,o4,o5⟩:=hok
 have hd1000:(rvr k.Y).length≤1000:=by rw[Qdr];omega
 have hl12:tr.length≤1000:=Nat.le_trans o5 (by simp;omega)
 have qZ:QR 4000 Z:=X6 o3 (by decide)
 have hIs:=is_A (n:=big) hn o1 hd1000 hl12 o2 qZ (by omega)
 have eM:(⟨tr.map toTryA,toF T,toR Z⟩:Ji)=mA tr T Z:=rfl
 have hAcc:=Qtd (n:=big) (k:=4000) (h:=mA tr T Z) hn (by decide) (by decide) (by show(tr.map toTryA).length≤_;rw[List.length_map];omega) (λx hx=>by
  obtain⟨t,hm,rfl⟩:=List.mem_map.1 hx
  exact FT_A (o1 t hm) hd1000)
 have hCost:Qgy big (mA tr T Z)=some ((tr.length:Int),((accA tr).length:Int)):=by
  unfold Qgy
  rw[hAcc,sbind,List.length_map,show(mA tr T Z).Tries=tr.map toTryA from rfl,okT_A,List.length_map,List.length_map]
 have hSz:=Qu7 (n:=big) (h:=⟨tr.map toTryAr,rF T,rR Z⟩) hn (by show(tr.map toTryAr).length≤_;rw[List.length_map];omega)
 simp only[] at hSz
 rw[okR_A] at hSz
 have hA:=Qis (n:=big) hn hw
 rw[dP_t hR] at hA
 have hFault:Qbk (toA4 F)=some F:=rfl
 have hk0:(toA4 F).a0=F.Kind:=rfl
 rw[eM]
 by_cases h0:F.Kind=0
 . have hF:=hzero h0
   subst hF
   rw[Qav,Bool.not_true,bifF,sbind,sbind,eN,sbind,eR,sbind,dP_t hR,Bool.not_true,bifF,eP,sbind]
   simp only[]
   rw[hFault,sbind,Qav,Bool.not_true,bifF,bifF,hIs,sbind,Bool.not_true,bifF,hA,sbind,Bool.not_true,bifF,hCost,sbind]
   simp only[]
   rw[List.length_map,decide_eq_true rfl,Bool.not_true,bifF,hSz,sbind,List.length_map,List.length_map,decide_eq_true rfl,Bool.not_true,bifF,hk0,decide_eq_true rfl,Bool.not_true,bifF,sbind,bifT,w39];rfl
 . rw[Q7h h0,Bool.not_false,bifT,sbind,sbind,eN,sbind,eR,sbind,dP_t hR,Bool.not_true,bifF,eP,sbind]
   simp only[]
   rw[hFault,sbind,Qav,Bool.not_true,bifF,bifF,hIs,sbind,Bool.not_true,bifF,hA,sbind,Bool.not_true,bifF,hCost,sbind]
   simp only[]
   rw[List.length_map,decide_eq_true rfl,Bool.not_true,bifF,hSz,sbind,List.length_map,List.length_map,decide_eq_true rfl,Bool.not_true,bifF,hk0,decide_eq_false h0,Bool.not_false,bifT,show(⟨[],⟨⟨false,[]⟩,[]⟩,[]⟩:Ji)=noH from rfl,Q3c hn,sbind,bifT,w39];rfl
end Go.Proofs.YtlihkcaoachkdaaGreatDoor
