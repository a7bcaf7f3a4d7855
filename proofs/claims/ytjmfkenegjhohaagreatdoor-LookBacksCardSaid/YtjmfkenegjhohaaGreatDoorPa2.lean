import Derived.Test.YtjmfkenegjhohaaGreatDoorPa1
namespace Go.Proofs.YtjmfkenegjhohaaGreatDoor
open Go Go.RowKit
theorem Jd8{lim:Int}{T:Rat}{Y P:List Rat}:∀ {c:List Q2}{i:Nat}{done l:List Rat},runQ lim T Y P c i done=.inr l ->
 (∃ e,l=done++e)/\∀(q:Nat) x,c[q]?=some x->opQ x T Y P (l.take (done.length+q))=some (l.getD (done.length+q) 0)
 | [],i,done,l,h=>by simp only[runQ] at h;cases h;exact⟨⟨[],oc⟩,λq x m=>by simp at m⟩
 | x::c,i,done,l,h=>by
   simp only[runQ] at h;cases d:opQ x T Y P done with
   | none=>rw[d] at h;cases h
   | some q=>
     rw[d] at h;simp only[] at h;split at h
     case isFalse=>cases h
     obtain⟨⟨a,g⟩,j⟩:=Jd8 h;refine⟨⟨q::a,by rw[g];simp⟩,λk y f=>?_⟩;cases k with
     | zero=>
       simp only[gj,Option.some.injEq] at f;subst f;rw[xp,g];have g1:(done++[q]++a).getD done.length 0=q:=by rw[xf,ou,yg (xm _),gc];rfl
       have g3:(done++[q]++a).take done.length=done:=by rw[xf,List.take_left]
       rw[g1,g3,d]
     | succ k=>
       have:=j k y (by simpa using f);rw[yd,vm,show done.length+1+k=done.length+(k+1) by omega] at this;exact this
def partA(x:Q2)(c r:Rat)(vs:List Rat):Rat:=
 if x.Op=6 then -c else if x.Op=9 then c*vs.getD x.B.toNat 0 else if x.Op=10 then c / vs.getD x.B.toNat 0 else if x.Op=11 then c*((x.B:Rat)*turnQ (vs.getD x.A.toNat 0) r x.B) else c
def partB(x:Q2)(c r:Rat)(vs:List Rat):Rat:=
 if x.Op=8 then -c else if x.Op=9 then c*vs.getD x.A.toNat 0 else if x.Op=10 then -(c / vs.getD x.B.toNat 0*r) else c
def sentQ(x:Q2)(j:Nat)(c r:Rat)(vs:List Rat):Rat:=
 if x.Op<6\/c=0 then 0 else (if x.A=(j:Int) then partA x c r vs else 0)+(if (7<=x.Op/\x.Op<=10)/\x.B=(j:Int) then partB x c r vs else 0)
theorem Qgw{l:List Rat}{a:Int}{c:Rat}{j:Nat}(h0:0<=a)(d:j<l.length):(addAt l a c).getD j 0=l.getD j 0+(if a=(j:Int) then c else 0):=by
 rw[Qx4];by_cases h:a=(j:Int)
 rw[oq ⟨om,d⟩,oq h];rw[ol (λg=>h om),ol h,ve]
theorem Jhj{t:Qp}{x:Q2}{k j:Nat}{c r:Rat}{vs:List Rat}{s:BkS}(e:mayR t k x)(a:j<s.co.length):(Zc x c r vs s).co.getD j 0=s.co.getD j 0+sentQ x j c r vs:=by unfold Zc sentQ partA partB;have f:=Qmf e;by_cases d:c=0;rw[oq d,oq (.inr d),ve];have nA:x.Op=6\/x.Op=11\/x.Op=7\/x.Op=8\/x.Op=9\/x.Op=10->0<=x.A:=λh=>(f _ (rdT_A h)).1;have nB:x.Op=7\/x.Op=8\/x.Op=9\/x.Op=10->0<=x.B:=λh=>(f _ (rdT_B h)).1;rw[ol d];rcases Q26 e with h | h | h | h | h | h | h | h | h | h;simp only[h,Int.reduceEq,Int.reduceLT,ya,yo,true_or,ve];simp only[h,Int.reduceEq,Int.reduceLT,ya,yo,true_or,ve];simp only[h,Int.reduceEq,Int.reduceLT,ya,yo,true_or,ve];simp only[h,Int.reduceEq,Int.reduceLT,ya,yo,true_or,ve];simp only[h,d,Int.reduceEq,Int.reduceLT,Int.reduceLE,ya,yo,or_self,false_and,ve];rw[Qgw (nA om) a];simp only[h,d,Int.reduceEq,Int.reduceLT,Int.reduceLE,ya,yo,or_self,true_and,and_self];rw[Qgw (nB om) (by rw[Qfe];exact a),Qgw (nA om) a,Rat.add_assoc];simp only[h,d,Int.reduceEq,Int.reduceLT,Int.reduceLE,ya,yo,or_self,true_and,and_self];rw[Qgw (nB om) (by rw[Qfe];exact a),Qgw (nA om) a,Rat.add_assoc];simp only[h,d,Int.reduceEq,Int.reduceLT,Int.reduceLE,ya,yo,or_self,true_and,and_self];rw[Qgw (nB om) (by rw[Qfe];exact a),Qgw (nA om) a,Rat.add_assoc];simp only[h,d,Int.reduceEq,Int.reduceLT,Int.reduceLE,ya,yo,or_self,true_and,and_self];rw[Qgw (nB om) (by rw[Qfe];exact a),Qgw (nA om) a,Rat.add_assoc];simp only[h,d,Int.reduceEq,Int.reduceLT,Int.reduceLE,ya,yo,or_self,and_false,false_and,ve];rw[Qgw (nA om) a]
theorem Jjb{x:Q2}{c r:Rat}{vs:List Rat}{s:BkS}:(Zc x c r vs s).T=if x.Op=2 then s.T+c else s.T:=by
 unfold Zc;by_cases d:c=0
 . rw[oq d,d];split<;>simp[ve]
 rw[ol d];by_cases a:x.Op=2
 . rw[oq a,oq a]
 rw[ol a,ol a]
 repeat' split
 all_goals rfl
theorem Jjc{x:Q2}{c r:Rat}{vs:List Rat}{s:BkS}:(Zc x c r vs s).Y=if x.Op=3 then addAt s.Y x.A c else s.Y:=by
 unfold Zc;by_cases d:c=0
 . rw[oq d,d,Qx3];split<;>rfl
 rw[ol d];by_cases a:x.Op=3
 . rw[ol om,oq a,oq a]
 rw[ol a,ol a]
 repeat' split
 all_goals rfl
theorem Jjd{x:Q2}{c r:Rat}{vs:List Rat}{s:BkS}:(Zc x c r vs s).P=if x.Op=4 then addAt s.P x.A c else s.P:=by
 unfold Zc;by_cases d:c=0
 . rw[oq d,d,Qx3];split<;>rfl
 rw[ol d];by_cases a:x.Op=4
 . rw[ol om,ol om,oq a,oq a]
 rw[ol a,ol a]
 repeat' split
 all_goals rfl
def PowR(t:Jf)(vs:List Rat):Prop:=∀(k:Nat) x,t.Code[k]?=some x->x.Op=11->vs.getD k 0=vs.getD x.A.toNat 0 ^ x.B/\-8<=x.B/\x.B<=8/\¬(x.B<0/\vs.getD x.A.toNat 0=0)
theorem Jk3{t:Jf}{lim:Int}{T:Rat}{Y P l:List Rat}(j:tapeR (tT t))(h:runQ lim T Y P (tT t).Code 0 []=.inr l):PowR t l:=by
 intro k x m d;have a:(tT t).Code[k]?=some (tI x):=by show(t.Code.map tI)[k]?=_;exact Qcw tI m
 have i:=j.2.1 k _ a;have q:=Qmf i;have e:=q _ (rdT_A (x:=tI x) (.inr (.inl d)));have eA:(tI x).A=x.A:=rfl;rw[eA] at e;have:=(Jd8 h).2 k _ a;rw[ye,xg] at this;unfold opQ at this;rw[ol (show ¬(tI x).Op=6 by show ¬ x.Op=6;omega),oq (show(tI x).Op=11 from d),eA,Qdw om,show(tI x).B=x.B from rfl] at this;split at this;cases this;rename_i f;exact⟨(Option.some.inj this).symm,om,om,λg=>f (.inr (.inr g))⟩
theorem Q5d{n k j:Nat}{t:Jf}{x:Ju}{c r:Rat}{vs:List Rat}(hn:big<=n)(V:mayR (tT t) k (tI x))(hk:k<=vs.length)(v:qw c<=129)(hr:qw r<=129)(X:QR 129 vs)
 (hp:x.Op=11->r=vs.getD x.A.toNat 0 ^ x.B/\-8<=x.B/\x.B<=8/\¬(x.B<0/\vs.getD x.A.toNat 0=0)) :
 Zt n x (j:Int) (rF c) (rF r) (rR vs)=some (rF (sentQ (tI x) j c r vs))/\qw (sentQ (tI x) j c r vs)<=2000:=by
 have eO:(tI x).Op=x.Op:=rfl;have eA:(tI x).A=x.A:=rfl;have eB:(tI x).B=x.B:=rfl;have F:=Qmf V;have i:=Jd3 V;rw[eO] at i;have gA:x.Op=6\/x.Op=11\/x.Op=7\/x.Op=8\/x.Op=9\/x.Op=10->getI (rR vs) x.A=some (rF (vs.getD x.A.toNat 0)):=λh=>Qkt (F _ (rdT_A (x:=tI x) h)).1 (by have:=(F _ (rdT_A (x:=tI x) h)).2;rw[eA] at this;omega);have gB:x.Op=7\/x.Op=8\/x.Op=9\/x.Op=10->getI (rR vs) x.B=some (rF (vs.getD x.B.toNat 0)):=λh=>Qkt (F _ (rdT_B (x:=tI x) h)).1 (by have:=(F _ (rdT_B (x:=tI x) h)).2;rw[eB] at this;omega);have qA:qw (vs.getD x.A.toNat 0)<=129:=Vt X oz;have qB:qw (vs.getD x.B.toNat 0)<=129:=Vt X oz;have add:∀ {p q:Rat},qw p<=3000->qw q<=3000->Q3 n (rF p) (rF q)=some (rF (p+q)):=λf l=>Xd hn oz f l;have mul:∀ {p q:Rat},qw p<=3000->qw q<=3000->Jh n (rF p) (rF q)=some (rF (p*q)):=λf l=>Qac hn oz f l;have quo:∀ {p q:Rat},qw p<=3000->qw q<=3000->Vp n (rF p) (rF q)=some (rF (p / q)):=λf l=>Qmk hn oz f l;have neg:∀ {p:Rat},qw p<=3000->Vo n (rF p)=some (rF (-p)):=λf=>Qqk hn oz f;unfold Zt sentQ;rw[Qdf hn,sbind,eO,eA,eB];have q0:qw (0:Rat)<=1:=by rw[Y8];exact xm _
 by_cases h0:x.Op<6\/c=0
 . rw[oq h0]
   refine⟨(jn_to (b:=true) (λd=>?_)).trans rfl,om⟩;by_cases m:x.Op<6
   . rw[oo m,bifT]
   . rw[oj m,bifF,Qh1,sbind,oo (h0.resolve_left m)]
 rw[ol h0];have m:¬ x.Op<6:=λg=>h0 (.inl g);have G:¬ c=0:=λg=>h0 (.inr g)
 have bA:(x.A=(j:Int)->qw (partA (tI x) c r vs)<=1500)/\∀ {β:Type}(d:Qb->Option β),x.A=(j:Int)->(jn (λ(y:(Qb)->Option _)=>
         bif decide (x.Op=(6:Int)) then (
          (Vo n (rF c)).bind λJ=>
          y J)
         else (
          y (rF c))) (λ(N:Qb)=>
         jn (λ(A:(Qb)->Option _)=>
          bif decide (x.Op=(9:Int)) then (
           (getI (rR vs) x.B).bind λR=>
           (Jh n (rF c) R).bind λK=>
           A K)
          else (
           A N)) (λ(O:Qb)=>
          jn (λ(B:(Qb)->Option _)=>
           bif decide (x.Op=(10:Int)) then (
            (getI (rR vs) x.B).bind λS=>
            (Vp n (rF c) S).bind λL=>
            B L)
           else (
            B O)) (λ(P:Qb)=>
           jn (λ(C:(Qb)->Option _)=>
            bif decide (x.Op=(11:Int)) then (
             (getI (rR vs) x.A).bind λU=>
             (Qak n U x.B).bind λM=>
             (Jh n (rF c) M).bind λr101=>
             C r101)
            else (
             C P)) (λ(Q:Qb)=>
            (Q3 n (rF 0) Q).bind λr103=>
            d r103)))))=d (rF (partA (tI x) c r vs)):=by
  unfold partA;rw[eO,eA,eB];simp only[jn_eq];rcases i with h | h | h | h | h | h | h | h | h | h
  . omega
  . omega
  . omega
  . omega
  . simp only[h,Int.reduceEq,vt,ui,bifT,bifF,ya,yo]
    have e:=Qjk c;refine⟨λ_=>om,λd _=>?_⟩;rw[neg om,sbind,add om om,sbind,ge]
  . obtain⟨p1,p2,p3,p4⟩:=hp h
    obtain⟨w1,Y⟩:=Q3h (a:=vs.getD x.A.toNat 0) (b:=x.B) hn (k:=129) oz qA ⟨p2,p3⟩ p4;rw[<-p1] at w1 Y;have w3:=Xl v Y;simp only[h,Int.reduceEq,vt,ui,bifT,bifF,ya,yo];refine⟨λ_=>om,λd _=>?_⟩;rw[gA om,sbind,w1,sbind,mul om om,sbind,add om om,sbind,ge]
  . simp only[h,Int.reduceEq,ui,bifF,yo]
    refine⟨λ_=>om,λd _=>?_⟩;rw[add om om,sbind,ge]
  . simp only[h,Int.reduceEq,ui,bifF,yo]
    refine⟨λ_=>om,λd _=>?_⟩;rw[add om om,sbind,ge]
  . simp only[h,Int.reduceEq,vt,ui,bifT,bifF,ya,yo]
    have e:=Xl v qB;refine⟨λ_=>om,λd _=>?_⟩;rw[gB om,sbind,mul om om,sbind,add om om,sbind,ge]
  . simp only[h,Int.reduceEq,vt,ui,bifT,bifF,ya,yo]
    have e:=Qpn v qB;refine⟨λ_=>om,λd _=>?_⟩;rw[gB om,sbind,quo om om,sbind,add om om,sbind,ge]
 obtain⟨bA1,bA2⟩:=bA;have bA3:qw (if x.A=(j:Int) then partA (tI x) c r vs else 0)<=1500:=by
  split
  . rename_i h;exact bA1 h
  . omega
 have bB:((7<=x.Op/\x.Op<=10)/\x.B=(j:Int)->qw (partB (tI x) c r vs)<=400)/\∀ {β:Type}(d:Qb->Option β) (z:Rat),qw z<=1500->(7<=x.Op/\x.Op<=10)->(jn (λ(j155:(Qb)->Option _)=>
            bif decide (x.Op=(8:Int)) then (
             (Vo n (rF c)).bind λr158=>
             j155 r158)
            else (
             j155 (rF c))) (λ(s157:Qb)=>
            jn (λ(j164:(Qb)->Option _)=>
             bif decide (x.Op=(9:Int)) then (
              (getI (rR vs) x.A).bind λy167=>
              (Jh n (rF c) y167).bind λr169=>
              j164 r169)
             else (
              j164 s157)) (λ(s166:Qb)=>
             jn (λ(j179:(Qb)->Option _)=>
              bif decide (x.Op=(10:Int)) then (
               (Jh n (rF c) (rF r)).bind λr182=>
               (getI (rR vs) x.B).bind λy184=>
               (Vp n r182 y184).bind λr186=>
               (Vo n r186).bind λr188=>
               j179 r188)
              else (
               j179 s166)) (λ(s181:Qb)=>
              (Q3 n (rF z) s181).bind λr190=>
              d r190))))=d (rF (z+partB (tI x) c r vs)):=by
  unfold partB;rw[eO,eA,eB];simp only[jn_eq];rcases i with h | h | h | h | h | h | h | h | h | h
  . omega
  . omega
  . omega
  . omega
  . exact⟨λg=>om,λ_ _ _ g=>om⟩
  . exact⟨λg=>om,λ_ _ _ g=>om⟩
  . simp only[h,Int.reduceEq,ui,bifF,yo]
    refine⟨λ_=>om,λd z I _=>?_⟩;rw[add om om,sbind]
  . simp only[h,Int.reduceEq,vt,ui,bifT,bifF,ya,yo]
    have e:=Qjk c;refine⟨λ_=>om,λd z I _=>?_⟩;rw[neg om,sbind,add om om,sbind]
  . simp only[h,Int.reduceEq,vt,ui,bifT,bifF,ya,yo]
    have e:=Xl v qA;refine⟨λ_=>om,λd z I _=>?_⟩;rw[gA om,sbind,mul om om,sbind,add om om,sbind]
  . simp only[h,Int.reduceEq,vt,ui,bifT,bifF,ya,yo]
    have e:=Xl v hr;have e2:=Qpn e qB;have Z:c*r / vs.getD x.B.toNat 0=c / vs.getD x.B.toNat 0*r:=by rw[da,da];grind
    have e4:=Qjk (c*r / vs.getD x.B.toNat 0);rw[<-Z];refine⟨λ_=>om,λd z I _=>?_⟩;rw[mul om om,sbind,gB om,sbind,quo om om,sbind,neg om,sbind,add om om,sbind]
 obtain⟨bB1,bB2⟩:=bB;have bB3:qw (if (7<=x.Op/\x.Op<=10)/\x.B=(j:Int) then partB (tI x) c r vs else 0)<=400:=by
  split
  . rename_i h;exact bB1 h
  . omega
 refine⟨?_,by have:=Yz bA3 bB3;omega⟩;refine(jn_to (b:=false) (λd=>?_)).trans ?_
 . rw[oj m,bifF,Qh1,sbind,oj G]
 rw[bifF];refine(jn_to (b:=rF (if x.A=(j:Int) then partA (tI x) c r vs else 0)) (λd=>?_)).trans ?_
 . by_cases s:x.A=(j:Int)
   . rw[oo s,bifT,oq s];exact bA2 d s
   . rw[oj s,bifF,ol s]
 generalize (if x.A=(j:Int) then partA (tI x) c r vs else 0)=z at bA3 |-;refine(jn_to (b:=rF (z+if (7<=x.Op/\x.Op<=10)/\x.B=(j:Int) then partB (tI x) c r vs else 0)) (λd=>?_)).trans rfl;refine(jn_to (b:=decide ((7<=x.Op/\x.Op<=10)/\x.B=(j:Int))) (λd=>?_)).trans ?_
 . by_cases g1:7<=x.Op
   case neg=>rw[oj g1,bifF,oj (λg=>g1 g.1.1)]
   rw[oo g1,bifT];by_cases E:x.Op<=10
   case neg=>rw[oj E,bifF,oj (λg=>E g.1.2)]
   rw[oo E,bifT];by_cases g3:x.B=(j:Int)
   . rw[oo g3,oo ⟨⟨g1,E⟩,g3⟩]
   . rw[oj g3,oj (λg=>g3 g.2)]
 by_cases u:(7<=x.Op/\x.Op<=10)/\x.B=(j:Int)
 . rw[oo u,bifT,oq u];exact bB2 d z bA3 u.1
 . rw[oj u,bifF,ol u,ve]
def accB(code:List Q2)(vs:List Rat)(j:Nat):Nat->List Rat->Rat->Rat
 | _,[],z=>z
 | k,c::cs,z=>accB code vs j (k+1) cs (z+(match code[k]? with | some x=>sentQ x j c (vs.getD k 0) vs | none=>0))
theorem Jca{code:List Q2}{vs:List Rat}{j:Nat}{d:Rat}:∀ {cs:List Rat}{k:Nat}{z:Rat},accB code vs j k cs (z+d)=accB code vs j k cs z+d
 | [],k,z=>rfl
 | c::cs,k,z=>by simp only[accB];generalize (match code[k]? with | some x=>sentQ x j c (vs.getD k 0) vs | none=>0)=e;rw[<-Jca (d:=d)];congr 1;grind
theorem Jcb{α:Type}{l:List α}{i:Nat}{y:α}(h:i<l.length):(l.set i y).drop i=y::l.drop (i+1):=by rw[xe (by rw[wj];exact h),List.getElem_set_self,List.drop_set_of_lt om]
theorem Jhk(l:List Rat)(i:Nat)(x:Rat):(rR l).set i (rF x)=rR (l.set i x):=by unfold rR;rw[List.map_set]
theorem Q3j{kw:Nat}:∀(l:List (Int×Rat)) (a:List Rat) (b:Nat),1<=b->QR b a->(∀ z∈l,qw z.2<=kw)->QR (b+l.length*(kw+1)) (l.foldl (λco z=>addAt co z.1 z.2) a)
 | [],a,b,_,h,_=>by simpa using h
 | z::l,a,b,e,h,d=>by rw[db,xn];have:=Q3j l (addAt a z.1 z.2) (b+kw+1) om (Qth e h (d z (.head _))) (λy f=>d y (.tail _ f));exact Q8 this (by rw[ud];omega)
theorem Jcc:∀(l:List (Int×Rat)) (a:List Rat),(l.foldl (λco z=>addAt co z.1 z.2) a).length=a.length
 | [],a=>rfl
 | z::l,a=>by rw[db,Jcc l,Qfe]
theorem Jd9{n:Nat}{a b:Nat}(hn:big<=n)(d:a<=300)(hb:b<=300):W7 n (a:Int) (b:Int)=some (rF 0,rR (List.replicate a 0),rR (List.replicate b 0)):=by unfold W7;rw[Qdf hn,sbind,Qfl hn d,sbind,Qfl hn hb,sbind]
abbrev RbS:=(List Qb)×Qb×(List Qb)×(List Qb)×Int
abbrev RbT:=Qb×(List Qb)×(List Qb)
def rbBody(n:Nat)(t:Jf)(w vs:List Qb)(lim:Int)(g0:Jp):RbS->Option (Lp RbS (Lp RbT (Jp×J3))):=λ(s426:(List Qb)×Qb×(List Qb)×(List Qb)×Int)=>
 bif decide ((0:Int)<=s426.2.2.2.2) then (
  jn (λ(j521:((List Qb)×Qb×(List Qb)×(List Qb))->Option _)=>
   (Ko n (0:Int)).bind λr524=>
   (loopM (λ(s544:Qb×Int)=>
    bif decide (s544.2<(t.Aw.length:Int)) then (
     jn (λ(j551:(Qb)->Option _)=>
      (getI t.Aw s544.2).bind λy554=>
      bif decide (y554=s426.2.2.2.2) then (
       (getI w s544.2).bind λy556=>
       (Q3 n s544.1 y556).bind λr558=>
       j551 r558)
      else (
       j551 s544.1)) (λ(s553:Qb)=>
      some (Lp.go (s553,wrap64 (s544.2+(1:Int))))))
    else (
     some (Lp.out s544.1))) n (r524,(0:Int))).bind λ(t542:Qb)=>
   (loopM (λ(s573:Qb×Int)=>
    bif decide (s573.2<(vs.length:Int)) then (
     (getI t.Code s573.2).bind λy574=>
     (getI s426.1 s573.2).bind λy576=>
     (getI vs s573.2).bind λy578=>
     (Zt n y574 s426.2.2.2.2 y576 y578 vs).bind λr580=>
     (Q3 n s573.1 r580).bind λr582=>
     some (Lp.go (r582,wrap64 (s573.2+(1:Int)))))
    else (
     some (Lp.out s573.1))) n (t542,wrap64 (s426.2.2.2.2+(1:Int)))).bind λ(t571:Qb)=>
   (K6 n t571 lim).bind λr584=>
   bif !r584 then (
    some (Lp.out (Lp.out ((g0,(⟨(6:Int),(2:Int),s426.2.2.2.2⟩:J3)))))) 
   else (
    (getI s426.1 s426.2.2.2.2).bind λ_=>
    (getI t.Code s426.2.2.2.2).bind λy588=>
    jn (λ(j592:(Qb)->Option _)=>
     bif decide (y588.Op=(2:Int)) then (
      (Q3 n s426.2.1 t571).bind λr595=>
      j592 r595)
     else (
      j592 s426.2.1)) (λ(s594:Qb)=>
     jn (λ(j603:((List Qb))->Option _)=>
      bif decide (y588.Op=(3:Int)) then (
       (getI s426.2.2.1 y588.A).bind λy606=>
       (Q3 n y606 t571).bind λr608=>
       (getI s426.2.2.1 y588.A).bind λ_=>
       j603 (List.set s426.2.2.1 (Int.toNat y588.A) r608))
      else (
       j603 s426.2.2.1)) (λ(s605:(List Qb))=>
      bif decide (y588.Op=(4:Int)) then (
       (getI s426.2.2.2.1 y588.A).bind λy612=>
       (Q3 n y612 t571).bind λr614=>
       (getI s426.2.2.2.1 y588.A).bind λ_=>
       j521 ((List.set s426.1 (Int.toNat s426.2.2.2.2) t571),s594,s605,(List.set s426.2.2.2.1 (Int.toNat y588.A) r614)))
      else (
       j521 ((List.set s426.1 (Int.toNat s426.2.2.2.2) t571),s594,s605,s426.2.2.2.1)))))) (λ(s523:(List Qb)×Qb×(List Qb)×(List Qb))=>
   some (Lp.go (s523.1,s523.2.1,s523.2.2.1,s523.2.2.2,wrap64 (s426.2.2.2.2 - (1:Int))))))
 else (
  some (Lp.out (Lp.go (s426.2.1,s426.2.2.1,s426.2.2.2.1))))
def rbEnd(n:Nat)(lim:Int)(g0:Jp):RbT->Option (Jp×J3):=λ(t424:Qb×(List Qb)×(List Qb))=>
    (appM 56 ([t424.1]:List Qb) t424.2.1).bind λy618=>
    (appM 56 y618 t424.2.2).bind λy620=>
    (Ke n y620 lim).bind λr622=>
    bif decide (r622<(y620.length:Int)) then (
     some (g0,(⟨(6:Int),(3:Int),r622⟩:J3)))
    else (
     some ((⟨t424.1,t424.2.1,t424.2.2⟩:Jp),(⟨0,0,0⟩:J3)))
theorem Jnj{n:Nat}{x0:Jf}{g:Xg}{x2:List Qb}{e:Int}:Qba n x0 g x2 e=(W7 n (0:Int) (0:Int)).bind λa=>
 (Yj n x0 g e).bind λd=>
 bif !decide (d.2.1=(0:Int)) then (
  some ((⟨a.1,a.2.1,a.2.2⟩:Jp),(⟨d.2.1,(0:Int),d.2.2⟩:J3)))
 else (
  (mkM 56 ((⟨false,[],[]⟩:Qb):Qb) (d.1.length:Int)).bind λi=>
  (W7 n x0.Ax x0.A1).bind λf=>
  (loopM (rbBody n x0 x2 d.1 e ⟨a.1,a.2.1,a.2.2⟩) n (i,f.1,f.2.1,f.2.2,wrap64 ((d.1.length:Int) - (1:Int)))).bind (lpK (rbEnd n e ⟨a.1,a.2.1,a.2.2⟩))):=vw (vw rfl)
section
variable {n kw:Nat}{t:Jf}{vs w:List Rat}{lim:Int}{g0:Jp}
structure RbOK(n kw:Nat)(t:Jf)(vs w:List Rat)(lim:Int):Prop where
 hn:big<=n
 hkw:kw<=1000000
 tp:tapeR (tT t)
 pw:PowR t vs
 vl:vs.length=t.Code.length
 vq:QR 129 vs
 wq:QR kw w
 wl:w.length=t.Aw.length
 lm:lim<=4096
theorem RbOK.dims(h:RbOK n kw t vs w lim):t.Code.length<=300/\(∀ o∈t.Aw,0<=o/\o<(t.Code.length:Int))/\t.Aw.length<=6/\(1<=t.Ax/\t.Ax<=6)/\(0<=t.A1/\t.A1<=6)/\(∀(i:Nat) x,t.Code[i]?=some x->mayR (tT t) i (tI x)):=by obtain⟨⟨⟨l,m⟩,⟨q,r⟩,s,j⟩,g,A⟩:=h.tp;have a:1<=t.Ax:=l;have d:t.Ax<=6:=m;have e:0<=t.A1:=q;have f:t.A1<=6:=r;have u:(t.Aw.length:Int)=t.Ax:=s;have eC:(tT t).Code=t.Code.map tI:=rfl;refine⟨by rw[eC,ot] at j;exact j,λo v=>?_,om,⟨a,d⟩,⟨e,f⟩,λi x y=>g i (tI x) (by rw[eC];exact Qcw tI y)⟩;have:=A o v;rw[eC,ot] at this;exact this
theorem Jk4(h:RbOK n kw t vs w lim){i:Nat}(hi:i<vs.length){β:Type}(K:Qb->Option β):(loopM (λ(s544:Qb×Int)=>
 bif decide (s544.2<(t.Aw.length:Int)) then (
     (getI t.Aw s544.2).bind λy554=>
     bif decide (y554=(i:Int)) then (
      (getI (rR w) s544.2).bind λy556=>
      (Q3 n s544.1 y556).bind λr558=>
      some (Lp.go (r558,wrap64 (s544.2+(1:Int)))))
     else (
      some (Lp.go (s544.1,wrap64 (s544.2+(1:Int))))))
 else (
  some (Lp.out s544.1))) n (rF 0,(0:Int))).bind K=K (rF ((coQ vs.length t.Aw w).getD i 0)):=by
 obtain⟨s,g,A,_⟩:=h.dims;have B:=h.wl;have hn:=h.hn;have v:=h.wq;have hkw:=h.hkw;have vl:=h.vl;rw[V3 (λq=>(rF ((((List.zip t.Aw w).take q).foldl (λco z=>addAt co z.1 z.2) (List.replicate vs.length 0)).getD i 0),(q:Int))) t.Aw.length (rF ((coQ vs.length t.Aw w).getD i 0))];intro q u;have f:t.Aw[q]?=some t.Aw[q]:=oi u;have a:w[q]?=some (w[q]' om):=oi om;have d:=g _ (xa u);have m:=v _ (xa (l:=w) (n:=q) om);generalize t.Aw[q]=o at f d;generalize w[q]' om=c at a m;have hb:=Q3j (kw:=kw) ((List.zip t.Aw w).take q) (List.replicate vs.length 0) 1 (xm _) (Qpo _) (λz C=>v _ (List.of_mem_zip (ym C)).2);have j:((List.zip t.Aw w).take q).length<=6:=by rw[xi,gz];omega
 have y:=xc (kw+1) j;have r:=Jcc ((List.zip t.Aw w).take q) (List.replicate vs.length (0:Rat));rw[ue] at r;rw[Q9j f a,jj,db,List.foldl_nil,Qgw d.1 om];generalize ((List.zip t.Aw w).take q).foldl (λco z=>addAt co z.1 z.2) (List.replicate vs.length 0)=co at hb r |-;have x:=Vt (i:=i) hb om;simp only[];rw[oo (show(q:Int)<(t.Aw.length:Int) by omega),bifT,Jd f,sbind];by_cases e:o=(i:Int)
 rw[oo e,bifT,oq e,Jd (Qh2 a),sbind,Xd (k:=8*(kw+1)) hn om om om,sbind,w1 om];rw[oj e,bifF,ol e,ve,w1 om];simp only[];rw[oj om,bifF,xb (by rw[gz];omega)];rfl;unfold big at hn;omega;show _=(rF ((List.replicate vs.length (0:Rat)).getD i 0),(0:Int))
 rw[Jbs]
theorem Jk5(h:RbOK n kw t vs w lim){i:Nat}{co:List Qb}:∀(cs:List Rat) (q d:Nat) (z:Rat) (b:Nat),q+cs.length=t.Code.length->co.drop q=rR cs->QR 129 cs->qw z<=b->b+cs.length*2001<=100000000->cs.length<d ->
 loopM (λ(s573:Qb×Int)=>
       bif decide (s573.2<((rR vs).length:Int)) then (
        (getI t.Code s573.2).bind λy574=>
        (getI co s573.2).bind λy576=>
        (getI (rR vs) s573.2).bind λy578=>
        (Zt n y574 (i:Int) y576 y578 (rR vs)).bind λr580=>
        (Q3 n s573.1 r580).bind λr582=>
        some (Lp.go (r582,wrap64 (s573.2+(1:Int)))))
       else (
        some (Lp.out s573.1))) d (rF z,(q:Int))=some (rF (accB (tT t).Code vs i q cs z))/\qw (accB (tT t).Code vs i q cs z)<=b+cs.length*2001:=by
 obtain⟨G,N,M,_,_,E⟩:=h.dims;have hn:=h.hn;have vl:=h.vl;have J:=h.vq;have u:=h.pw;have eC:(tT t).Code=t.Code.map tI:=rfl;intro cs
 induction cs with
 | nil=>
   intro q d z b A _ _ I _ e;rw[ye,xp] at A;refine⟨Vv (by simp only[];rw[Kn,oj om,bifF];rfl) om,?_⟩;simp only[accB];omega
 | cons c cs R=>
   intro q d z b A hd F I hb e;rw[xn] at A e hb;obtain⟨n'',rfl⟩:∃ n'',d=n''+1:=⟨d - 1,om⟩
   have g:t.Code[q]?=some (t.Code[q]' om):=oi om;generalize t.Code[q]' om=x at g;have C:(tT t).Code[q]?=some (tI x):=by rw[eC];exact Qcw tI g
   have B:vs[q]?=some (vs[q]' om):=oi om;have f:=J _ (xa (l:=vs) (n:=q) om);have a:vs.getD q 0=vs[q]' om:=Qoj B;generalize vs[q]' om=v at B f a;have m:co[q]?=some (rF c):=by have:=um (λl=>l[0]?) hd;simp only[vk,xp] at this;rw[this];rfl
   have s:co.drop (q+1)=rR cs:=by rw[<-List.drop_drop,hd];rfl
   obtain⟨s1,S⟩:=Q5d (j:=i) (c:=c) (r:=v) hn (E q _ g) om (F c (.head _)) f J (λL=>by rw[<-a];exact u q x g L);have P:=Yz I S;obtain⟨Q,U⟩:=R (q+1) n'' (z+sentQ (tI x) i c v vs) (b+2001) om s (λy O=>F y (.tail _ O)) om om om;have K:accB (tT t).Code vs i q (c::cs) z=accB (tT t).Code vs i (q+1) cs (z+sentQ (tI x) i c v vs):=by simp only[accB];rw[C,a]
   rw[K,xn,ud];refine⟨?_,om⟩
   rw[Qbp (s':=(rF (z+sentQ (tI x) i c v vs),((q+1:Nat):Int))) (by
    simp only[]
    rw[Kn,oo (show(q:Int)<(vs.length:Int) by omega),bifT,Jd g,sbind,Jd m,sbind,Jd (Qh2 B),sbind,s1,sbind,Xd (k:=b+2000) hn om om om,sbind,w1 om])]
   exact Q
structure RbI(t:Jf)(vs w:List Rat)(b:Nat)(co:List Qb)(cs:List Rat)(s:BkS)(i:Nat):Prop where
 cl:co.length=vs.length
 cd:co.drop i=rR cs
 cq:QR 129 cs
 ci:cs.length+i=vs.length
 ac:∀ j,j<vs.length->s.co.getD j 0=accB (tT t).Code vs j i cs ((coQ vs.length t.Aw w).getD j 0)
 sl:s.co.length=vs.length
 yl:(s.Y.length:Int)=t.Ax
 pl:(s.P.length:Int)=t.A1
 tq:qw s.T<=b
 yq:QR b s.Y
 pq:QR b s.P
theorem Jk6(h:RbOK n kw t vs w lim){b i:Nat}{co:List Qb}{cs:List Rat}{s:BkS}(hi:RbI t vs w b co cs s (i+1))(d:1<=b)(hb:b<=1000000){x:Ju}(P:t.Code[i]?=some x):
 rbBody n t (rR w) (rR vs) lim g0 (co,rF s.T,rR s.Y,rR s.P,(i:Int))=(if (qz (s.co.getD i 0):Int)<=lim then some (.go (co.set i (rF (s.co.getD i 0)),rF (Zc (tI x) (s.co.getD i 0) (vs.getD i 0) vs s).T,rR (Zc (tI x) (s.co.getD i 0) (vs.getD i 0) vs s).Y,rR (Zc (tI x) (s.co.getD i 0) (vs.getD i 0) vs s).P,(i:Int) - 1)) else some (.out (.out (g0,⟨6,2,(i:Int)⟩)))) /\
 ((qz (s.co.getD i 0):Int)<=lim->RbI t vs w (b+131) (co.set i (rF (s.co.getD i 0))) (s.co.getD i 0::cs) (Zc (tI x) (s.co.getD i 0) (vs.getD i 0) vs s) i):=by
 obtain⟨S,hoc,ho6,⟨d1,d2⟩,⟨d3,d4⟩,R⟩:=h.dims;have hn:=h.hn;have vl:=h.vl;have hkw:=h.hkw;have Y:=hi.ci;have hsl:=hi.sl;have M:=hi.cl;have hyl:=hi.yl;have hpl:=hi.pl;have B:i<vs.length:=om
 have N:=R i x P;have J:=hi.ac i B;have L:qw ((coQ vs.length t.Aw w).getD i 0)<=1+6*(kw+1):=by
  have C:QR (1+6*(kw+1)) (coQ vs.length t.Aw w):=by
   unfold coQ;refine Q8 (Q3j (kw:=kw) (List.zip t.Aw w) _ 1 (xm _) (Qpo _) (λz u=>h.wq _ (List.of_mem_zip u).2)) ?_;have V:(List.zip t.Aw w).length<=6:=by rw[gz];omega
   have:=xc (kw+1) V;omega
  exact Vt C om
 obtain⟨F,U⟩:=Jk5 h (i:=i) (co:=co) cs (i+1) n ((coQ vs.length t.Aw w).getD i 0) (1+6*(kw+1)) om hi.cd hi.cq L om (by unfold big at hn;omega);rw[<-J] at F U;have e:=fun {β:Type}(K:Qb->Option β)=>Jk4 h B K;generalize (coQ vs.length t.Aw w).getD i 0=base at F e;have A:K6 n (rF (s.co.getD i 0)) lim=some (decide ((qz (s.co.getD i 0):Int)<=lim)):=by unfold K6;rw[Qk3 (k:=100000000) hn oz om,sbind]
 have v:co[i]?=some (co[i]' om):=oi om;generalize co[i]' om=old at v
 have hstep:∀ j,j<vs.length->(Zc (tI x) (s.co.getD i 0) (vs.getD i 0) vs s).co.getD j 0=accB (tT t).Code vs j i (s.co.getD i 0::cs) ((coQ vs.length t.Aw w).getD j 0):=λj Z=>by
  have Q:(tT t).Code[i]?=some (tI x):=by show(t.Code.map tI)[i]?=_;exact Qcw tI P
  rw[Jhj N om,hi.ac j Z];simp only[accB];rw[Q,Jca]
 have hlens:=Qmi (x:=tI x) (c:=s.co.getD i 0) (r:=vs.getD i 0) (vs:=vs) (s:=s);have eT:=Jjb (x:=tI x) (c:=s.co.getD i 0) (r:=vs.getD i 0) (vs:=vs) (s:=s);have eY:=Jjc (x:=tI x) (c:=s.co.getD i 0) (r:=vs.getD i 0) (vs:=vs) (s:=s);have eP:=Jjd (x:=tI x) (c:=s.co.getD i 0) (r:=vs.getD i 0) (vs:=vs) (s:=s);rw[show(tI x).Op=x.Op from rfl] at eT eY eP;rw[show(tI x).A=x.A from rfl] at eY eP;have O:=hi.tq;have m:=hi.yq;have l:=hi.pq;generalize Zc (tI x) (s.co.getD i 0) (vs.getD i 0) vs s=s' at hstep hlens eT eY eP |-;generalize s.co.getD i 0=c at *;unfold rbBody;simp only[jn_eq];rw[oo (show(0:Int)<=(i:Int) by omega),bifT,Qdf hn,sbind,e,w1 om,F,sbind,A,sbind];by_cases u:(qz c:Int)<=lim
 case neg=>rw[oj u,ow,bifT,ol u];exact⟨rfl,λg=>absurd g u⟩
 have hlm:=h.lm;have hc129:qw c<=129:=by have:=qw_qz (q:=c) (b:=4096) om;omega
 rw[oo u,ov,bifF,oq u,Jd v,sbind,Jd P,sbind,w64 (x:=(i:Int) - 1) om om,yh]
 have X:∀ {β:Type}(K:Qb->Option β),(bif decide (x.Op=2) then (Q3 n (rF s.T) (rF c)).bind λr595=>K r595 else K (rF s.T))=K (rF s'.T):=λK=>by
  rw[eT];by_cases o:x.Op=2
  . rw[oo o,bifT,oq o,Xd (k:=b+129) hn om om om,sbind]
  . rw[oj o,bifF,ol o]
 have I:∀ {β:Type}(K:List Qb->Option β),(bif decide (x.Op=3) then (getI (rR s.Y) x.A).bind λy606=>(Q3 n y606 (rF c)).bind λr608=>(getI (rR s.Y) x.A).bind λ_=>K ((rR s.Y).set x.A.toNat r608) else K (rR s.Y))=K (rR s'.Y):=λK=>by
  rw[eY];by_cases o:x.Op=3
  . obtain⟨a1,a2⟩:=Qwr N o
    have f:0<=x.A:=a1;have E:x.A<t.Ax:=a2;have:=Vt (i:=x.A.toNat) m d;rw[oo o,bifT,oq o,Qkt f om,sbind,Xd (k:=b+129) hn om om om,sbind,sbind,Jhk];rfl
  . rw[oj o,bifF,ol o]
 have G:∀ {β:Type}(K:List Qb->Option β),(bif decide (x.Op=4) then (getI (rR s.P) x.A).bind λy612=>(Q3 n y612 (rF c)).bind λr614=>(getI (rR s.P) x.A).bind λ_=>K ((rR s.P).set x.A.toNat r614) else K (rR s.P))=K (rR s'.P):=λK=>by
  rw[eP];by_cases o:x.Op=4
  . obtain⟨a1,a2⟩:=Qws N o
    have f:0<=x.A:=a1;have E:x.A<t.A1:=a2;have:=Vt (i:=x.A.toNat) l d;rw[oo o,bifT,oq o,Qkt f om,sbind,Xd (k:=b+129) hn om om om,sbind,sbind,Jhk];rfl
  . rw[oj o,bifF,ol o]
 constructor
 . refine(X (λa=>bif decide (x.Op=3) then (getI (rR s.Y) x.A).bind λy606=>(Q3 n y606 (rF c)).bind λr608=>(getI (rR s.Y) x.A).bind λ_=>bif decide (x.Op=4) then (getI (rR s.P) x.A).bind λy612=>(Q3 n y612 (rF c)).bind λr614=>(getI (rR s.P) x.A).bind λ_=>some (Lp.go (co.set i (rF c),a,(rR s.Y).set x.A.toNat r608,(rR s.P).set x.A.toNat r614,(i:Int) - 1)) else some (Lp.go (co.set i (rF c),a,(rR s.Y).set x.A.toNat r608,rR s.P,(i:Int) - 1))
    else bif decide (x.Op=4) then (getI (rR s.P) x.A).bind λy612=>(Q3 n y612 (rF c)).bind λr614=>(getI (rR s.P) x.A).bind λ_=>some (Lp.go (co.set i (rF c),a,rR s.Y,(rR s.P).set x.A.toNat r614,(i:Int) - 1)) else some (Lp.go (co.set i (rF c),a,rR s.Y,rR s.P,(i:Int) - 1)))).trans ?_
   refine(I (λy=>bif decide (x.Op=4) then (getI (rR s.P) x.A).bind λy612=>(Q3 n y612 (rF c)).bind λr614=>(getI (rR s.P) x.A).bind λ_=>some (Lp.go (co.set i (rF c),rF s'.T,y,(rR s.P).set x.A.toNat r614,(i:Int) - 1)) else some (Lp.go (co.set i (rF c),rF s'.T,y,rR s.P,(i:Int) - 1)))).trans ?_;exact G (λp=>some (Lp.go (co.set i (rF c),rF s'.T,rR s'.Y,p,(i:Int) - 1)))
 . intro _
   refine⟨by rw[wj];exact M,by rw[Jcb om,hi.cd];rfl,λq C=>?_,by rw[xn];omega,hstep,om,om,om,?_,?_,?_⟩
   . rcases xu.1 C with rfl | C
     . exact hc129
     . exact hi.cq q C
   . rw[eT];split
     . have:=Yz O hc129;omega
     . omega
   . rw[eY];split
     . exact Q8 (Qth d m hc129) om
     . exact Q8 m om
   . rw[eP];split
     . exact Q8 (Qth d l hc129) om
     . exact Q8 l om
theorem Jk7(h:RbOK n kw t vs w lim)(K:RbT->Option (Jp×J3)):∀(i a b:Nat) (co:List Qb) (cs:List Rat) (s:BkS),RbI t vs w b co cs s i->1<=b->b+i*131<=1000000->i<a ->
 match pullQ lim (tT t).Code vs i s with
 | .inl j=>(loopM (rbBody n t (rR w) (rR vs) lim g0) a (co,rF s.T,rR s.Y,rR s.P,(i:Int) - 1)).bind (lpK K)=some (g0,⟨6,2,(j:Int)⟩)
 | .inr z=>(loopM (rbBody n t (rR w) (rR vs) lim g0) a (co,rF s.T,rR s.Y,rR s.P,(i:Int) - 1)).bind (lpK K)=K (rF z.T,rR z.Y,rR z.P)/\qw z.T<=1000000/\QR 1000000 z.Y/\QR 1000000 z.P/\(z.Y.length:Int)=t.Ax/\(z.P.length:Int)=t.A1:=by
 intro i
 induction i with
 | zero=>
   intro a b co cs s hi d hb f;simp only[pullQ];refine⟨?_,by have:=hi.tq;omega,Q8 hi.yq om,Q8 hi.pq om,hi.yl,hi.pl⟩;rw[Vv (t:=Lp.go (rF s.T,rR s.Y,rR s.P)) (by unfold rbBody;simp only[jn_eq];rw[oj om,bifF]) om,xq,Wv]
 | succ i u=>
   intro a b co cs s hi d hb f;obtain⟨n'',rfl⟩:∃ n'',a=n''+1:=⟨a - 1,om⟩
   have r:=hi.ci;have vl:=h.vl;have g:t.Code[i]?=some (t.Code[i]' om):=oi om;generalize t.Code[i]' om=x at g;have l:(tT t).Code[i]?=some (tI x):=by show(t.Code.map tI)[i]?=_;exact Qcw tI g
   obtain⟨e,q⟩:=Jk6 (g0:=g0) h hi d om g;simp only[pullQ,l];rw[show((i+1:Nat):Int) - 1=(i:Int) by omega];by_cases m:(qz (s.co.getD i 0):Int)<=lim;rw[oq m] at e |-;rw[Qbp e];exact u n'' (b+131) _ _ _ (q m) om om om;rw[ol m] at e |-;simp only[];rw[Vv e om,xq,Qap]
end
theorem Q5e{n k kw:Nat}{t:Jf}{T:Rat}{Y P w:List Rat}{lim:Int}(hn:big<=n)(E:129<=k)(hk:k<1048576)(hkw:kw<=1000000)(y:tapeR (tT t))(L:∀ c∈t.Code,Fk k (tF c.N))
 (N:qw T<=k) (O:QR k Y) (M:QR k P) (X:QR kw w) (Z:(Y.length:Int)=t.Ax) (hp:(P.length:Int)=t.A1) (A:w.length=t.Aw.length) (u:lim<=4096) :
 Qba n t ⟨rF T,rR Y,rR P⟩ (rR w) lim=some (match backQ (tT t) lim T Y P w with | .inl e=>(⟨rF 0,[],[]⟩,⟨e.1,e.2.1,(e.2.2:Int)⟩) | .inr z=>(⟨rF z.1,rR z.2.1,rR z.2.2⟩,⟨0,0,0⟩)) /\
 (∀ e,backQ (tT t) lim T Y P w=.inl e->e.1≠0)/\∀ z,backQ (tT t) lim T Y P w=.inr z->(z.2.1.length:Int)=t.Ax/\(z.2.2.length:Int)=t.A1/\QR 129 z.2.1/\QR 129 z.2.2:=by
 have eC:(tT t).Code=t.Code.map tI:=rfl;have Q:W7 n 0 0=some (rF 0,[],[]):=Jd9 (a:=0) (b:=0) hn om om;rw[Jnj];unfold backQ;rw[Q,sbind,Qu0 hn E hk y L N O M Z hp u,sbind];cases g:runQ lim T Y P (tT t).Code 0 [] with
 | inl e=>
   have S:=Ql2 g;simp only[];rw[oj (show ¬ e.1=0 by omega),ow,bifT];exact⟨rfl,λz h=>(by cases h;show e.1≠0;omega),λz h=>by cases h⟩
 | inr vs=>
 obtain⟨v1,v2⟩:=Qsd u (λ_ h=>by cases h) g;have x:=Jk3 y g;have vl:vs.length=t.Code.length:=by rw[v1,eC,ot,ye,xg]
 have ok:RbOK n kw t vs w lim:=⟨hn,hkw,y,x,vl,v2,X,A,u⟩
 obtain⟨C,V,U,⟨d1,d2⟩,⟨d3,d4⟩,mm1⟩:=ok.dims;obtain⟨d,eDim⟩:∃ d:Nat,t.Ax=(d:Int):=⟨t.Ax.toNat,om⟩
 obtain⟨f,ePar⟩:∃ f:Nat,t.A1=(f:Int):=⟨t.A1.toNat,om⟩
 simp only[];rw[oo trivial,ov,bifF,Kn,Qfd om om,sbind,show W7 n t.Ax t.A1=some (rF 0,rR (List.replicate d 0),rR (List.replicate f 0)) by rw[eDim,ePar];exact Jd9 hn om om,sbind];have eDn:(tT t).Ax.toNat=d:=by show t.Ax.toNat=d;omega
 have ePn:(tT t).A1.toNat=f:=by show t.A1.toNat=f;omega
 rw[eDn,ePn,show(tT t).Aw=t.Aw from rfl,w64 om om]
 have hI:RbI t vs w 1 (List.replicate vs.length ⟨false,[],[]⟩) [] ⟨coQ vs.length t.Aw w,0,List.replicate d 0,List.replicate f 0⟩ vs.length:=
  ⟨oc,by rw[xl oc];rfl,λ_ h=>(by cases h),oc,λj R=>(by simp only[accB]),Jdw,by simp[eDim],by simp[ePar],by rw[Y8];exact xm _,Qpo _,Qpo _⟩
 have m:=Jk7 (g0:=⟨rF 0,[],[]⟩) ok (rbEnd n lim ⟨rF 0,[],[]⟩) vs.length n 1 _ _ _ hI (xm _) om (by unfold big at hn;omega);cases s:pullQ lim (tT t).Code vs vs.length ⟨coQ vs.length t.Aw w,0,List.replicate d 0,List.replicate f 0⟩ with
 | inl j=>
   rw[s] at m;simp only[] at m |-;exact⟨m,λe h=>(by cases h;show(6:Int)≠0;decide),λz h=>by cases h⟩
 | inr z=>
   rw[s] at m;simp only[] at m |-;obtain⟨v,F,G,I,J,K⟩:=m;rw[v];unfold rbEnd;have eall:[rF z.T]++rR z.Y++rR z.P=rR (z.T::(z.Y++z.P)):=by unfold rR;simp
   have r:QR 1000000 (z.T::(z.Y++z.P)):=λq i=>by rcases xu.1 i with rfl | i;exact F;rcases yr.1 i with i | i;exact G q i;exact I q i
   simp only[];rw[J9 (by simp[Kn];omega) (by simp[Kn];omega),sbind,J9 (by simp[Kn];omega) (by simp[Kn];omega),sbind,eall,Qdz (lim:=lim) hn (show 1000000<274877906944 by decide) r oh,sbind];cases B:fitQ lim (z.T::(z.Y++z.P)) 0 with
   | some j=>
     have R:=Qjl B;simp only[];rw[Kn,oo om,bifT];exact⟨rfl,λe h=>(by cases h;show(6:Int)≠0;decide),λz h=>by cases h⟩
   | none=>
     have i:=Qmh u B;simp only[];rw[Kn,oj om,bifF];refine⟨rfl,λe h=>(by cases h),λz' h=>?_⟩;cases h;exact⟨J,K,λq l=>i q (by simp[l]),λq l=>i q (by simp[l])⟩
abbrev RcS:=(List (List Qb))×Qi×Int
def rcBody(n:Nat)(x0:Qt)(e x2:Qb)(x4:List Qb)(a:List (List Qb))(d:Int):RcS->Option (Lp RcS (Lp Qi (Qi×J3))):=λ(s247:(List (List Qb))×Qi×Int)=>
 bif decide ((0:Int)<=s247.2.2) then (
  (loopM (λ(s289:(List Qb)×Int)=>
   bif decide (s289.2<(x4.length:Int)) then (
    (getI x0.Aq.B s247.2.2).bind λy290=>
    (getI x4 s289.2).bind λy292=>
    (Jh n y290 y292).bind λr294=>
    (loopM (λ(s311:Qb×Int)=>
     bif decide (s311.2<(x0.Aq.B.length:Int)) then (
      (getI x0.Aq.A s311.2).bind λy312=>
      (getI y312 s247.2.2).bind λy314=>
      (getI s247.1 s311.2).bind λy316=>
      (getI y316 s289.2).bind λy318=>
      (Jh n y314 y318).bind λr320=>
      (Q3 n s311.1 r320).bind λr322=>
      some (Lp.go (r322,wrap64 (s311.2+(1:Int)))))
     else (
      some (Lp.out s311.1))) n (r294,wrap64 (s247.2.2+(1:Int)))).bind λ(t309:Qb)=>
    (Jh n x2 t309).bind λr324=>
    (appM 56 s289.1 ([r324]:List Qb)).bind λy326=>
    some (Lp.go (y326,wrap64 (s289.2+(1:Int)))))
   else (
    some (Lp.out s289.1))) n (([]:List Qb),(0:Int))).bind λ(t287:(List Qb))=>
  (Ke n t287 d).bind λr328=>
  bif decide (r328<(t287.length:Int)) then (
   some (Lp.out (Lp.out (((⟨[],[]⟩:Qi),(⟨(6:Int),s247.2.2,wrap64 ((300:Int)+r328)⟩:J3))))))
  else (
   (Wi n x0 e x2 s247.2.2).bind λr330=>
   (getI a s247.2.2).bind λy332=>
   (Wr n x0 r330 y332).bind λr334=>
   (Qba n x0.Tape r334 t287 d).bind λr336=>
   bif !decide (r336.2.a0=(0:Int)) then (
    some (Lp.out (Lp.out (((⟨[],[]⟩:Qi),(⟨r336.2.a0,s247.2.2,r336.2.a2⟩:J3))))))
   else (
    (getI s247.1 s247.2.2).bind λ_=>
    (Vq n s247.2.1.Y r336.1.Y).bind λr340=>
    (Vq n s247.2.1.P r336.1.P).bind λr342=>
    some (Lp.go ((List.set s247.1 (Int.toNat s247.2.2) r336.1.Y),(⟨r340,r342⟩:Qi),wrap64 (s247.2.2 - (1:Int)))))))
 else (
  some (Lp.out (Lp.go s247.2.1)))
def rcEnd(n:Nat)(x0:Qt)(a:Int):Qi->Option (Qi×J3):=λ(t245:Qi)=>
    (Ke n t245.Y a).bind λr344=>
    bif decide (r344<(t245.Y.length:Int)) then (
     some ((⟨[],[]⟩:Qi),(⟨(6:Int),(x0.Aq.B.length:Int),wrap64 ((300:Int)+r344)⟩:J3)))
    else (
     (Ke n t245.P a).bind λr346=>
     bif decide (r346<(t245.P.length:Int)) then (
      some ((⟨[],[]⟩:Qi),(⟨(6:Int),wrap64 ((x0.Aq.B.length:Int)+(1:Int)),wrap64 ((300:Int)+r346)⟩:J3)))
     else (
      some (t245,(⟨0,0,0⟩:J3))))
theorem Jnk{n:Nat}{x0:Qt}{d x2:Qb}{f x4:List Qb}:Zw n x0 d x2 f x4=(Zd x0.Av).bind λe=>
 (Qcc n x0 d x2 f).bind λa=>
 bif !decide (a.2.a0=(0:Int)) then (
  some ((⟨[],[]⟩:Qi),a.2))
 else (
  (mkM 24 ([]:(List Qb)) (x0.Aq.B.length:Int)).bind λi=>
  (appM 56 ([]:List Qb) x4).bind λj=>
  (Ve n (x0.P.length:Int)).bind λg=>
  (loopM (rcBody n x0 d x2 x4 a.1.Ys e) n (i,(⟨j,g⟩:Qi),wrap64 ((x0.Aq.B.length:Int) - (1:Int)))).bind (lpK (rcEnd n x0 e))):=vw (vw rfl)
structure RcOK(n k:Nat)(p:Qt)(T H:Rat)(W:List Rat)(yss:List (List Rat)):Prop where
 hn:big<=n
 h0:129<=k
 hk:k<8000
 hp:PrbWr k p
 hr:prbR (tP p)
 qT:qw T<=k
 qH:qw H<=k
 qW:QR k W
 wl:(W.length:Int)=p.Tape.Ax
 ys:∀ a∈yss,QR 129 a/\a.length=W.length
 yl:yss.length=p.Aq.B.length
section
variable {n k:Nat}{p:Qt}{T H:Rat}{W:List Rat}{yss:List (List Rat)}{lim:Int}
def coefQ(p:Qt)(i:Nat):List Rat:=(((tS p.Aq).A.map rv).drop (i+1)).map λa=>a.getD i 0
theorem Jhl(h:RcOK n k p T H W yss){i:Nat}{b:Qb}{ls:List (List Rat)}{m:List (List Qb)}(hb:p.Aq.B[i]?=some b)(hls:ls.length+(i+1)=p.Aq.B.length)(e:∀ a∈ls,QR 129 a/\a.length=W.length)(V:m.drop (i+1)=rRR ls):
 (∀ {β:Type}(K:List Qb->Option β),(loopM (λ(s289:(List Qb)×Int)=>
      bif decide (s289.2<((rR W).length:Int)) then (
       (getI p.Aq.B (i:Int)).bind λy290=>
       (getI (rR W) s289.2).bind λy292=>
       (Jh n y290 y292).bind λr294=>
       (loopM (λ(s311:Qb×Int)=>
        bif decide (s311.2<(p.Aq.B.length:Int)) then (
         (getI p.Aq.A s311.2).bind λy312=>
         (getI y312 (i:Int)).bind λy314=>
         (getI m s311.2).bind λy316=>
         (getI y316 s289.2).bind λy318=>
         (Jh n y314 y318).bind λr320=>
         (Q3 n s311.1 r320).bind λr322=>
         some (Lp.go (r322,wrap64 (s311.2+(1:Int)))))
        else (
         some (Lp.out s311.1))) n (r294,wrap64 ((i:Int)+(1:Int)))).bind λ(t309:Qb)=>
       (Jh n (rF H) t309).bind λr324=>
       (appM 56 s289.1 ([r324]:List Qb)).bind λy326=>
       some (Lp.go (y326,wrap64 (s289.2+(1:Int)))))
      else (
       some (Lp.out s289.1))) n (([]:List Qb),(0:Int))).bind K=K (rR (bslQ ((tS p.Aq).A.map rv) (fr b) H W i ls)))/\QR (21*k) (bslQ ((tS p.Aq).A.map rv) (fr b) H W i ls)/\(bslQ ((tS p.Aq).A.map rv) (fr b) H W i ls).length=W.length:=by
 have hn:=h.hn;have h0:=h.h0;have hk:=h.hk;obtain⟨U,S,hpl⟩:=h.hr;have s:schR (tS p.Aq):=S;have J:tapeR (tT p.Tape):=U;obtain⟨⟨d1,d2⟩,_⟩:=J.1;have d2':p.Tape.Ax<=6:=d2;have hwl:=h.wl;obtain⟨nA,nB,nC,nE⟩:=Q7b s;obtain⟨⟨⟨g1,g2⟩,g3,g4,g5⟩,g6⟩:=Ql4.1 s.2.1;have C:=Jw hb;have ebF:=Qsh (nB b C);have X:qw (fr b)<=k:=qw_fr (Fk_wd (h.hp.s.b b C)) om;have r:(bslQ ((tS p.Aq).A.map rv) (fr b) H W i ls).length=W.length:=Jbr λa f=>(e a f).2;have eAl:((tS p.Aq).A.map rv).length=p.Aq.A.length:=by show((p.Aq.A.map (·.map tF)).map rv).length=_;rw[ot,ot]
 have hcl:(coefQ p i).length=ls.length:=by unfold coefQ;rw[ot,uz,eAl];omega
 have F:∀ q,q<ls.length->∃ a x,p.Aq.A[i+1+q]?=some a/\a[i]?=some x/\rF (fr x)=x/\(coefQ p i)[q]?=some (fr x)/\qw (fr x)<=k:=λq B=>by
  have f:p.Aq.A[i+1+q]?=some (p.Aq.A[i+1+q]' om):=oi om;have y:=xa (l:=p.Aq.A) (n:=i+1+q) om;generalize p.Aq.A[i+1+q]' om=a at f y;have hal:=g6 (i+1+q) om a f;have L:a[i]?=some (a[i]' om):=oi om;have A:=xa (l:=a) (n:=i) om;generalize a[i]' om=x at L A;refine⟨a,x,f,L,Qsh (nA a y x A),?_,qw_fr (Fk_wd (h.hp.s.a a y x A)) om⟩;have M:((tS p.Aq).A.map rv)[i+1+q]?=some (rvr a):=by
   show((p.Aq.A.map (·.map tF)).map rv)[i+1+q]?=_;rw[xr,xr,f];exact um some (Qef a)
  unfold coefQ;rw[xr,vk,M];have N:(rvr a)[i]?=some (fr x):=by unfold rvr;exact Qcw fr L
  exact um some (Qoj N)
 have cQ:QR k (coefQ p i):=λz g=>by obtain⟨q,B,rfl⟩:=List.getElem_of_mem g;obtain⟨a,x,_,_,_,Z,L⟩:=F q om;rw[oi B] at Z;rw[Option.some.inj Z];exact L
 have h8:ls.length*(k+129+1)<=8*(k+129+1):=xc _ om;have zl:(scaleQ (fr b) W).length=W.length:=Z1;have E:bslQ ((tS p.Aq).A.map rv) (fr b) H W i ls=scaleQ H (mixQ (coefQ p i) ls (scaleQ (fr b) W)):=rfl;have qmix:=Qtb (b:=k+k) cQ (λa f=>(e a f).1) (Ql0 X h.qW);have qall:=Ql0 h.qH qmix;refine⟨fun {β} K=>?_,?_,r⟩;rw[V3 (λd=>(rR ((bslQ ((tS p.Aq).A.map rv) (fr b) H W i ls).take d),(d:Int))) W.length (rR (bslQ ((tS p.Aq).A.map rv) (fr b) H W i ls))];intro d hd;have O:W[d]?=some W[d]:=oi hd;have v:=h.qW _ (xa hd);generalize W[d]=u at O v;have q0:=Xl X v;have P:(bslQ ((tS p.Aq).A.map rv) (fr b) H W i ls)[d]?=some (H*mixI (coefQ p i) ls d (fr b*u)):=by
  have hm:=Q3g (cs:=coefQ p i) (l:=ls) (z:=scaleQ (fr b) W) hd (λa f=>(e a f).2) zl;have g:(scaleQ (fr b) W)[d]?=some (fr b*u):=by unfold scaleQ;rw[xr,O];rfl
  rw[Qoj g] at hm;have hml:(mixQ (coefQ p i) ls (scaleQ (fr b) W)).length=W.length:=Qgv (λa f=>(e a f).2) zl;have I:(mixQ (coefQ p i) ls (scaleQ (fr b) W))[d]?=some (mixI (coefQ p i) ls d (fr b*u)):=by rw[<-hm,ou,oi om];rfl
  rw[E];unfold scaleQ at I |-;rw[xr,I];rfl
 have hloop:∀ {γ:Type}(K':Qb->Option γ),(loopM (λ(s311:Qb×Int)=>
  bif decide (s311.2<(p.Aq.B.length:Int)) then (
   (getI p.Aq.A s311.2).bind λy312=>
   (getI y312 (i:Int)).bind λy314=>
   (getI m s311.2).bind λy316=>
   (getI y316 (d:Int)).bind λy318=>
   (Jh n y314 y318).bind λr320=>
   (Q3 n s311.1 r320).bind λr322=>
   some (Lp.go (r322,wrap64 (s311.2+(1:Int)))))
  else (
   some (Lp.out s311.1))) n (rF (fr b*u),((i+1:Nat):Int))).bind K'=K' (rF (mixI (coefQ p i) ls d (fr b*u))):=λK'=>by
  rw[V3 (λq=>(rF (mixI ((coefQ p i).take q) (ls.take q) d (fr b*u)),((i+1+q:Nat):Int))) ls.length (rF (mixI (coefQ p i) ls d (fr b*u)))];intro q B;obtain⟨a,x,M,N,e3,e4,Y⟩:=F q B;have Q:ls[q]?=some ls[q]:=oi B;obtain⟨lq,ll⟩:=e _ (xa B);generalize ls[q]=l at Q lq ll;have hy:m[i+1+q]?=some (rR l):=by have:=um (λz=>z[q]?) V;simp only[vk] at this;rw[this];exact Q68 Q
  have R:l[d]?=some (l.getD d 0):=by rw[ou,oi om];rfl
  have G:=Vt (i:=d) lq oz;have hpar:=Qsi (i:=d) (z:=fr b*u) (b:=k+k) (cs:=(coefQ p i).take q) (l:=ls.take q) (j:=k) (k:=129) om (λz g=>cQ z (ym g)) (λz g=>(e z (ym g)).1) om;have h8':(ls.take q).length*(k+129+1)<=8*(k+129+1):=xc _ (by rw[xi];omega);have hmul:=Xl Y G;rw[Yn e4,Yn Q,Q0n (by rw[xi,xi];omega)];simp only[];rw[oo (show((i+1+q:Nat):Int)<(p.Aq.B.length:Int) by omega),bifT,Jd M,sbind,Jd N,sbind,Jd hy,sbind,Jd (Qh2 R),sbind]
  rw[show Jh n x (rF (l.getD d 0))=some (rF (fr x*l.getD d 0)) by
   have:=Qac (p:=fr x) (q:=l.getD d 0) (k:=k) hn om Y om
   rwa [e3] at this,sbind,Xd (k:=20*k) hn om om om,sbind,w1 om]
  rfl;simp only[];rw[oj om,bifF,xb om,xh];unfold big at hn;omega;rfl
 have hmI:=Qsi (i:=d) (z:=fr b*u) (b:=k+k) (cs:=coefQ p i) (l:=ls) (j:=k) (k:=129) om cQ (λz g=>(e z g).1) om;simp only[Kn];rw[oo (show(d:Int)<(W.length:Int) by omega),bifT,Jd hb,sbind,Jd (Qh2 O),sbind]
 rw[show Jh n b (rF u)=some (rF (fr b*u)) by
  have:=Qac (p:=fr b) (q:=u) (k:=k) hn om X v
  rwa [ebF] at this,sbind,w1 om,hloop,Qac (k:=20*k) hn om (by have:=h.qH;omega) om,sbind,J9 (by simp[Kn];omega) (by simp[Kn];omega),sbind,w1 om,Yn P,Qoh]
 simp only[Kn];rw[oj om,bifF,<-r,xh];unfold big at hn;omega;rfl;rw[E];exact Q8 qall om
structure RcI(p:Qt)(W:List Rat)(b:Nat)(ysr:List (List Qb))(z:BdS)(i:Nat):Prop where
 cl:ysr.length=p.Aq.B.length
 cd:ysr.drop i=rRR z.ls
 ci:z.ls.length+i=p.Aq.B.length
 lq:∀ a∈z.ls,QR 129 a/\a.length=W.length
 yl:z.Y.length=W.length
 pl:z.P.length=p.P.length
 yq:QR b z.Y
 pq:QR b z.P
theorem Jk8(h:RcOK n k p T H W yss)(B:lim<=4096){b0 i:Nat}{d:List (List Qb)}{z:BdS}(hi:RcI p W b0 d z (i+1))(u:129<=b0)(hb:b0<=1000000):
 match bstageQ (tT p.Tape) lim T H (rvr p.P) (yss.getD i []) ((rv (tS p.Aq).C).getD i 0) (bslQ ((tS p.Aq).A.map rv) ((rv (tS p.Aq).B).getD i 0) H W i z.ls) i with
 | .inl f=>rcBody n p (rF T) (rF H) (rR W) (rRR yss) lim (d,⟨rR z.Y,rR z.P⟩,(i:Int))=some (.out (.out (⟨[],[]⟩,⟨f.Au,f.A0,f.At⟩)))
 | .inr g=>rcBody n p (rF T) (rF H) (rR W) (rRR yss) lim (d,⟨rR z.Y,rR z.P⟩,(i:Int))=some (.go (d.set i (rR g.1),⟨rR (addQ z.Y g.1),rR (addQ z.P g.2)⟩,(i:Int) - 1))/\RcI p W (b0+130) (d.set i (rR g.1)) ⟨g.1::z.ls,addQ z.Y g.1,addQ z.P g.2⟩ i:=by
 have hn:=h.hn;have h0:=h.h0;have hk:=h.hk;obtain⟨U,S,Q⟩:=h.hr;have q:schR (tS p.Aq):=S;have r:tapeR (tT p.Tape):=U;obtain⟨⟨d1,d2⟩,⟨d3,d4⟩,d5,d6⟩:=r.1;have d1':1<=p.Tape.Ax:=d1;have d2':p.Tape.Ax<=6:=d2;have d4':p.Tape.A1<=6:=d4;have d5':(p.Tape.Aw.length:Int)=p.Tape.Ax:=d5;have hwl:=h.wl;obtain⟨nA,nB,nC,nE⟩:=Q7b q;obtain⟨⟨⟨g1,g2⟩,g3,g4,g5⟩,g6⟩:=Ql4.1 q.2.1;have E:(p.P.length:Int)=p.Tape.A1:=by
  have e:((tP p).P.length:Int)=(p.P.length:Int):=by unfold tP;simp
  rw[<-e];exact Q
 have L:QR k (rvr p.P):=Qnl (λf A=>Fk_wd (h.hp.pk f A)) om;have J:((rvr p.P).length:Int)=p.Tape.A1:=by rw[Qeg];exact E
 have hNorm:Xh n p.P=some (rR (rvr p.P)):=Qka hn om (λf A=>Fk_wd (h.hp.pk f A)) h.hp.pl;have hci:=hi.ci;have O:=hi.cl;have hyl:=h.yl;have hil:i<p.Aq.B.length:=om
 have F:p.Aq.B[i]?=some (p.Aq.B[i]' om):=oi om;have G:p.Aq.C[i]?=some (p.Aq.C[i]' om):=oi om;have M:yss[i]?=some (yss[i]' om):=oi om;obtain⟨yq,yl⟩:=h.ys _ (xa (l:=yss) (n:=i) om);have s:=xa (l:=p.Aq.C) (n:=i) om;generalize p.Aq.B[i]' om=b at F;generalize p.Aq.C[i]' om=c at G s;have eYd:yss.getD i []=yss[i]' om:=by rw[ou,M];rfl
 rw[eYd];generalize yss[i]' om=yi at M yq yl;have eB:(rv (tS p.Aq).B).getD i 0=fr b:=by have:rv (tS p.Aq).B=rvr p.Aq.B:=Qef _;rw[this];exact Qoj (by unfold rvr;exact Qcw fr F)
 have eC:(rv (tS p.Aq).C).getD i 0=fr c:=by have:rv (tS p.Aq).C=rvr p.Aq.C:=Qef _;rw[this];exact Qoj (by unfold rvr;exact Qcw fr G)
 rw[eB,eC];obtain⟨s1,X,s3⟩:=Jhl h F om hi.lq hi.cd;have R:=Qsh (nC c s);have y:qw (fr c)<=k:=qw_fr (Fk_wd (h.hp.s.c c s)) om;have m:=Qdz (lim:=lim) hn (show 21*k<274877906944 by omega) X om;generalize bslQ ((tS p.Aq).A.map rv) (fr b) H W i z.ls=sl at s1 X s3 m |-;unfold bstageQ rcBody;simp only[];rw[oo (show(0:Int)<=(i:Int) by omega),bifT,s1,m,sbind];cases A:fitQ lim sl 0 with
 | some j=>
   have hj:=Qjl A;simp only[];rw[Kn,oo om,bifT,w64 om om]
 | none=>
   simp only[];have C:=Xl h.qH y;have Z:=Yz h.qT C;have qT:=h.qT;have I:Wi n p (rF T) (rF H) (i:Int)=some (rF (T+H*fr c)):=by unfold Wi;rw[Jd G,sbind,<-R,Qac (k:=k) hn om h.qH y,sbind,fr_rF,Xd (k:=4*k) hn om om om,sbind]
   have K:Wr n p (rF (T+H*fr c)) (rR yi)=some ⟨rF (T+H*fr c),rR yi,rR (rvr p.P)⟩:=by unfold Wr;rw[hNorm,sbind]
   obtain⟨b1,b2,b3⟩:=Q5e (k:=22*k) (kw:=21*k) (t:=p.Tape) (T:=T+H*fr c) (Y:=yi) (P:=rvr p.P) (w:=sl) (lim:=lim) hn om om om r (λx hx=>Wf (h.hp.t x hx) om) om (Q8 yq om) (Q8 L om) X om J om B;rw[Kn,oj om,bifF,I,sbind,Jd (Q68 M),sbind,K,sbind,b1,sbind];cases v:backQ (tT p.Tape) lim (T+H*fr c) yi (rvr p.P) sl with
   | inl e=>
     have:=b2 e v;simp only[];rw[oj this,ow,bifT]
   | inr g=>
     obtain⟨l1,l2,V,q2⟩:=b3 g v;have hold:d[i]?=some (d[i]' om):=oi om;have hyl':=hi.yl;have hpl2:=hi.pl;simp only[];rw[oo trivial,ov,bifF,Jd hold,sbind,Qml (k:=b0) hn om hi.yq (Q8 V u) om om,sbind,Qml (k:=b0) hn om hi.pq (Q8 q2 u) om om,sbind,yh,w64 (x:=(i:Int) - 1) om om];refine⟨rfl,by rw[wj];exact O,?_,by simp only[xn];omega,λa N=>?_,by simp only[Zu];omega,by simp only[Zu];omega,Q8 (Ql1 hi.yq V) om,Q8 (Ql1 hi.pq q2) om⟩;rw[Jcb om,hi.cd];rfl;rcases xu.1 N with rfl | N;exact⟨V,om⟩;exact hi.lq a N
theorem Jk9(h:RcOK n k p T H W yss)(j:lim<=4096)(K:Qi->Option (Qi×J3)):∀(i d b0:Nat) (a:List (List Qb)) (z:BdS),RcI p W b0 a z i->129<=b0->b0+i*130<=1000000->i<d ->
 match bstagesQ (tT p.Tape) (tS p.Aq) lim T H (rvr p.P) W yss i z with
 | .inl f=>(loopM (rcBody n p (rF T) (rF H) (rR W) (rRR yss) lim) d (a,⟨rR z.Y,rR z.P⟩,(i:Int) - 1)).bind (lpK K)=some (⟨[],[]⟩,⟨f.Au,f.A0,f.At⟩)
 | .inr g=>(loopM (rcBody n p (rF T) (rF H) (rR W) (rRR yss) lim) d (a,⟨rR z.Y,rR z.P⟩,(i:Int) - 1)).bind (lpK K)=K ⟨rR g.Y,rR g.P⟩/\QR 1000000 g.Y/\QR 1000000 g.P/\g.Y.length=W.length/\g.P.length=p.P.length:=by
 intro i
 induction i with
 | zero=>
   intro d b0 a z hi e hb m;simp only[bstagesQ];refine⟨?_,Q8 hi.yq om,Q8 hi.pq om,hi.yl,hi.pl⟩;rw[Vv (t:=Lp.go ⟨rR z.Y,rR z.P⟩) (by unfold rcBody;simp only[];rw[oj om,bifF]) om,xq,Wv]
 | succ i s=>
   intro d b0 a z hi e hb m;obtain⟨n'',rfl⟩:∃ n'',d=n''+1:=⟨d - 1,om⟩
   have hs:=Jk8 h j hi e om;simp only[bstagesQ];rw[show((i+1:Nat):Int) - 1=(i:Int) by omega];cases l:bstageQ (tT p.Tape) lim T H (rvr p.P) (yss.getD i []) ((rv (tS p.Aq).C).getD i 0) (bslQ ((tS p.Aq).A.map rv) ((rv (tS p.Aq).B).getD i 0) H W i z.ls) i with
   | inl f=>
     rw[l] at hs;simp only[] at hs |-;rw[Vv hs om,xq,Qap]
   | inr g=>
     rw[l] at hs;simp only[] at hs |-;obtain⟨q,r⟩:=hs;rw[Qbp q];exact s n'' (b0+130) _ _ r om om om
end
theorem Q0p{n k:Nat}{p:Qt}{T H:Rat}{Y W:List Rat}(hn:big<=n)(h0:129<=k)(hk:k<8000)(hp:PrbWr k p)(hr:prbR (tP p))(B:qw T<=k)(A:qw H<=k)(Q:QR k Y)(F:(Y.length:Int)=p.Tape.Ax)(C:QR k W)(v:W.length=Y.length):
 Zw n p (rF T) (rF H) (rR Y) (rR W)=some (match backThQ (tP p) T H Y W with | .inl f=>(⟨[],[]⟩,⟨f.Au,f.A0,f.At⟩) | .inr z=>(⟨rR z.2.1,rR z.2.2⟩,⟨0,0,0⟩)):=by
 have i:=Ji9 (T:=T) (H:=H) hr F;have eL:Zd p.Av=some (limQ p.Av):=rfl;have hlim4:limQ p.Av<=4096:=by unfold limQ;omega
 have r:rv (tP p).P=rvr p.P:=Qef p.P;have l:schR (tS p.Aq):=hr.2.1;have q:tapeR (tT p.Tape):=hr.1;obtain⟨⟨⟨g1,g2⟩,g3,g4,g5⟩,g6⟩:=Ql4.1 l.2.1;obtain⟨⟨X,J⟩,⟨Z,L⟩,d5,d6⟩:=q.1;have K:p.Tape.Ax<=6:=J;have M:p.Tape.A1<=6:=L;have G:(p.P.length:Int)=p.Tape.A1:=by
  have e:((tP p).P.length:Int)=(p.P.length:Int):=by unfold tP;simp
  rw[<-e];exact hr.2.2
 rw[Jnk];unfold backThQ;rw[eL,sbind,Q9i hn h0 hk hp hr B A Q F,sbind,i];cases hd:doQ (tT p.Tape) (tS p.Aq) (limQ p.Av) T H Y (rvr p.P) with
 | inl f=>
   have u:=Jbg hd;have U:f.Au≠2:=by have:=(doQ_f hd).1;omega
   simp only[];rw[oj u,ow,bifT,ol (by rintro(g | g)<;>contradiction)]
 | inr z=>
 rw[hd] at i;obtain⟨I,V⟩:=Qx1 i;have y:z.ys.length=p.Aq.B.length:=by rw[V];show(tS p.Aq).B.length=_;unfold tS;simp
 simp only[];rw[oo trivial,ov,bifF,ol (by intro g;exact g v),r];rw[show(tP p).Tape=tT p.Tape from rfl,show(tP p).Aq=tS p.Aq from rfl,show(tP p).Av=p.Av from rfl,show(toMr z).Ys=rRR z.ys from rfl];have ok:RcOK n k p T H W z.ys:=⟨hn,h0,hk,hp,hr,B,A,C,om,λa E=>⟨(I a E).1,by rw[(I a E).2];omega⟩,y⟩
 have eZ:Ve n (p.P.length:Int)=some (rR (List.replicate p.P.length 0)):=Qfl hn om;rw[Qfd om om,sbind,J9 (by simp[Kn];omega) (by simp[Kn];omega),sbind,eZ,sbind,yw,w64 om om]
 have hI:RcI p W k (List.replicate p.Aq.B.length []) ⟨[],W,List.replicate p.P.length 0⟩ p.Aq.B.length:=
  ⟨oc,by rw[xl oc];rfl,oc,λ_ h=>(by cases h),rfl,oc,C,Q8 (Qpo _) om⟩
 have d:=Jk9 ok hlim4 (rcEnd n p (limQ p.Av)) p.Aq.B.length n k _ _ hI h0 om (by unfold big at hn;omega);have eBl:(tS p.Aq).B.length=p.Aq.B.length:=by unfold tS;simp
 have ePl:(rvr p.P).length=p.P.length:=Qeg _;unfold bdoQ;rw[eBl,ePl];cases m:bstagesQ (tT p.Tape) (tS p.Aq) (limQ p.Av) T H (rvr p.P) W z.ys p.Aq.B.length ⟨[],W,List.replicate p.P.length 0⟩ with
 | inl f=>
   rw[m] at d;simp only[] at d |-;exact d
 | inr g=>
   rw[m] at d;simp only[] at d |-;obtain⟨N,O,P,e4,e5⟩:=d;rw[N];unfold rcEnd;simp only[];rw[Qdz (lim:=limQ p.Av) hn (show 1000000<274877906944 by decide) O om,sbind];cases R:fitQ (limQ p.Av) g.Y 0 with
   | some j=>
     have S:=Qjl R;simp only[];rw[Kn,oo om,bifT,w64 om om]
   | none=>
     simp only[];rw[Kn,oj om,bifF,Qdz (lim:=limQ p.Av) hn (show 1000000<274877906944 by decide) P om,sbind];cases s:fitQ (limQ p.Av) g.P 0 with
     | some j=>
       have S:=Qjl s;simp only[];rw[Kn,oo om,bifT,w64 (x:=300+(j:Int)) om om,w1 om];rfl
     | none=>
       simp only[];rw[Kn,oj om,bifF]
set_option maxRecDepth 100000
theorem Jhm{n k:Nat}{a b:List Rat}(hn:big<=n)(hk:k<274877906944)(d:QR k a)(hb:QR k b)(la:a.length<=1000000)(lb:b.length<=1000000):((Zk n ⟨toR a,toR b⟩).bind λr=>Yk n r ⟨rR a,rR b⟩)=some true:=by unfold Zk Yk;simp only[jn_eq];rw[Qyv hn (by rw[Jl];exact la),sbind,Qyv hn (by rw[Jl];exact lb),sbind,sbind,Jhe,Jhe];simp only[];rw[Qn5 hn la hk d,sbind,oo rfl,bifT,Qn5 hn lb hk hb,sbind,oo rfl]
theorem Jla{h:Qv}(hp:∀ t∈h.Ar,P1 t):
 (okR h.Ar).map (·.T)=rR ((tri (tHis h)).map (·.1))/\(okR h.Ar).map (·.H)=rR ((tri (tHis h)).map (·.2.1))/\(okR h.Ar).map (·.Y)=rRR ((tri (tHis h)).map (·.2.2)):=by
 have e:tri (tHis h)=(okR h.Ar).map λt=>triT (tTry t):=by show(okT (h.Ar.map tTry)).map triT=_;rw[Jk1,yt];rfl
 have d:∀ t∈okR h.Ar,P1 t:=λt a=>hp t (gp.1 a).1;rw[e];unfold rR rRR;rw[yt,yt,yt,yt,yt,yt];refine⟨wg λt a=>?_,wg λt a=>?_,wg λt a=>?_⟩;exact(Qdy.2 ((d t a).2 t.T oc)).symm;exact(Qdy.2 ((d t a).2 t.H oc)).symm;show t.Y=rR (rv (t.Y.map tF));rw[Qef];exact(Q0o.2 (d t a).1).symm
theorem Jlb{A:List Tri}{m:Nat}(f:Tri->Rat)(e:Qb)(a:m<A.length):(rR (A.map f)++[e])[m]?=some (rF (f (A.getD m (0,0,[])))):=by rw[yp (by rw[Kn];simp;omega)];unfold rR;rw[xr,xr,oi a,ou,oi a];rfl
theorem Jje{A:List Tri}{m:Nat}(f:Tri->List Rat)(e:List Qb)(a:m<A.length):(rRR (A.map f)++[e])[m]?=some (rR (f (A.getD m (0,0,[])))):=by rw[yp (by rw[Qw4];simp;omega)];unfold rRR;rw[xr,xr,oi a,ou,oi a];rfl
theorem Jlc{k:Nat}{p:Qg}{T H:Rat}{Y W:List Rat}(h0:129<=k)(hk:k<8000)(l:PrbW k p)(g:qw T<=k)(e:qw H<=k)(j:QR k Y)(i:QR k W):
 (∀ f,backThQ p T H Y W=.inl f->f.Au≠0)/\∀ z,backThQ p T H Y W=.inr z->QR 129 z.2.1/\QR 129 z.2.2/\z.2.1.length=Y.length/\z.2.2.length=p.P.length:=by
 obtain⟨_,a,d⟩:=Qmu (n:=big) (k:=k) (p:=p) (t:=toF T) (h:=toF H) (y:=toR Y) (w:=toR W) (xm _) h0 hk l (Jq g) (Jq e) (K2 j) (K2 i);rw[Jc,Jc,Vj,Vj] at a d;refine⟨a,λz m=>?_⟩;obtain⟨_,q,r,z3,z4,_⟩:=d z m;exact⟨q,r,by rw[z3,Jl],z4⟩
theorem Q3k{n k:Nat}{h:Qv}{l:List Qs}(hn:big<=n)(E:1<=k)(hk:k<100000000)(B:h.Ar.length<=1000000)(J:∀ t∈h.Ar,FTr k t)(F:FRr k [h.T])(I:FRr k h.Y)(s:h.Y.length<=1000000)(L:l.length<=1000000)(G:∀ x∈l,x.W.length<=1000000):
 Qcm n h l=some (dP (Qee (tHis h)/\Qwx (tHis h) (l.map lkT))):=by
 classical
 obtain⟨v,C,u⟩:=Qtl hn E hk B J F I s;have eY:(tHis h).Y.length=h.Y.length:=by show(h.Y.map tF).length=_;rw[ot]
 unfold Qcm;simp only[jn_eq];rw[Qj7 (λi=>∀ x,l[i]?=some x->0<=x.Ay/\x.Ay<=((szs (tHis h)).length:Int)/\x.W.length=h.Y.length) l.length (r:=false)];have a:(∀ i,i<l.length->∀ x,l[i]?=some x->0<=x.Ay/\x.Ay<=((szs (tHis h)).length:Int)/\x.W.length=h.Y.length)↔∀ x∈l.map lkT,0<=x.Ay/\x.Ay<=((szs (tHis h)).length:Int)/\x.W.length=(tHis h).Y.length:=by rw[eY];constructor;intro g x d;obtain⟨y,K,rfl⟩:=xy.1 d;obtain⟨i,hi⟩:=List.mem_iff_getElem?.1 K;obtain⟨f,j,m⟩:=g i (J8 hi) y hi;exact⟨f,j,by show(y.W.map tF).length=_;rw[ot,m]⟩;intro g i hi x d;obtain⟨f,j,m⟩:=g (lkT x) (ur (Jw d));refine⟨f,j,?_⟩;rw[<-m];show _=(x.W.map tF).length;rw[ot]
 by_cases g:∀ i,i<l.length->∀ x,l[i]?=some x->0<=x.Ay/\x.Ay<=((szs (tHis h)).length:Int)/\x.W.length=h.Y.length;rw[oq g,C,sbind];by_cases hp:Qee (tHis h);rw[oo (u.2 hp),bifT];by_cases A:l.length<=300;rw[oo om,dP_t ⟨hp,by rw[ot];exact A,a.1 g⟩];rw[oj om,dP_f λq=>A (by have:=q.2.1;rw[ot] at this;exact this)];rw[oj λq=>hp (u.1 q),bifF,dP_f λq=>hp q.1];rw[ol g,dP_f λq=>g (a.2 q.2.2)];intro i hi;have d:l[i]?=some l[i]:=oi hi;have M:=G _ (xa hi);rw[oo om,bifT,Jd d,sbind,sbind,Qj9 hn B,sbind,sbind,Jdx,w1 om];constructor;intro g;obtain⟨f,j,m⟩:=g _ d;rw[oj om,bifF,oj om,bifF,oo om,ov,bifF];intro g;by_cases a1:l[i].Ay<0;rw[oo a1,bifT,bifT];rw[oj a1,bifF];by_cases a2:((szs (tHis h)).length:Int)<l[i].Ay;rw[oo a2,bifT,bifT];rw[oj a2,bifF,oj (λa3=>g λx e=>by rw[d] at e;cases e;exact⟨om,om,om⟩),ow,bifT];rw[oj om,bifF];unfold big at hn;omega
def nlk(x:Qs):Qs:=⟨x.Ay,rR (rvr x.W)⟩
theorem Q3l{n k:Nat}{l:List Qs}(hn:big<=n)(hk:k<1099511627776)(e:l.length<=1000000)(d:∀ x∈l,FRr k x.W/\x.W.length<=1000000):Qcn n l=some (l.map nlk):=by unfold Qcn;rw[V3 (λi=>((l.take i).map nlk,(i:Int))) l.length (l.map nlk)];intro i hi;have a:l[i]?=some l[i]:=oi hi;obtain⟨a1,a2⟩:=d _ (xa hi);simp only[];rw[oo om,bifT,Jd a,sbind,sbind,Qka hn hk a1 a2,sbind,J9 oh oh,sbind,w1 om,Xe nlk a];rfl;simp only[];rw[oj om,bifF,xh];unfold big at hn;omega;rw[gg];rfl
theorem Qw5(x:Qs):rv (lkT x).W=rvr x.W:=Qef x.W
theorem Jcd{n d:Nat}{l:List Qs}{i:Int}{g:List Rat}{P:List Qb}(hn:big<=n)(J:l.length<=5)(u:∀ x∈l,QR 129 (rvr x.W)/\x.W.length=d)(hd:d<=300)(B:QR 129 g)(f:g.length=d){β:Type}(K:Qi->Option β):
 ((loopM (λ(s285:Qi×Int)=>
  bif decide (s285.2<((l.map nlk).length:Int)) then (
   jn (λ(j292:(Qi)->Option _)=>
    (getI (l.map nlk) s285.2).bind λy295=>
    bif decide (y295.Ay=i) then (
     (getI (l.map nlk) s285.2).bind λy297=>
     (Vq n s285.1.Y y297.W).bind λr299=>
     j292 (⟨r299,s285.1.P⟩:Qi))
    else (
     j292 s285.1)) (λ(s294:Qi)=>
    some (Lp.go (s294,wrap64 (s285.2+(1:Int))))))
  else (
   some (Lp.out s285.1))) n ((⟨rR g,P⟩:Qi),(0:Int))).bind K)=K ⟨rR (foldA g (rowsAt (l.map lkT) i)),P⟩:=by
 rw[V3 (λj=>((⟨rR (foldA g (rowsAt ((l.take j).map lkT) i)),P⟩:Qi),(j:Int))) l.length ⟨rR (foldA g (rowsAt (l.map lkT) i)),P⟩];intro j v;have A:l[j]?=some l[j]:=oi v;have m:(l.map nlk)[j]?=some (nlk l[j]):=by rw[xr,A];rfl
 have hr:∀ r∈rowsAt ((l.take j).map lkT) i,QR 129 r/\r.length=d:=λr hr=>by obtain⟨y,E,rfl⟩:=Qps hr;obtain⟨z,F,rfl⟩:=xy.1 E;obtain⟨G,I⟩:=u z (ym F);exact⟨by rw[Qw5];exact G,by rw[Qw5,Qeg,I]⟩
 have C:QR 800 (foldA g (rowsAt ((l.take j).map lkT) i)):=by refine Q8 (Qn4 B λr h=>(hr r h).1) ?_;have a1:=Qus ((l.take j).map lkT) i;rw[ot,xi] at a1;omega
 have a:(foldA g (rowsAt ((l.take j).map lkT) i)).length=d:=Qjq f λr h=>(hr r h).2;obtain⟨q,s⟩:=u _ (xa v);simp only[jn_eq];rw[oo (by rw[ot];omega),bifT,Jd m,sbind,sbind,Xe lkT A,Qvu,w1 om];by_cases e:l[j].Ay=i;rw[oo (show(nlk l[j]).Ay=i from e),bifT,show(nlk l[j]).W=rR (rvr l[j].W) from rfl,Qml (k:=800) hn oz C (Q8 q oz) (by rw[a,Qeg,s]) om,sbind,oq (show(lkT l[j]).Ay=i from e),Qx5,Qw5];rw[oj (show ¬(nlk l[j]).Ay=i from e),bifF,ol (show ¬(lkT l[j]).Ay=i from e),ua];simp only[];rw[oj (by rw[ot];omega),bifF,xh];unfold big at hn;omega;rw[gg];rfl
def lrBody(n:Nat)(p:Qt)(l:List Qs)(a:List Qb)(ys:List (List Qb))(ss:List Qb):Qi×Int->Option (Lp (Qi×Int) (Lp Qi (Qi×Qcq))):=λ(s219:Qi×Int)=>
    bif decide ((0:Int)<=s219.2) then (
     jn (λ(j264:(Qi)->Option _)=>
      (loopM (λ(s285:Qi×Int)=>
       bif decide (s285.2<((l.map nlk).length:Int)) then (
        jn (λ(j292:(Qi)->Option _)=>
         (getI (l.map nlk) s285.2).bind λy295=>
         bif decide (y295.Ay=s219.2) then (
          (getI (l.map nlk) s285.2).bind λy297=>
          (Vq n s285.1.Y y297.W).bind λr299=>
          j292 (⟨r299,s285.1.P⟩:Qi))
         else (
          j292 s285.1)) (λ(s294:Qi)=>
         some (Lp.go (s294,wrap64 (s285.2+(1:Int))))))
       else (
        some (Lp.out s285.1))) n (s219.1,(0:Int))).bind λ(t283:Qi)=>
      bif decide ((0:Int)<s219.2) then (
       (getI a (wrap64 (s219.2 - (1:Int)))).bind λy301=>
       (getI ss (wrap64 (s219.2 - (1:Int)))).bind λy303=>
       (getI ys (wrap64 (s219.2 - (1:Int)))).bind λy305=>
       (Zw n p y301 y303 y305 t283.Y).bind λr307=>
       bif !decide (r307.2.a0=(0:Int)) then (
        some (Lp.out (Lp.out (((⟨[],[]⟩:Qi),(⟨r307.2.a0,s219.2,r307.2.a1,r307.2.a2⟩:Qcq))))))
       else (
        (Vq n t283.P r307.1.P).bind λr309=>
        j264 (⟨r307.1.Y,r309⟩:Qi)))
      else (
       j264 t283)) (λ(s266:Qi)=>
      some (Lp.go (s266,wrap64 (s219.2 - (1:Int))))))
    else (
     some (Lp.out (Lp.go s219.1)))
theorem Jld{n k d:Nat}{p:Qt}{A:List Tri}{l:List Qs}{eT:Qb}{eY:List Qb}(hn:big<=n)(h0:1000<=k)(hk:k<8000)(hw:PrbWr k p)(N:PrbW k (tP p))(hr:prbR (tP p))(hP:p.P.length<=300)(hd:d<=300)(L:(d:Int)=p.Tape.Ax)(X:∀ t∈A,TriK k d t)(hN:A.length<=200)
 (J:l.length<=5) (F:∀ x∈l,QR 129 (rvr x.W)/\x.W.length=d) :
 ∀(i q b:Nat) (g:List Rat×List Rat),i<=A.length->QR 129 g.1->g.1.length=d->1<=b->QR b g.2->b+i*130<=30000->g.2.length=p.P.length->i+1<q ->
  (loopM (lrBody n p l (rR (A.map (·.1))++[eT]) (rRR (A.map (·.2.2))++[eY]) (rR (A.map (·.2.1)))) q (⟨rR g.1,rR g.2⟩,(i:Int))).bind (lpK λ(t217:Qi)=>some (t217,(⟨0,0,0,0⟩:Qcq))) =
   some (match lookQ (tP p) A (rowsAt (l.map lkT)) i g with | .inl f=>(⟨[],[]⟩,⟨f.Au,f.Step,f.A0,f.At⟩) | .inr z=>(⟨rR z.1,rR z.2⟩,⟨0,0,0,0⟩)):=by
 have j:∀ i,∀ r∈rowsAt (l.map lkT) i,QR 129 r/\r.length=d:=λi r hr=>by obtain⟨y,hy,rfl⟩:=Qps hr;obtain⟨z,hz,rfl⟩:=xy.1 hy;obtain⟨G,P⟩:=F z hz;exact⟨by rw[Qw5];exact G,by rw[Qw5,Qeg,P]⟩
 have v:∀ i,(rowsAt (l.map lkT) i).length*130<=650:=λi=>by have:=Qus (l.map lkT) i;rw[ot] at this;omega
 have Z:∀(i:Int) (g:List Rat),QR 129 g->g.length=d->QR 800 (foldA g (rowsAt (l.map lkT) i))/\(foldA g (rowsAt (l.map lkT) i)).length=d:=λi g s u=>
  ⟨Q8 (Qn4 s λr hr=>(j i r hr).1) (by have:=v i;omega),Qjq u λr hr=>(j i r hr).2⟩
 intro i
 induction i with
 | zero=>
   intro q b g hi s u K I hb V M;obtain⟨m,rfl⟩:∃ m,q=m+1:=⟨q - 1,om⟩
   have e:lrBody n p l (rR (A.map (·.1))++[eT]) (rRR (A.map (·.2.2))++[eY]) (rR (A.map (·.2.1))) (⟨rR g.1,rR g.2⟩,((0:Nat):Int))=some (.go (⟨rR (foldA g.1 (rowsAt (l.map lkT) ((0:Nat):Int))),rR g.2⟩,(-1:Int))):=by unfold lrBody;simp only[];rw[oo oz,bifT,jn_to (b:=⟨rR (foldA g.1 (rowsAt (l.map lkT) ((0:Nat):Int))),rR g.2⟩) (λk'=>by rw[Jcd hn J F hd s u,oj oz,bifF]),show wrap64 (((0:Nat):Int) - 1)=-1 from by rw[w64 om om];omega]
   have U:lrBody n p l (rR (A.map (·.1))++[eT]) (rRR (A.map (·.2.2))++[eY]) (rR (A.map (·.2.1))) (⟨rR (foldA g.1 (rowsAt (l.map lkT) ((0:Nat):Int))),rR g.2⟩,(-1:Int))=some (.out (.go ⟨rR (foldA g.1 (rowsAt (l.map lkT) ((0:Nat):Int))),rR g.2⟩)):=by unfold lrBody;simp only[];rw[oj oz,bifF]
   rw[Qbp e,Vv U om,sbind,Wv];rfl
 | succ i ih=>
   intro q b g hi s u K I hb V M;obtain⟨m,rfl⟩:∃ m,q=m+1:=⟨q - 1,om⟩
   obtain⟨G,P⟩:=Z ((i+1:Nat):Int) g.1 s u;have a:i<A.length:=om
   have hx:=Qti (A:=A) a;obtain⟨R,x2,x3,x4,O⟩:=X _ hx;have eI:wrap64 (((i+1:Nat):Int) - 1)=(i:Int):=by rw[w64 om om];omega
   have g1:getI (rR (A.map (·.1))++[eT]) (i:Int)=some (rF (A.getD i (0,0,[])).1):=Jd (Jlb _ _ a);have Q:getI (rRR (A.map (·.2.2))++[eY]) (i:Int)=some (rR (A.getD i (0,0,[])).2.2):=Jd (Jje _ _ a)
   have g3:getI (rR (A.map (·.2.1))) (i:Int)=some (rF (A.getD i (0,0,[])).2.1):=Jd (by
    unfold rR
    rw[xr,xr,oi a,ou,oi a];rfl)
   have E:=Q0p (n:=n) (k:=k) (p:=p) (T:=(A.getD i (0,0,[])).1) (H:=(A.getD i (0,0,[])).2.1) (Y:=(A.getD i (0,0,[])).2.2) (W:=foldA g.1 (rowsAt (l.map lkT) ((i+1:Nat):Int))) hn om hk hw hr R x2 x4 (by rw[O];exact L) (Q8 G om) (by rw[P,O]);have B:=Jlc (k:=k) (p:=tP p) (T:=(A.getD i (0,0,[])).1) (H:=(A.getD i (0,0,[])).2.1) (Y:=(A.getD i (0,0,[])).2.2) (W:=foldA g.1 (rowsAt (l.map lkT) ((i+1:Nat):Int))) om hk N R x2 x4 (Q8 G om);rw[lookQ];cases C:backThQ (tP p) (A.getD i (0,0,[])).1 (A.getD i (0,0,[])).2.1 (A.getD i (0,0,[])).2.2 (foldA g.1 (rowsAt (l.map lkT) ((i+1:Nat):Int))) with
   | inl f=>
     have hf:f.Au≠0:=B.1 f C;rw[C] at E;have e:lrBody n p l (rR (A.map (·.1))++[eT]) (rRR (A.map (·.2.2))++[eY]) (rR (A.map (·.2.1))) (⟨rR g.1,rR g.2⟩,((i+1:Nat):Int))=some (.out (.out (⟨[],[]⟩,⟨f.Au,((i+1:Nat):Int),f.A0,f.At⟩))):=by unfold lrBody;simp only[jn_eq (k:=λ(s266:Qi)=>some (Lp.go (s266,wrap64 (((i+1:Nat):Int) - (1:Int)))))];rw[oo om,bifT,Jcd hn J F hd s u,oo om,bifT,eI,g1,sbind,g3,sbind,Q,sbind,E,sbind];simp only[];rw[oj hf,ow,bifT]
     rw[Vv e om,sbind,Qap]
   | inr z=>
     obtain⟨z1,S,z3,z4⟩:=B.2 z C;rw[C] at E;have zl:z.2.2.length=p.P.length:=by rw[z4];unfold tP;simp
     have e:lrBody n p l (rR (A.map (·.1))++[eT]) (rRR (A.map (·.2.2))++[eY]) (rR (A.map (·.2.1))) (⟨rR g.1,rR g.2⟩,((i+1:Nat):Int))=some (.go (⟨rR z.2.1,rR (addQ g.2 z.2.2)⟩,(i:Int))):=by unfold lrBody;simp only[jn_eq (k:=λ(s266:Qi)=>some (Lp.go (s266,wrap64 (((i+1:Nat):Int) - (1:Int)))))];rw[oo om,bifT,Jcd hn J F hd s u,oo om,bifT,eI,g1,sbind,g3,sbind,Q,sbind,E,sbind];simp only[];rw[oo trivial,ov,bifF,Qml (k:=30000) hn oz (Q8 I om) (Q8 S oz) om om,sbind]
     rw[Qbp e];simp only[];exact ih m (b+130) (z.2.1,addQ g.2 z.2.2) om z1 (by rw[z3,O]) om (Q8 (Ql1 I S) om) om (by rw[Zu];omega) om
theorem Q5f{n k:Nat}{p:Qt}{h:Qv}{l:List Qs}(hn:big<=n)(h0:1000<=k)(hk:k<8000)(B:PrbWr k p)(m:PrbW k (tP p))(hr:prbR (tP p))(hp:Qee (tHis h))(hd:(h.Y.length:Int)=p.Tape.Ax)(q:∀ t∈tri (tHis h),TriK k h.Y.length t)
 (r:l.length<=5) (v:∀ x∈l,QR 129 (rvr x.W)/\x.W.length=h.Y.length) :
 Qc5 n p h (l.map nlk)=some (match lookQ (tP p) (tri (tHis h)) (rowsAt (l.map lkT)) (tri (tHis h)).length (List.replicate h.Y.length 0,List.replicate p.P.length 0) with | .inl f=>(⟨[],[]⟩,⟨f.Au,f.Step,f.A0,f.At⟩) | .inr z=>(⟨rR z.1,rR z.2⟩,⟨0,0,0,0⟩)):=by
 have eYl:(tHis h).Y.length=h.Y.length:=by show(h.Y.map tF).length=_;rw[ot]
 have g:h.Y.length<=300:=by have:=hp.l.2.2;omega
 have a:p.P.length<=300:=by
  have K:=hr.2.2;obtain⟨⟨⟨_,_⟩,⟨G,I⟩,_⟩,_⟩:=hr.1;have e:(tP p).P.length=p.P.length:=by unfold tP;simp
  have J:(tP p).Tape.A1=p.Tape.A1:=rfl;omega
 have u:h.Ar.length<=200:=by have:=hp.m;rw[show(tHis h).Ar.length=h.Ar.length from ot _] at this;exact this
 have s:(tri (tHis h)).length<=200:=by have:=Qkg (tHis h).Ar;rw[Qmj];have e:(tHis h).Ar.length=h.Ar.length:=ot _;omega
 have j:∀ t∈h.Ar,P1 t:=λt y=>((Q5c.1 hp).2.1 t y).1;obtain⟨C,E,F⟩:=Jla j;unfold Qc5;rw[Q21 hn om,sbind,Qj9 hn om,sbind,Qfl hn g,sbind,Qfl hn a,sbind,C,E,F];have i:=Jld (n:=n) (k:=k) (d:=h.Y.length) (p:=p) (A:=tri (tHis h)) (l:=l) (eT:=h.T) (eY:=h.Y) hn h0 hk B m hr a g hd q s r v (tri (tHis h)).length n 1 (List.replicate h.Y.length 0,List.replicate p.P.length 0) (xm _) (Qjn oz) oc (xm _) (Qjn oz) om oc (by unfold big at hn;omega);rw[show(((tri (tHis h)).length:Nat):Int)=((rR ((tri (tHis h)).map (·.2.1))).length:Int) by rw[Kn,ot]] at i;exact i
theorem Q9k(p:Qt)(h:Qv)(l:List Qs)(hB:Xm p)(hH:Zv h)(S:Z2 l):∃ n,Qae n p h l=some true:=by
 refine⟨big,?_⟩;have hn:big<=big:=xm _;unfold Qae;simp only[jn_eq];obtain⟨v,e1,P⟩:=Qpr (p:=p) (h:=h) hn;rw[e1,sbind];cases v
 case true=>rw[bifT,bifT,w46];rfl
 obtain⟨⟨⟨t1,t2,t3⟩,⟨s1,s2,s3,s4,s5,s6⟩,p1⟩,hbits,g1,g2,g3,g4⟩:=P rfl;obtain⟨v,e5,e6⟩:=Qpt (l:=l) hn;rw[bifF,e5,sbind];cases v
 case true=>rw[bifT,w46];rfl
 obtain⟨u1,Y⟩:=e6 rfl;rw[bifF];obtain⟨b1,Z,b3,_⟩:=hH;have hw:=(Q6v (bits:=p.Av) hB oz (P rfl).1).mono (k:=1000) oz;have N:=(Jja hB oz oz oz (P rfl).1).mono (k:=1000) oz;have B:∀ t∈h.Ar,FT 6 (tTry t):=λt m=>Q23 (b1.2 t m) (g4 t m)
 have i:∀ t∈h.Ar,FTr 1000 t:=λt m=>by
  obtain⟨q1,q2,q3⟩:=Qwv (B t m) (show 6<=1000 by decide);refine⟨λf A=>?_,λf A=>?_,?_⟩
  . have:Fk 1000 (tF f):=q1 (tF f) (by show _∈[tF t.T,tF t.Az,tF t.H,tF t.A4];simp at A |-;rcases A with rfl | rfl | rfl | rfl<;>simp)
    exact Fk_wd this
  . exact Fk_wd (q2 (tF f) (ur A))
  . have:=q3
    rw[show(tTry t).Y.length=t.Y.length from ot _] at this;exact this
 have hyl:=g3.1
 have F:FRr 1000 [h.T]:=λf A=>by rw[xj.1 A];exact Fk_wd (Wf (Fk_tF Z g2) oz)
 have L:FRr 1000 h.Y:=Jb8 (Jhf b3 g3) oz;have G:∀ x∈l,Kc x.W:=λx d=>(S.2 x d).2.1;have J:∀ x∈l,FRr 129 x.W:=λx d=>Jb8 (Jhf (G x d) (Y x d)) oz;have j:∀ x∈l,x.W.length<=6:=λx d=>(Y x d).1
 have I:∀ x∈l.map lkT,FR 129 x.W/\x.W.length<=1000000:=λx d=>by obtain⟨y,X,rfl⟩:=xy.1 d;refine⟨K4 (FR_tF (G y X) (Y y X)) oz,?_⟩;show(y.W.map tF).length<=_;rw[ot];have:=j y X;omega
 rw[Qrr hn om om (λt m=>(i t m).2.2),sbind,Qrq hn om om om (by have:=s3.1;omega) (by have:=s4.1;omega) (by have:=s5.1;omega) (λr hr=>by have:=(s6 r hr).1;omega) (by have:=p1.1;omega),sbind,Qyt hn om (λx d=>by have:=j x d;omega),sbind];have hTl:(tHis h).Ar.length<=5:=by show(h.Ar.map tTry).length<=5;rw[ot];exact g1
 have s:∀ t∈(tHis h).Ar,FT 1000 t:=λx d=>by obtain⟨t,m,rfl⟩:=xy.1 d;exact Qwv (B t m) oz
 have C:Fk 1000 (tHis h).T:=Wf (Fk_tF Z g2) oz;have E:FR 1000 (tHis h).Y:=K4 (FR_tF b3 g3) oz;have eYl:(tHis h).Y.length=h.Y.length:=by show(h.Y.map tF).length=_;rw[ot]
 have Q:(tP p).P.length=p.P.length:=by unfold tP;simp
 obtain⟨a1,a2,a3⟩:=Qqf (n:=big) (k:=1000) (p:=tP p) (h:=tHis h) (l:=l.map lkT) hn oz oz hw om s C E om (by rw[ot];exact u1) I;rw[a1,sbind,Q3k (k:=1000) hn oz oz om i F L om om (λx d=>by have:=j x d;omega),sbind,sbind,Qut (k:=1000) hn oz oz om s C E om (by rw[ot];omega) (λx d=>(I x d).2),sbind,bne_self_eq_false,bifF];have O:=Jhm (n:=big) (k:=1) (a:=[]) (b:=[]) hn oz (λ_ h=>by cases h) (λ_ h=>by cases h) oz oz
 have e:∀ {β:Type}(K:Bool->Option β),((Zk big ⟨[],[]⟩).bind λu=>(Yk big u ⟨[],[]⟩).bind K)=K true:=λK=>by have:=um (λz=>z.bind K) O;simp only[Option.bind_assoc] at this;exact this
 have q:¬ LkR (tP p) (tHis h) (l.map lkT)->Qb3 (tP p) (tHis h) (l.map lkT)=.inl ⟨2,0,0,0⟩:=λg=>by unfold Qb3;rw[ol g]
 rw[bifnP];by_cases M:Qee (tHis h)/\Qwx (tHis h) (l.map lkT)
 case neg=>
  rw[ol M,bifT,q λg=>M g.2.1];simp only[];rw[e,bifT,Kz,bifT,w46];rfl
 rw[oq M,Q3i (k:=1000) hn oz oz N om i F L om,sbind,bifnP];by_cases hr:AlR (tP p) (tHis h)
 case neg=>
  rw[ol hr,q λg=>hr ⟨g.1,g.2.1.1,g.2.2⟩];simp only[];rw[e,bifT,Kz,bifT,w46];rfl
 rw[oq hr];clear q;have V:Qb3 (tP p) (tHis h) (l.map lkT)=lookQ (tP p) (tri (tHis h)) (rowsAt (l.map lkT)) (tri (tHis h)).length (List.replicate h.Y.length 0,List.replicate p.P.length 0):=by unfold Qb3;rw[oq (show LkR _ _ _ from⟨hr.1,M,hr.2.2⟩),Q,eYl]
 have hd:((h.Y.length:Nat):Int)=p.Tape.Ax:=by have:=hr.2.2;rw[eYl] at this;exact this
 have hA:=Jbt (h:=tHis h) (k:=1000) oz hr.2.1 s;rw[eYl] at hA
 have R:∀ x∈l,QR 129 (rvr x.W)/\x.W.length=h.Y.length:=λx d=>by refine⟨Qnl (J x d) oz,?_⟩;have:=(M.2.2 (lkT x) (ur d)).2.2;rw[eYl] at this;rw[<-this];show _=(x.W.map tF).length;rw[ot]
 rw[Q3l hn (show 129<1099511627776 by decide) om (λx d=>⟨J x d,by have:=j x d;omega⟩),sbind,Q5f (k:=1000) hn oz oz N hw hr.1 hr.2.1 hd hA u1 R,sbind,<-V];unfold Qel;cases hM:Qb3 (tP p) (tHis h) (l.map lkT) with
 | inl g=>
   simp only[];rw[e,bifT,sbind,Kz,bifT,w46];rfl
 | inr z=>
   obtain⟨z1,z2,z3,z4⟩:=a3 z hM;have hs:=Jhm (n:=big) (k:=30000) (a:=z.1) (b:=z.2) hn oz (Q8 z1 oz) z2 om (by have:=p1.1;omega)
   have U:∀ {β:Type}(K:Bool->Option β),((Zk big ⟨toR z.1,toR z.2⟩).bind λu=>(Yk big u ⟨rR z.1,rR z.2⟩).bind K)=K true:=λK=>by have:=um (λz=>z.bind K) hs;simp only[Option.bind_assoc] at this;exact this
   simp only[];rw[U,bifT,sbind,Kz,bifT,w46];rfl
end Go.Proofs.YtjmfkenegjhohaaGreatDoor
