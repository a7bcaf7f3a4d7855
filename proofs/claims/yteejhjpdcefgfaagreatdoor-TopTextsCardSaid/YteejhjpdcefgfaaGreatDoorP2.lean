import Derived.Test.YteejhjpdcefgfaaGreatDoorP1
namespace Go.Proofs.YteejhjpdcefgfaaGreatDoor
open Go Go.RowKit
def dg(x:Nat):UInt8:=UInt8.ofNat (48+x%10)
def dcR(n:Nat):List UInt8:=if n=0 then [] else dg n::dcR (n / 10)
termination_by n
decreasing_by omega
def decF:Nat->Nat->List UInt8
 | 0,_=>[]
 | k+1,n=>dg n::decF k (n / 10)
def dec(n:Nat):List UInt8:=if n=0 then [48] else (dcR n).reverse
def tp(k:Nat):Nat:=10 ^ k
theorem Qfi:tp 0=1:=by unfold tp;rw[Nat.pow_zero]
theorem Qdg(k:Nat):tp (k+1)=tp k*10:=by unfold tp;rw[Nat.pow_succ]
theorem Jj1(k:Nat):0<tp k:=by unfold tp;exact Nat.pow_pos oy
theorem Jj2(j k:Nat):tp (j+k)=tp j*tp k:=by unfold tp;rw[gk]
theorem Qed:dcR 0=[]:=by rw[dcR];rfl
theorem Qcp{n:Nat}(h:n≠0):dcR n=dg n::dcR (n / 10):=by rw[dcR];rw[oi h]
theorem Q8u(k n:Nat):(decF k n).length=k:=by
 induction k generalizing n with
 | zero=>rfl
 | succ k a=>simp[decF,a]
theorem Q6r(j k n:Nat):decF (j+k) n=decF j n++decF k (n / tp j):=by
 induction j generalizing n with
 | zero=>simp[decF,Qfi]
 | succ j a=>
   rw[Nat.succ_add];simp only[decF,xd];rw[a,wb,Qdg,vm 10]
theorem Jc0(k:Nat):decF k 0=List.replicate k 48:=by
 induction k with
 | zero=>rfl
 | succ k a=>simp only[decF,Nat.zero_div,a,vi];rfl
theorem Jg2{k n:Nat}(h:n<tp k):decF k n=dcR n++List.replicate (k - (dcR n).length) 48/\(dcR n).length<=k:=by
 induction k generalizing n with
 | zero=>rw[Qfi] at h;obtain rfl:n=0:=om
         simp[decF,Qed]
 | succ k a=>
   by_cases h0:n=0;subst h0;rw[Qed,Jc0];simp;obtain⟨e,l⟩:=a (n:=n / 10) (by rw[Qdg] at h;omega);rw[Qcp h0];simp only[decF,oo,xd,Nat.add_sub_add_right];exact⟨by rw[e],om⟩
theorem Je5(k n:Nat):decF k (n%tp k)=decF k n:=by
 induction k generalizing n with
 | zero=>rfl
 | succ k e=>
   have a:n%tp (k+1)%10=n%10:=by rw[Qdg];exact Nat.mod_mul_left_mod n (tp k) 10
   have d:n%tp (k+1) / 10=n / 10%tp k:=by rw[Qdg,vm];exact Nat.mod_mul_right_div_self n 10 (tp k)
   simp only[decF];rw[d,e];simp only[dg,a]
theorem Qee(n:Nat):(dcR n).length<=1+(dcR (n / 10)).length:=by by_cases h:n=0;subst h;simp[Qed];rw[Qcp h];simp;omega
theorem Jc1{n k:Nat}(h:n<bp k):(dcR n).length<=10*k:=by
 induction k generalizing n with
 | zero=>rw[Y9] at h;obtain rfl:n=0:=om
         simp[Qed]
 | succ k d=>
   rw[V9] at h;have e:=Qee n;have f:=Qee (n / 10);have i:=Qee (n / 10 / 10);have j:=Qee (n / 10 / 10 / 10);have l:=Qee (n / 10 / 10 / 10 / 10);have m:=Qee (n / 10 / 10 / 10 / 10 / 10);have q:=Qee (n / 10 / 10 / 10 / 10 / 10 / 10);have r:=Qee (n / 10 / 10 / 10 / 10 / 10 / 10 / 10);have s:=Qee (n / 10 / 10 / 10 / 10 / 10 / 10 / 10 / 10);have a:=Qee (n / 10 / 10 / 10 / 10 / 10 / 10 / 10 / 10 / 10);have:=@d (n / 10 / 10 / 10 / 10 / 10 / 10 / 10 / 10 / 10 / 10) om;omega
theorem Je6{m n:Nat}(h:m<=n):(dcR m).length<=(dcR n).length:=by
 induction n using Nat.strongRecOn generalizing m with
 | _ n a=>
   by_cases h0:m=0;subst h0;simp[Qed];rw[Qcp h0,Qcp (show n≠0 by omega)];have:=@a (n / 10) om (m / 10) om;simp;omega
theorem Ja6{m:Nat}(h:m≠0):(dcR (m / 1000000000)).length<(dcR m).length:=by rw[Qcp h];have:=@Je6 (m / 1000000000) (m / 10) om;simp;omega
theorem Je7{m n:Nat}(h:m<=n):(toL m).length<=(toL n).length:=by rcases xh (toL n).length (toL m).length with a | a;have:=Qsp a;omega;exact a
theorem Qrp{n:Nat}(h:n≠0):dec n=(dcR n).reverse:=by unfold dec;rw[oi h]
theorem Ja7{n:Nat}(h:n≠0):dcR n≠[]:=by rw[Qcp h];simp
theorem Jc2(y:Nat):UInt8.ofNat (((48+y%10)%4294967296)%256)=dg y:=by unfold dg;congr 1;omega
def tl9(a:Qif):List Nat:=[a.a0,a.a1,a.a2,a.a3,a.a4,a.a5,a.a6,a.a7,a.a8]
theorem Jg3:∀ l:List Nat,l.length=9->tl9 (Qpj l)=l
 | [a0,a1,a2,a3,a4,a5,a6,a7,a8],_=>rfl
 | [],h=>by simp at h
 | [_],h=>by simp at h
 | [_,_],h=>by simp at h
 | [_,_,_],h=>by simp at h
 | [_,_,_,_],h=>by simp at h
 | [_,_,_,_,_],h=>by simp at h
 | [_,_,_,_,_,_],h=>by simp at h
 | [_,_,_,_,_,_,_],h=>by simp at h
 | [_,_,_,_,_,_,_,_],h=>by simp at h
 | _::_::_::_::_::_::_::_::_::_::_,h=>by simp at h
theorem Jc3(k n:Nat):decF (k+1) n=decF k n++[dg (n / tp k)]:=by rw[Q6r];rfl
theorem Qxh{n x:Nat}(w:big<=n):Qge n x=some (decF 9 x).reverse:=by
 unfold Qge;unfold big at w
 refine Qaj (λs=>(s.2.2+1).toNat) (λs=>∃(k:Nat) (p e:List Nat),s.2.2=(k:Int) - 1/\k<=9/\tl9 s.2.1=p++e/\p.length=k/\e.length=9 - k/\bS e=(decF (9 - k) x).reverse/\s.1=x / tp (9 - k))
  (λt=>bS (tl9 t)=(decF 9 x).reverse) ⟨9,[0,0,0,0,0,0,0,0,0],[],rfl,om,rfl,rfl,rfl,rfl,by simp[Qfi]⟩ (by simp only[];omega) ?_ ?_
 rintro⟨y,a,i⟩ ⟨k,p,e,u,B,m,f,C,q,v⟩;simp only at u m v;subst u v;simp only[bifd];by_cases h0:0<k;obtain⟨j,rfl⟩:∃ j,k=j+1:=⟨k - 1,om⟩
 left;have r:([a.a0,a.a1,a.a2,a.a3,a.a4,a.a5,a.a6,a.a7,a.a8]:List Nat)=tl9 a:=rfl;obtain⟨l,z,rfl⟩:∃ l z,p=l++[z]:=⟨p.dropLast,p.getLast (by intro h;rw[h] at f;simp at f),(List.dropLast_concat_getLast _).symm⟩
 have d:l.length=j:=by simpa using f
 rw[oj om,r,m,show((j+1:Nat):Int) - 1=(j:Nat) by omega,xx,wg,Wl d,sbind,Y4 d,w64 om om];refine⟨_,rfl,⟨j,l,((48+x / tp (9 - (j+1))%10)%4294967296)%256::e,rfl,om,?_,d,oh,?_,?_⟩,by simp only[];omega⟩;simp only[];rw[Jg3];simp;omega;simp only[bS,xw] at q |-;rw[q,Jc2,show 9 - j=(9 - (j+1))+1 by omega,Jc3];simp;simp only[];rw[show 9 - j=(9 - (j+1))+1 by omega,Qdg,wb];right;obtain rfl:k=0:=om
 obtain rfl:p=[]:=xg f;rw[oi om];exact⟨_,rfl,by rw[m];simpa using q⟩;intro t A;rw[sbind];exact ur some A
theorem Qxi(y:Nat):(dg y).toNat=48+y%10:=by unfold dg;rw[UInt8.toNat_ofNat'];omega
theorem dg_ne{y:Nat}(h:y%10≠0):dg y≠48:=by intro e;have:=ur UInt8.toNat e;rw[Qxi] at this;have a:(48:UInt8).toNat=48:=rfl;omega
theorem Je8{n:Nat}(h:n≠0):∃ p c,dcR n=p++[c]/\c≠48:=by
 induction n using Nat.strongRecOn with
 | _ n f=>
   rw[Qcp h];by_cases a:n / 10=0;exact⟨[],dg n,by rw[a,Qed];rfl,dg_ne om⟩;obtain⟨p,c,e,d⟩:=f (n / 10) om a;exact⟨dg n::p,c,by rw[e];rfl,d⟩
theorem Qc0{n:Nat}{a:List Nat}(v:big<=n)(K:a.length<=1000000000)(E:Wd a):Zq n a=some (dec (val a)):=by
 unfold Zq;rw[Qgn v om E,sbind,bifd];by_cases r:val a=0;rw[oj r,r];rfl;rw[oi r];have J:=Jc1 (Ye E);obtain⟨V,d⟩:∃ V,V=val a:=⟨_,rfl⟩
 rw[<-d] at r J |-;unfold big at v
 refine Qaj (λs=>(dcR (val s.1)).length) (λs=>∃ k:Nat,Wd s.1/\s.1.length<=1000000000/\val s.1=V / tp (9*k)/\s.2.length=k/\s.2.reverse.flatten=(decF (9*k) V).reverse/\(∀ c∈s.2,c.length=9)/\k+(dcR (val s.1)).length<=(dcR V).length)
  (λt=>∃ k:Nat,V<tp (9*k)/\t.length=k/\t.reverse.flatten=(decF (9*k) V).reverse/\(∀ c∈t,c.length=9)/\k<=10000000000) ⟨0,E,K,by simp[Qfi,d],rfl,by simp[decF],(λ_ h=>by cases h),by rw[d];simp⟩ (by simp only[];rw[<-d];omega) ?_ ?_
 rintro⟨x,l⟩ ⟨k,m,F,f,u,w,B,I⟩;simp only at m F f u w B I;simp only[];rw[Qgn (by unfold big;exact v) om m,sbind,bifnd];by_cases A:val x=0;right;rw[oj A];refine⟨_,rfl,k,?_,u,w,B,om⟩;rw[A] at f;exact(Nat.div_eq_zero_iff_lt (Jj1 _)).1 f.symm;left;have C:=Ja6 A;rw[oi A,Qrk (by unfold big;exact v) om m om om,sbind,Qxh (by unfold big;exact v),sbind,Jk oh oh,sbind];refine⟨_,rfl,⟨k+1,Jp _,?_,?_,by simp[u],?_,?_,?_⟩,by simp only[];rw[Q5];exact C⟩;have:=Je7 (wd (val x) 1000000000);rw[Kq m] at this;have:=W8 x;simp only[];omega;simp only[];rw[Q5,f,vg,Jj2,wb];rfl;simp only[List.reverse_append,List.reverse_cons,List.reverse_nil,xf,wg,uc];have H:(1000000000:Nat)=tp 9:=oy
 rw[w,f,H,Je5,vg,Q6r,List.reverse_append];intro c q;rcases xk.1 q with h | h;exact B c h;rw[xq.1 h,List.length_reverse,Q8u];simp only[];rw[Q5];omega;rintro l ⟨k,m,F,f,u,w⟩;rw[w64 om om];refine Qaj (λs=>(s.2+1).toNat) (λs=>∃ j:Nat,s.2=(j:Int) - 1/\j<=k/\s.1=(l.drop j).reverse.flatten/\s.1.length=9*(k - j)) (λt=>t=l.reverse.flatten) ⟨k,by simp only[];omega,ou _,by simp only[];rw[yd om];rfl,oc⟩ (by simp only[];omega) ?_ ?_;rintro⟨b,i⟩ ⟨j,g1,L,g3,g4⟩;simp only at g1 g3 g4;subst g1;simp only[bifd];by_cases h0:0<j;obtain⟨i,rfl⟩:∃ i,j=i+1:=⟨j - 1,om⟩
 have hi:i<l.length:=om
 have q:=u _ (yu hi);left;rw[oj om,show((i+1:Nat):Int) - 1=(i:Nat) by omega,Qav hi,sbind,Jk om om,sbind,w64 om om];refine⟨_,rfl,⟨i,rfl,om,?_,by simp only[];rw[ov];omega⟩,by simp only[];omega⟩;simp only[];rw[xi hi,List.reverse_cons,ut,<-g3];simp;right;obtain rfl:j=0:=om
 rw[oi om];exact⟨_,rfl,by rw[g3];rfl⟩;rintro t rfl;rw[f];unfold Qdk;simp only[];rw[oj oy,sbind,Qrp r];congr 1;obtain⟨e,M⟩:=Jg2 m;rw[e,List.reverse_append,List.reverse_replicate,List.dropWhile_append_of_pos (by intro c q;rw[(List.mem_replicate.1 q).2];rfl)];obtain⟨p,c,G,q⟩:=Je8 r;rw[G,List.reverse_append];simp only[List.reverse_cons,List.reverse_nil,xf,wg];rw[List.dropWhile_cons_of_neg (by simpa using q)]
theorem Ja8(V:Nat):(dec V).length<=(dcR V).length+1:=by unfold dec;split<;>simp
def wrongAt:List UInt8->Nat->Option Nat
 | [],_=>none
 | c::s,i=>if c.toNat<48\/57<c.toNat\/60<=i then some i else wrongAt s (i+1)
def wrongI(s:List UInt8):Int:=match wrongAt s 0 with
 | some i=>i
 | none=>if s=[] then 0 else -1
theorem Ja9{s:List UInt8}{i j:Nat}(h:wrongAt s i=some j):i<=j/\j<i+s.length/\(i<=60->j<=60):=by
 induction s generalizing i with
 | nil=>cases h
 | cons c s a=>
   simp only[wrongAt] at h;split at h;cases h;simp;have:=a h;simp;omega
theorem Qwh{n:Nat}{s:List UInt8}(j:big<=n)(hs:s.length<=maxLen):Qeq n s=some (wrongI s):=by unfold Qeq;unfold big at j;unfold maxLen at hs;refine Qaj (λi=>s.length - i.toNat) (λi=>∃ k:Nat,i=k/\k<=s.length/\k<=60/\wrongAt s 0=wrongAt (s.drop k) k) (λt=>(t=.go ()/\wrongAt s 0=none)\/∃ k:Nat,t=.out (k:Int)/\wrongAt s 0=some k) ⟨0,rfl,xl _,om,oc⟩ om ?_ ?_;rintro i ⟨k,rfl,hk,f,a⟩;simp only[bifd,jn_eq];by_cases h:k<s.length;rw[oj om,Qfw h,sbind,sbind];rw[xi h] at a;simp only[wrongAt] at a;by_cases d:s[k].toNat<48;right;rw[oj d,bifT];rw[oj (.inl d)] at a;exact⟨_,rfl,.inr ⟨k,rfl,a⟩⟩;rw[oi d];by_cases e:57<s[k].toNat;right;rw[oj e,bifT];rw[oj (.inr (.inl e))] at a;exact⟨_,rfl,.inr ⟨k,rfl,a⟩⟩;rw[oi e];by_cases l:k=60;right;rw[oj om];rw[oj (.inr (.inr om))] at a;exact⟨_,rfl,.inr ⟨k,rfl,a⟩⟩;left;rw[oi om,w64 om om];rw[oi om] at a;exact⟨_,rfl,⟨k+1,om,om,om,a⟩,om⟩;right;rw[oi om];rw[yd om] at a;exact⟨_,rfl,.inl ⟨rfl,a⟩⟩;rintro t (⟨rfl,h⟩ | ⟨k,rfl,h⟩);rw[K7,bifd];unfold wrongI;rw[h];simp only[];split<;>rfl;rw[Qio];unfold wrongI;rw[h]
def isD(s:List UInt8):Prop:=∀ c∈s,48<=c.toNat/\c.toNat<=57
def numD:List UInt8->Nat->Nat
 | [],v=>v
 | c::s,v=>numD s (v*10+(c.toNat - 48))
theorem Q2n(s:List UInt8)(c:UInt8)(v:Nat):numD (s++[c]) v=numD s v*10+(c.toNat - 48):=by
 induction s generalizing v with
 | nil=>rfl
 | cons x s a=>simp only[xd,numD,a]
theorem Q6s{s:List UInt8}{i:Nat}(h:wrongAt s i=none):isD s/\(s≠[]->i+s.length<=60):=by
 induction s generalizing i with
 | nil=>exact⟨(λ_ h=>by cases h),λh=>absurd rfl h⟩
 | cons c s f=>
   simp only[wrongAt] at h;split at h;cases h;rename_i j;obtain⟨d,e⟩:=f h;refine⟨λx a=>?_,λ_=>?_⟩;rcases xc.1 a with rfl | a;omega;exact d x a;by_cases hs:s=[]
   subst hs;simp;omega;have:=e hs;simp;omega
theorem Jba{s:List UInt8}(h:wrongI s<0):isD s/\s≠[]/\s.length<=60:=by unfold wrongI at h;split at h;omega;rename_i e;obtain⟨a,d⟩:=Q6s e;split at h;omega;rename_i hs;exact⟨a,hs,by have:=d hs;omega⟩
theorem tp_le{j k:Nat}(h:j<=k):tp j<=tp k:=by unfold tp;exact vf oy h
theorem Jc4(V t x d:Nat):(V*t+x)*10+d=V*(t*10)+(x*10+d):=by grind
theorem Q9o{s:List UInt8}(h:isD s)(v k:Nat)(a:v<tp k):numD s v<tp (k+s.length):=by
 induction s generalizing v k with
 | nil=>simpa [numD] using a
 | cons c s e=>
   obtain⟨f,i⟩:=h c yj;have:=e (λx d=>h x (yg _ d)) (v*10+(c.toNat - 48)) (k+1) (by rw[Qdg];omega);simp only[numD,oo];rw[show k+(s.length+1)=k+1+s.length by omega];exact this
theorem tp_bp(k:Nat):tp k<=bp k:=by
 induction k with
 | zero=>rw[Qfi,Y9];omega
 | succ k a=>rw[Qdg,V9];exact vn a om
theorem Qxj{s:List UInt8}(h:isD s):(toL (numD s 0)).length<=s.length:=
 Xy (xj (by simpa using Q9o h 0 0 (by rw[Qfi];omega)) (tp_bp _))
theorem Je9{s:List UInt8}{k:Nat}(h:isD s):isD (s.take k):=λc a=>h c (xt a)
theorem Qj6{n:Nat}{s:List UInt8}(A:big<=n)(hs:s.length<=maxLen):
 Qbo n s=some (if 0<=wrongI s then ([],⟨1,0,0,wrongI s⟩) else (toL (numD s 0),⟨0,0,0,0⟩)):=by
 unfold Qbo;rw[Qwh A hs,sbind,bifd];by_cases u:0<=wrongI s;rw[oj u,oj u];rw[oi u,oi u];obtain⟨G,J,O⟩:=Jba (show wrongI s<0 by omega);unfold big at A;refine Qaj (λt=>s.length - t.2.toNat) (λt=>∃ k:Nat,t.2=k/\k<=s.length/\t.1=toL (numD (s.take k) 0)) (λt=>t=toL (numD s 0)) ⟨0,rfl,xl _,by simp[numD,V6]⟩ (by simp only[];omega) ?_ ?_;rintro⟨o,i⟩ ⟨k,E,M,F⟩;simp only at E F;subst E F;simp only[bifd];by_cases hk:k<s.length;left;rw[oj om]
 refine Ja0 (λt=>9 - t.2.2.2.toNat) (λt=>∃ j:Nat,t.1=((k+j:Nat):Int)/\t.2.2.2=j/\j<=9/\k+j<=s.length/\t.2.2.1=tp j/\t.2.1<tp j/\numD (s.take (k+j)) 0=numD (s.take k) 0*tp j+t.2.1)
  (λt=>∃ j:Nat,0<j/\t.1=((k+j:Nat):Int)/\j<=9/\k+j<=s.length/\t.2.2=tp j/\t.2.1<tp j/\numD (s.take (k+j)) 0=numD (s.take k) 0*tp j+t.2.1) ⟨0,rfl,rfl,om,om,by simp[Qfi],by simp[Qfi],by simp[Qfi]⟩ (by simp only[];omega) ?_ ?_
 rintro⟨i,x,m,c⟩ ⟨j,g1,l,g3,g4,q,d,r⟩;simp only at g1 l q d r;subst g1 l q;have f:tp j<=1000000000:=by have:=tp_le g3;rw[show tp 9=1000000000 by decide] at this;exact this
 have v:j<9->k+j<s.length->(∃ s',(getS s ((k+j:Nat):Int)).bind (λB=>(some (((((x*10)%4294967296)+((B+256 - 48)%256))%4294967296))).bind λC=>some (Lp.go (σ:=Int×Nat×Nat×Int) (τ:=Int×Nat×Nat) (wrap64 (((k+j:Nat):Int)+(1:Int)),C,((tp j*10)%4294967296),wrap64 ((j:Int)+(1:Int)))))=some (.go s') /\
  (∃ j:Nat,s'.1=((k+j:Nat):Int)/\s'.2.2.2=j/\j<=9/\k+j<=s.length/\s'.2.2.1=tp j/\s'.2.1<tp j/\numD (s.take (k+j)) 0=numD (s.take k) 0*tp j+s'.2.1)/\9 - s'.2.2.2.toNat<9 - (j:Int).toNat):=by
  intro N a;obtain⟨K,L⟩:=G _ (yu a);have H:tp j<=100000000:=by have:=tp_le (show j<=8 by omega);rw[show tp 8=100000000 by decide] at this;exact this
  rw[Qfw a,sbind,sbind,w64 om om,w64 om om];rw[yx (show x*10<4294967296 by omega),show(s[k+j].toNat+256 - 48)%256=s[k+j].toNat - 48 by omega,yx (show x*10+(s[k+j].toNat - 48)<4294967296 by omega),yx (show tp j*10<4294967296 by omega)];refine⟨_,rfl,⟨j+1,by simp only[];omega,by simp only[];omega,om,om,by simp only[];rw[Qdg],by simp only[];rw[Qdg];omega,?_⟩,by simp only[];omega⟩;rw[show k+(j+1)=k+j+1 by omega,J1 a,Q2n,r,Qdg];exact Jc4 _ _ _ _
 simp only[jn_eq,bifd];by_cases I:j<9;rw[oj om];by_cases w:k+j<s.length;left;rw[oj om];exact v I w;right;rw[oi om];exact⟨_,rfl,j,om,rfl,om,om,rfl,d,r⟩;right;rw[oi om,bifF];exact⟨_,rfl,j,om,rfl,om,om,rfl,d,r⟩;rintro⟨i,x,m⟩ ⟨j,g0,g1,l,g3,g4,q,d⟩;simp only at g1 g4 q d;subst g1 g4;have f:tp j<=1000000000:=by have:=tp_le l;rw[show tp 9=1000000000 by decide] at this;exact this
 have e:=Qxj (Je9 (k:=k) G);rw[yp] at e;simp only[];rw[Q0y (by unfold big;exact A) om (Jp _) om om,sbind,Q5,<-d];exact⟨_,rfl,⟨k+j,rfl,g3,rfl⟩,by simp only[];omega⟩;right;obtain rfl:k=s.length:=om
 rw[oi om];exact⟨_,rfl,by rw[xb (ou _)]⟩;rintro t rfl;rfl
theorem Jg4{n:Nat}:isD (dcR n):=by
 induction n using Nat.strongRecOn with
 | _ n d=>
   by_cases h:n=0;subst h;rw[Qed];exact λ_ h=>by cases h
   rw[Qcp h];intro c a;rcases xc.1 a with rfl | a;rw[Qxi];omega;exact d (n / 10) om c a
theorem Qg1{n:Nat}:isD (dec n):=by unfold dec;split;intro c a;rw[xq.1 a];decide;intro c a;exact Jg4 c (List.mem_reverse.1 a)
theorem Jfa(n:Nat):numD (dcR n).reverse 0=n:=by
 induction n using Nat.strongRecOn with
 | _ n a=>
   by_cases h:n=0;subst h;rw[Qed];rfl;rw[Qcp h,List.reverse_cons,Q2n,a (n / 10) om,Qxi];omega
theorem Qfy(n:Nat):numD (dec n) 0=n:=by unfold dec;split;rename_i h;rw[h];rfl;exact Jfa n
theorem Q8v{s:List UInt8}{i:Nat}(h:isD s)(hi:i<=60):wrongAt s i=if 60<i+s.length then some 60 else none:=by
 induction s generalizing i with
 | nil=>simp[wrongAt];omega
 | cons c s e=>
   obtain⟨f,j⟩:=h c yj;simp only[wrongAt,oo];by_cases a:i=60;rw[oj om,oj om,a];rw[oi om,e (λx d=>h x (yg _ d)) om];rw[show i+1+s.length=i+(s.length+1) by omega]
theorem Qze{s:List UInt8}(h:isD s)(a:s≠[]):wrongI s=if 60<s.length then 60 else -1:=by unfold wrongI;rw[Q8v h om,xr];split;rename_i i hi;split at hi;cases hi;rw[oj oe];rfl;cases hi;rename_i hi;split at hi;cases hi;rw[oi a,oi oe]
def trimS:List UInt8->List UInt8
 | []=>[]
 | c::s=>if s≠[]/\c=48 then trimS s else c::s
theorem Q6t{v d:Nat}(a:v≠0)(hd:d<10):dec (v*10+d)=dec v++[UInt8.ofNat (48+d)]:=by rw[Qrp om,Qrp a,Qcp om,List.reverse_cons,show(v*10+d) / 10=v by omega];unfold dg;rw[show(v*10+d)%10=d by omega]
theorem Qpw{c:UInt8}(a:48<=c.toNat):UInt8.ofNat (48+(c.toNat - 48))=c:=by rw[show 48+(c.toNat - 48)=c.toNat by omega];exact UInt8.ofNat_toNat
theorem Q6u{s:List UInt8}{v:Nat}(h:isD s)(d:v≠0):dec (numD s v)=dec v++s:=by
 induction s generalizing v with
 | nil=>simp[numD]
 | cons c s f=>
   obtain⟨a,i⟩:=h c yj;simp only[numD];rw[f (λx e=>h x (yg _ e)) om,Q6t d om,Qpw a];simp
theorem Q2o{c:UInt8}(a:48<=c.toNat)(d:c.toNat<=57):dec (c.toNat - 48)=[c]:=by
 by_cases h:c.toNat - 48=0;rw[h];have:c=48:=by apply UInt8.toNat_inj.1;show c.toNat=48;omega
 rw[this];rfl;rw[Qrp h,Qcp h,show(c.toNat - 48) / 10=0 by omega,Qed];unfold dg;rw[show(c.toNat - 48)%10=c.toNat - 48 by omega,Qpw a];rfl
theorem Jc5{s:List UInt8}(h:isD s)(d:s≠[]):dec (numD s 0)=trimS s:=by
 induction s with
 | nil=>exact absurd rfl d
 | cons c s m=>
   obtain⟨f,i⟩:=h c yj;have j:=λx l=>h x (yg _ l);simp only[numD,Nat.zero_mul,xr,trimS];by_cases hs:s=[]
   subst hs;rw[oi oc];simp only[numD];exact Q2o f i;by_cases a:c=48;subst a;rw[oj ⟨hs,rfl⟩];exact m j hs
   rw[oi (by simp[a]),Q6u j (by
    intro e;apply a;apply UInt8.toNat_inj.1;show c.toNat=48
    omega),Q2o f i];rfl
def cN(x:Q0):Qd:=⟨x.Op,x.I,x.N⟩
def cL(x:Kk):Qy:=⟨x.As,x.Code.map cN⟩
def cF(x:Jr):Qt:=⟨x.Aq.map cL,x.Ar.map (·.map cN)⟩
theorem cN_N(x):(cN x).N=x.N:=yw (yw rfl)
theorem w01:wrap64 (0+1)=1:=by unfold wrap64;omega
theorem w11:wrap64 (1+1)=2:=by unfold wrap64;omega
def ar(op:Int):Int:=if 1<=op/\op<=5 then 0 else if op=6\/op=11 then 1 else if 7<=op/\op<=10 then 2 else -1
theorem Ql4(op:Int):ar op=0\/ar op=1\/ar op=2\/ar op=-1:=by unfold ar;grind
theorem Y6(op:Int):X1 op=some (ar op):=by
 unfold X1 ar;by_cases hr:1<=op/\op<=11;have:op=1\/op=2\/op=3\/op=4\/op=5\/op=6\/op=7\/op=8\/op=9\/op=10\/op=11:=om
 rcases this with rfl | rfl | rfl | rfl | rfl | rfl | rfl | rfl | rfl | rfl | rfl<;>rfl;have i:op≠1:=om
 have j:op≠2:=om
 have l:op≠3:=om
 have m:op≠4:=om
 have q:op≠5:=om
 have r:op≠6:=om
 have s:op≠7:=om
 have u:op≠8:=om
 have v:op≠9:=om
 have a:op≠10:=om
 have d:op≠11:=om
 have e:¬(1<=op/\op<=5):=om
 have f:¬(7<=op/\op<=10):=om
 simp[i,j,l,m,q,r,s,u,v,a,d,e,f,jn_eq]
def wrG(i:Nat)(x:Qd)(o:Int):Int ⊕ Int:=if ar x.Op<0\/o<ar x.Op then .inr (i:Int) else .inl (o+1 - ar x.Op)
def wrongT(c:List Qd):Int:=runG wrG (λo=>if o=1 then -1 else (c.length:Int)) c 0 0
theorem Qpx{c:List Qd}(q:c.length<=4611686018427387904):Qe2 c=some (wrongT c):=by unfold Qe2 wrongT;refine Qnp wrG _ (λi o=>0<=o/\o<=i) c (λi x o l hI=>?_) oc (λo _=>?_);have hi:=Jg l;have m:=Ql4 x.Op;obtain⟨f,j⟩:=hI;simp only[Y6,sbind,jn_eq,bifd,wrG];by_cases h:ar x.Op<0\/o<ar x.Op;rw[oj h];refine⟨?_,λe a=>by cases a⟩;by_cases d:ar x.Op<0;simp[d,toLq];simp[d,(show o<ar x.Op by omega),toLq];rw[oi h];refine⟨?_,λe a=>by cases a;omega⟩;rw[oi om];simp(disch:=omega) only[w64,oi (show ¬ o<ar x.Op by omega),toLq];rw[show o+(1 - ar x.Op)=o+1 - ar x.Op by omega];rw[bifnd];split<;>rfl
theorem Qzf{c:List Qd}(a:c.length<=4611686018427387904):Qh0 c=some (decide (wrongT c<0)):=by unfold Qh0;rw[Qpx a,sbind]
def stk1(i:Nat)(x:Qd)(s:List (Int×Nat)):List (Int×Nat):=
 if ar x.Op=1 then match s with
  | (d,f)::r=>(max 0 d+1,f)::r
  | []=>[]
 else if ar x.Op=2 then match s with
  | (d,_)::(e,f)::r=>(max (max 0 d) e+1,f)::r
  | _=>[]
 else (1,i)::s
def stk(c:List Qd):Nat->List (Int×Nat)
 | 0=>[]
 | i+1=>match c[i]? with
   | some x=>stk1 i x (stk c i)
   | none=>stk c i
def depthT(c:List Qd):Int:=if wrongT c<0 then ((stk c c.length).head?.map (·.1)).getD 0 else 0
def okTo(c:List Qd)(i:Nat):Prop:=∀ j,j<i->∀ x,c[j]?=some x->0<=ar x.Op/\ar x.Op<=((stk c j).length:Int)
theorem Qfz{c:List Qd}{i:Nat}{x:Qd}(h:c[i]?=some x):stk c (i+1)=stk1 i x (stk c i):=by simp only[stk,h]
theorem Qmj{i:Nat}{x:Qd}{s:List (Int×Nat)}(h0:0<=ar x.Op)(h:ar x.Op<=(s.length:Int)):((stk1 i x s).length:Int)=s.length+1 - ar x.Op:=by
 unfold stk1;rcases Ql4 x.Op with a | a | a | a;simp[a];rw[oj a];cases s with
 | nil=>simp at h;omega
 | cons p r=>simp[a]
 rw[oi om,oj a]
 match s,h with
 | [],h=>simp at h;omega
 | [_],h=>simp at h;omega
 | p::q::r,_=>simp[a];omega
 omega
theorem Qxk(c:List Qd)(h:wrongT c<0):okTo c c.length/\(stk c c.length).length=1:=by
 have key:∀(ys:List Qd) (i:Nat) (o:Int),c=c.take i++ys->i<=c.length->okTo c i->((stk c i).length:Int)=o->runG wrG (λo=>if o=1 then -1 else (c.length:Int)) ys i o<0 ->
  okTo c c.length/\(stk c c.length).length=1:=by
  intro ys
  induction ys with
  | nil=>
    intro i o d hi l hs h;have:i=c.length:=by have:=ur List.length d;simp at this;omega
    subst this;simp only[runG] at h;split at h;exact⟨l,om⟩;omega
  | cons y ys s=>
    intro i o d hi l hs h;have e:c[i]?=some y:=by rw[d,yy oh];simp[yi hi]
    have a:=Jg e;simp only[runG,wrG] at h;by_cases q:ar y.Op<0\/o<ar y.Op;rw[oj q] at h;simp only[] at h;omega;rw[oi q] at h;simp only[] at h;refine s (i+1) _ ?_ om ?_ ?_ h;rw[J1 a,xx];have:c[i]=y:=by have:=ot a;rw[e] at this;exact(Option.some.inj this).symm
    rw[this];exact d;intro j r x m;by_cases f:j<i;exact l j f x m;obtain rfl:j=i:=om
    rw[e] at m;cases m;omega;rw[Qfz e,Qmj om om];omega
 exact key c 0 0 oc (xl _) (λj r=>by omega) rfl h
theorem Q1c{c:List Qd}:∀(i:Nat),i<=c.length->okTo c i->∀ d f r,stk c i=(d,f)::r->f<i/\stk c f=r/\1<=d/\d<=i:=by
 intro i
 induction i using Nat.strongRecOn with
 | _ i B=>
   intro hi A d f r h;cases i with
   | zero=>simp[stk] at h
   | succ i=>
     have x:i<c.length:=om
     have F:c[i]?=some c[i]:=ot x;rw[Qfz F] at h;have a:=A i om _ F;have s:okTo c i:=λj J=>A j om;unfold stk1 at h;rcases Ql4 (c[i]).Op with q | q | q | q;rw[oi om,oi om] at h;simp only[List.cons.injEq,Prod.mk.injEq] at h;obtain⟨⟨e,l⟩,m⟩:=h;subst e l m;exact⟨om,rfl,om,om⟩;rw[oj q] at h;cases hs:stk c i with
     | nil=>rw[hs] at a;simp at a;try omega
     | cons p t=>
       obtain⟨v,u⟩:=p;rw[hs] at h;simp only[List.cons.injEq,Prod.mk.injEq] at h;obtain⟨⟨e,l⟩,m⟩:=h;subst e l m;obtain⟨G,w,H,I⟩:=B i om om s v u t hs;exact⟨om,w,om,om⟩
     rw[oi om,oj q] at h
     match hs:stk c i with
     | []=>rw[hs] at a;simp at a;try omega
     | [_]=>rw[hs] at a;simp at a;try omega
     | (v,u)::(C,E)::t=>
       rw[hs] at h;simp only[List.cons.injEq,Prod.mk.injEq] at h;obtain⟨⟨e,l⟩,m⟩:=h;subst e l m;obtain⟨G,w,H,I⟩:=B i om om s v u ((C,E)::t) hs;obtain⟨K,g3,g4,L⟩:=B u om om (λj J=>A j om) C E t w;exact⟨om,g3,om,om⟩
     omega
def pst(s:List (Int×Nat)):List Int:=(s.map (·.1)).reverse
theorem Ql5(p:Int×Nat)(s):pst (p::s)=pst s++[p.1]:=by simp[pst]
theorem Qb8(s):(pst s).length=s.length:=by simp[pst]
theorem Qzg{n:Nat}{c:List Qd}(M:big<=n)(O:c.length<=1000000000):Qh1 n c=some (depthT c):=by
 unfold Qh1 depthT;unfold big at M;rw[Qzf om,sbind];by_cases A:wrongT c<0;rw[oj A];simp only[oq A,ow,bifF];obtain⟨u,F⟩:=Qxk c A;refine Qa5 (λi s=>i<=c.length/\s=pst (stk c i)) ⟨xl _,rfl⟩ (λi x s G hI=>?_) (λs hs=>?_);obtain⟨hi,rfl⟩:=hI;have E:=Jg G;obtain⟨a0,a1⟩:=u i E x G;have a:(stk c i).length<=i:=by
  have:∀ k,k<=c.length->(stk c k).length<=k:=by
   intro k
   induction k with
   | zero=>intro _;simp[stk]
   | succ k N=>
     intro hk;have B:c[k]?=some c[k]:=ot om;obtain⟨b0,J⟩:=u k om _ B;have:=Qmj (i:=k) b0 J;rw[Qfz B];have:=N om;omega
  exact this i hi
 refine⟨pst (stk c (i+1)),?_,om,rfl⟩;simp only[Y6,sbind];rw[Qfz G];unfold stk1;obtain⟨m,rfl⟩:∃ m,n=m+3:=⟨n - 3,om⟩
 have q:∀(l:List Int) (d:Int),l.length<=i->(appM 8 l [wrap64 (d+1)]).bind (λH=>some (Lp.go (τ:=Int) H))=some (Lp.go (l++[wrap64 (d+1)])):=by intro l d C;rw[Jk oh oh,sbind]
 rcases Ql4 x.Op with v | v | v | v;rw[oi om,oi om,v];rw[Kv (t:=(pst (stk c i),(0:Int))) (by simp[]) om,sbind,q _ _ (by rw[Qb8];exact a),Ql5,w64 om om];rfl;rw[oj v,v];cases hs:stk c i with
 | nil=>rw[hs] at a1;simp at a1;omega
 | cons p r=>
   obtain⟨d,f⟩:=p;obtain⟨_,_,g1,L⟩:=Q1c i hi (λj I=>u j om) d f r hs;rw[hs] at a;have C:r.length<=i:=by simp at a;omega
   rw[Ql5];rw[Qaw (s':=(pst r,max 0 d,(1:Int))) (by simp only[bifd];rw[oj oy,Qst (by rw[Qb8];omega),sbind,Qvb (by rw[Qb8];omega),sbind,w01])];rw[Kv (t:=(pst r,max 0 d)) (by simp[]) om,sbind,q _ _ (by rw[Qb8];exact C),Ql5,w64 om om]
 rw[oi om,oj v,v]
 match hs:stk c i with
 | []=>rw[hs] at a1;simp at a1;omega
 | [_]=>rw[hs] at a1;simp at a1;omega
 | (d,f)::(e,K)::r=>
   obtain⟨k1,k2,g1,L⟩:=Q1c i hi (λj I=>u j om) d f _ hs;obtain⟨_,_,g3,g4⟩:=Q1c f om (λj I=>u j om) e K r k2;rw[hs] at a;have C:r.length<=i:=by simp at a;omega
   have w:r.length<9223372036854775807:=om
   rw[Ql5,Ql5];rw[Qaw (s':=(pst r++[e],max 0 d,(1:Int))) (by simp only[bifd];rw[oj oy,Qst (by simp[Qb8] at *;omega),sbind,Qvb (by simp[Qb8] at *;omega),sbind,w01])];rw[Qaw (s':=(pst r,max (max 0 d) e,(2:Int))) (by simp only[bifd];rw[oj oy,Qst (by rw[Qb8];exact w),sbind,Qvb (by rw[Qb8];exact w),sbind,w11])];rw[Kv (t:=(pst r,max (max 0 d) e)) (by simp[]) om,sbind,q _ _ (by rw[Qb8];exact C),Ql5,w64 om om]
 omega;obtain⟨_,rfl⟩:=hs
 match h:stk c c.length,F with
 | [p],_=>
   simp[pst,getI,K7]
 rw[oi A];simp only[ol A,xo,bifT]
theorem Q8w{c:List Qd}:∀ i,okTo c i->i<=c.length->(stk c i).length<=i:=by
 intro k
 induction k with
 | zero=>intro _ _;simp[stk]
 | succ k f=>
   intro d hk;have a:c[k]?=some c[k]:=ot om;obtain⟨b0,e⟩:=d k om _ a;have:=Qmj (i:=k) b0 e;rw[Qfz a];have:=f (λj l=>d j om) om;omega
theorem Qxl{c:List Qd}(e:c.length<=1000000000)(d:∀ x∈c,x.N.length<=1000000000):Qbp c=some c:=by
 unfold Qbp;refine Qa5 (λi s=>i<=c.length/\s=c.take i) ⟨xl _,rfl⟩ (λi x s a hI=>?_) (λs hs=>?_);obtain⟨_,rfl⟩:=hI;have hi:=Jg a;have f:(c.take i).length=i:=oh
 refine⟨c.take (i+1),?_,om,rfl⟩;have d:=d x (Q3 a);rw[Jk oh oh,sbind,Jk oh oh,sbind,J1 hi];have:c[i]=x:=by have:=ot hi;rw[a] at this;exact(Option.some.inj this).symm
 rw[this,xf];rw[hs.2,K7,yn]
def codesT(f:Qt):List (List Qd):=f.Aq.map (·.Code)++f.Ar
def sizeT(f:Qt):Int:=(codesT f).foldl (λn c=>n+(c.length:Int)) 0
def FB(f:Qt):Prop:=f.Aq.length<=1000/\f.Ar.length<=1000/\∀ c∈codesT f,c.length<=100000/\∀ x∈c,x.N.length<=100000/\Wd x.N
theorem Qzh{f:Qt}(h:FB f):Qhx f=some (codesT f):=by
 unfold Qhx;obtain⟨j,l,e⟩:=h;have d:∀ c∈codesT f,Qbp c=some c:=λc d=>Qxl (by have:=(e c d).1;omega) (λx a=>by have:=((e c d).2 x a).1;omega);refine Qa5 (λi s=>i<=f.Aq.length/\s=(f.Aq.take i).map (·.Code)) ⟨xl _,rfl⟩ (λi x s a hI=>?_) (λs hs=>?_);obtain⟨_,rfl⟩:=hI;have hi:=Jg a;refine⟨(f.Aq.take (i+1)).map (·.Code),?_,om,rfl⟩;rw[d _ (uy _ (uj (Q3 a))),sbind,Jk oh oh,sbind,J1 hi];have:f.Aq[i]=x:=by have:=ot hi;rw[a] at this;exact(Option.some.inj this).symm
 rw[this,xu];rfl;rw[hs.2,K7,yn];refine Qa5 (λi s=>i<=f.Ar.length/\s=f.Aq.map (·.Code)++f.Ar.take i) ⟨xl _,oc⟩ (λi x s a hI=>?_) (λs hs=>?_);obtain⟨_,rfl⟩:=hI;have hi:=Jg a;refine⟨f.Aq.map (·.Code)++f.Ar.take (i+1),?_,om,rfl⟩;rw[d _ (yt _ (Q3 a)),sbind,Jk oh oh,sbind,J1 hi];have:f.Ar[i]=x:=by have:=ot hi;rw[a] at this;exact(Option.some.inj this).symm
 rw[this,xx];rw[hs.2,K7,yn];rfl
theorem Q6v{l:List (List Qd)}:∀ {a:Int},(∀ c∈l,c.length<=100000)->l.foldl (λn c=>n+(c.length:Int)) a<=a+100000*l.length/\a<=l.foldl (λn c=>n+(c.length:Int)) a:=by
 induction l with
 | nil=>intro a _;simp
 | cons c l e=>
   intro a h;have f:=h c (.head _);obtain⟨i,j⟩:=@e (a+c.length) (λd hd=>h d (.tail _ hd));simp only[wx,oo];omega
theorem Q6w{l:List (List Qd)}{i:Nat}{x}(h:l[i]?=some x)(a:Int):(l.take (i+1)).foldl (λn c=>n+(c.length:Int)) a=(l.take i).foldl (λn c=>n+(c.length:Int)) a+x.length:=by
 have hi:=Jg h;rw[J1 hi,ge];have:l[i]=x:=by have:=ot hi;rw[h] at this;exact(Option.some.inj this).symm
 rw[this];rfl
theorem Jbb{f:Qt}(h:FB f):(codesT f).length<=2000:=by unfold codesT;simp;have:=h.1;have:=h.2.1;omega
theorem Q1d{f:Qt}(h:FB f):Qjf f=some (sizeT f):=by
 unfold Qjf;rw[Qzh h,sbind];have l:=Jbb h;refine Qa5 (λi s=>i<=(codesT f).length/\s=((codesT f).take i).foldl (λn c=>n+(c.length:Int)) 0) ⟨xl _,rfl⟩ (λi x s a hI=>?_) (λs hs=>?_);obtain⟨_,rfl⟩:=hI;have hi:=Jg a;have d:=@Q6v ((codesT f).take (i+1)) 0 (λc e=>(h.2.2 c (xt e)).1);rw[Q6w a] at d;have j:((codesT f).take (i+1)).length<=2000:=by rw[yp];omega
 refine⟨((codesT f).take (i+1)).foldl (λn c=>n+(c.length:Int)) 0,?_,om,rfl⟩;rw[Q6w a,w64 om om];rw[hs.2,K7,yn];rfl
theorem Qsx(f:Jr):codesT (cF f)=(f.Aq.map (·.Code)++f.Ar).map (·.map cN):=by unfold codesT cF;simp[cL,Function.comp_def]
theorem Jfb{n:Nat}{f:Jr}(e:big<=n)(l:f.Aq.length<=1000)(m:f.Ar.length<=1000):Qix n f=some (f.Aq.map (·.Code)++f.Ar):=by unfold Qix;unfold big at e;refine Qss (λs i=>(s,(i:Int))) (λi (x:Kk) s=>.inl (s++[x.Code])) (λs=>s) (λi s=>s.length=i) f.Aq [] (λi x s a hI=>?_) (λs _=>by simp[]) rfl om ?_;have hi:=Jg a;refine⟨?_,λj d=>by cases d;simp[hI]⟩;simp only[bifd,oj (show(i:Int)<(f.Aq.length:Int) by omega),Wc a,sbind];rw[Jk oh oh,sbind,w1 om];rfl;rw[Qmy (λ(x:Kk) s=>s++[x.Code]),Qlm,xf,Jk oh oh,sbind]
theorem Qtx{n:Nat}{c:List Q0}(e:big<=n)(j:c.length<=1000000000):Yq n c=some (c.map cN):=by unfold Yq;unfold big at e;refine Qss (λs i=>(s,(i:Int))) (λi (x:Q0) s=>.inl (s++[cN x])) (λs=>s) (λi s=>s.length=i) c [] (λi x s a hI=>?_) (λs _=>by simp[]) rfl om ?_;have hi:=Jg a;refine⟨?_,λf d=>by cases d;simp[hI]⟩;simp only[bifd,oj (show(i:Int)<(c.length:Int) by omega),Wc a,sbind];rw[Jk oh oh,sbind,w1 om];rfl;rw[Qmy (λ(x:Q0) s=>s++[cN x]),Qlm,xf]
theorem Qvf{n:Nat}{f:Jr}(m:big<=n)(h:FB (cF f)):Xd n f=some (cF f):=by
 unfold Xd;have u:f.Aq.length<=1000:=by have:=h.1;simpa [cF] using this
 have v:f.Ar.length<=1000:=by have:=h.2.1;simpa [cF] using this
 have d:∀ c∈f.Aq.map (·.Code)++f.Ar,c.length<=100000:=λc r=>by
  have:=(h.2.2 (c.map cN) (by rw[Qsx];exact uj r)).1
  simpa using this
 have e:=m;unfold big at m;refine Qss (λs i=>(s,(i:Int))) (λi (x:Kk) s=>.inl (s++[cL x])) (λs=>s) (λi s=>s.length=i) f.Aq [] (λi x s a hI=>?_) (λs _=>by simp[]) rfl om ?_;have hi:=Jg a;refine⟨?_,λq j=>by cases j;simp[hI]⟩;have l:=d x.Code (uy _ (uj (Q3 a)));simp only[bifd,oj (show(i:Int)<(f.Aq.length:Int) by omega),Wc a,sbind];rw[Qtx e om,sbind,Jk oh oh,sbind,w1 om];rfl;rw[Qmy (λ(x:Kk) s=>s++[cL x]),Qlm,xf];refine Qss (λs i=>(s,(i:Int))) (λi (x:List Q0) s=>.inl (s++[x.map cN])) (λs=>s) (λi s=>s.length=i) f.Ar [] (λi x s a hI=>?_) (λs _=>by simp[]) rfl om ?_;have hi:=Jg a;refine⟨?_,λq j=>by cases j;simp[hI]⟩;have l:=d x (yt _ (Q3 a));simp only[bifd,oj (show(i:Int)<(f.Ar.length:Int) by omega),Wc a,sbind];rw[Qtx e om,sbind,Jk oh oh,sbind,w1 om];rfl;rw[Qmy (λ(x:List Q0) s=>s++[x.map cN]),Qlm,xf];rfl
theorem Qpy{n:Nat}{c:List Q0}{many words:Nat}(q:big<=n)(r:c.length<=9223372036854775807):
 ∃ b,X3 n c (many:Int) (words:Int)=some b/\(b=false->c.length<=many/\∀ x∈c,x.N.length<=words):=by
 unfold X3;unfold big at q
 refine Qlk (λs:Int=>(c.length - s.toNat)) (λs=>∃ i:Nat,s=i/\i<=c.length/\∀ x∈c.take i,x.N.length<=words)
  (λt:Lp Unit Bool=>(t=.go ()/\∀ x∈c.take many,x.N.length<=words)\/t=.out true) ⟨0,rfl,xl _,oc⟩ oh (λs hI=>?_) (λt m=>?_)
 rotate_left
 . rcases m with ⟨rfl,h⟩ | rfl
   . refine⟨decide ((many:Int)<(c.length:Int)),rfl,λf=>?_⟩
     have d:c.length<=many:=by simp at f;omega
     rw[xb d] at h;exact⟨d,h⟩
   . exact⟨true,rfl,λh=>by cases h⟩
 . obtain⟨i,rfl,hi,j⟩:=hI
   simp only[jn_eq,bifd];by_cases l:i<c.length
   . rw[oj om]
     by_cases u:i<many
     . have a:c[i]?=some c[i]:=ot l
       rw[oj (show(i:Int)<(many:Int) by omega)];simp only[Wc a,sbind];by_cases f:(words:Int)<((c[i]).N.length:Int)
       . right;exact⟨.out true,by rw[oj f],.inr rfl⟩
       . left
         refine⟨((i+1:Nat):Int),by rw[oi f,w1 om],⟨i+1,rfl,om,λx e=>?_⟩,oh⟩;rw[J1 l] at e;rcases xk.1 e with h | h
         . exact j x h
         . rw[xq.1 h];omega
     . right
       rw[oi (show ¬(i:Int)<(many:Int) by omega)]
       exact⟨.go (),rfl,.inl ⟨rfl,λx a=>j x (by
        have:c.take many=(c.take i).take many:=by rw[List.take_take,yi om]
        rw[this] at a;exact xt a)⟩⟩
   . right
     rw[oi om]
     exact⟨.go (),rfl,.inl ⟨rfl,λx a=>j x (by
      have:c.take i=c:=xb om
      rw[this];exact xt a)⟩⟩
theorem Qsy{n:Nat}{f:Jr}{parts many words:Nat}(A:big<=n)(E:Qak f)(I:maxLen<=9223372036854775807):
 ∃ b,Xo n f (parts:Int) (many:Int) (words:Int)=some b /\
   (b=false->f.Aq.length<=parts/\f.Ar.length<=parts/\(∀ l∈f.Aq,l.As.length<=100)/\∀ c∈f.Aq.map (·.Code)++f.Ar,c.length<=many/\∀ x∈c,x.N.length<=words):=by
 unfold Xo;have e:=A;unfold big at A;obtain⟨⟨G,B⟩,⟨H,C⟩,_⟩:=E;simp only[jn_eq,bifd];by_cases u:(parts:Int)<(f.Aq.length:Int)
 . rw[oj u];exact⟨true,rfl,λh=>by cases h⟩
 . rw[oi u]
   by_cases v:(parts:Int)<(f.Ar.length:Int)
   . rw[oj v];exact⟨true,rfl,λh=>by cases h⟩
   . rw[oi v]
     refine Qlk (λs:Int=>(f.Aq.length - s.toNat)) (λs=>∃ i:Nat,s=i/\i<=f.Aq.length/\∀ l∈f.Aq.take i,l.As.length<=100/\l.Code.length<=many/\∀ x∈l.Code,x.N.length<=words)
      (λt:Lp Unit Bool=>(t=.go ()/\∀ l∈f.Aq,l.As.length<=100/\l.Code.length<=many/\∀ x∈l.Code,x.N.length<=words)\/t=.out true) ⟨0,rfl,xl _,oc⟩ oh (λs hI=>?_) (λt q=>?_)
     rotate_left
     . rcases q with ⟨rfl,w⟩ | rfl
       . rw[K7]
         refine Qlk (λs:Int=>(f.Ar.length - s.toNat)) (λs=>∃ i:Nat,s=i/\i<=f.Ar.length/\∀ c∈f.Ar.take i,c.length<=many/\∀ x∈c,x.N.length<=words)
          (λt:Lp Unit Bool=>(t=.go ()/\∀ c∈f.Ar,c.length<=many/\∀ x∈c,x.N.length<=words)\/t=.out true) ⟨0,rfl,xl _,oc⟩ oh (λs hI=>?_) (λt q=>?_)
         rotate_left
         . rcases q with ⟨rfl,F⟩ | rfl
           . refine⟨false,rfl,λ_=>⟨om,om,λl d=>(w l d).1,λc a=>?_⟩⟩
             rcases xk.1 a with h | h
             . obtain⟨l,d,rfl⟩:=xy.1 h
               exact(w l d).2
             . exact F c h
           . exact⟨true,rfl,λh=>by cases h⟩
         . obtain⟨i,rfl,hi,m⟩:=hI
           by_cases d:i<f.Ar.length
           . have r:f.Ar[i]?=some f.Ar[i]:=ot d
             obtain⟨b,k1,k2⟩:=@Qpy n f.Ar[i] many words e (by have:=(C _ (yu d)).1;omega);simp only[oj (show(i:Int)<(f.Ar.length:Int) by omega),Wc r,sbind,k1];cases b with
             | true=>right;exact⟨.out true,rfl,.inr rfl⟩
             | false=>
               left;refine⟨((i+1:Nat):Int),by rw[bifF,w1 om],⟨i+1,rfl,om,λc a=>?_⟩,oh⟩;rw[J1 d] at a;rcases xk.1 a with h | h
               . exact m c h
               . rw[xq.1 h];exact k2 rfl
           . right
             rw[oi om];exact⟨.go (),rfl,.inl ⟨rfl,λc a=>m c (by rw[xb om];exact a)⟩⟩
       . exact⟨true,rfl,λh=>by cases h⟩
     . obtain⟨i,rfl,hi,m⟩:=hI
       by_cases d:i<f.Aq.length
       . have r:f.Aq[i]?=some f.Aq[i]:=ot d
         obtain⟨b,k1,k2⟩:=@Qpy n (f.Aq[i]).Code many words e (by have:=(B _ (yu d)).2.1.1;omega);simp only[oj (show(i:Int)<(f.Aq.length:Int) by omega),Wc r,sbind,k1];by_cases j:(100:Int)<((f.Aq[i]).As.length:Int)
         . right;exact⟨.out true,by rw[oj j];rfl,.inr rfl⟩
         . rw[oi j]
           cases b with
           | true=>right;exact⟨.out true,rfl,.inr rfl⟩
           | false=>
             left;refine⟨((i+1:Nat):Int),by rw[bifF,w1 om],⟨i+1,rfl,om,λc a=>?_⟩,oh⟩;rw[J1 d] at a;rcases xk.1 a with h | h
             . exact m c h
             . rw[xq.1 h];exact⟨om,k2 rfl⟩
       . right
         rw[oi om];exact⟨.go (),rfl,.inl ⟨rfl,λc a=>m c (by rw[xb om];exact a)⟩⟩
def digB(c:Nat):Bool:=decide (48<=c/\c<=57)
def letB(c:Nat):Bool:=decide (97<=c/\c<=122\/65<=c/\c<=90\/c=95)
def sgnL:List UInt8:=[43,45,42,47,94,40,41,91,93,44,59,61]
def sgnB(c:Nat):Bool:=sgnL.any (λx=>x.toNat=c)
def kindC(c:Nat):Int:=if digB c then 1 else if letB c then 2 else if sgnB c then 3 else 0
def goC(k:Int)(c:Nat):Bool:=(decide (k=1) && digB c) || (decide (k=2) && (letB c || digB c))
def mostC(k:Int):Nat:=if k=1 then 60 else if k=2 then 12 else 1
def wdB(k:Int):List UInt8->Bool
 | []=>false
 | c::r=>decide (k≠0) && (decide (kindC c.toNat=k) && (r.all (λb=>goC k b.toNat) && decide (r.length+1<=mostC k)))
theorem Qrq(c:Nat):Qcb c=some (digB c):=by unfold Qcb digB;simp only[jn_eq,bifd];grind
theorem Qpz(c:Nat):Qcr c=some (letB c):=by unfold Qcr letB;simp only[jn_eq,bifd];grind
theorem Jbc{s:List UInt8}{p:Nat}{c:UInt8}(h:s[p]?=some c)(d:c.toNat<128):decR s p=c.toNat/\decW s p=1:=by
 have a:((⟨s.toArray⟩:ByteArray).get! (p+0)).toNat=c.toNat:=by
  have e:=Jg h;have:((⟨s.toArray⟩:ByteArray).get! (p+0))=c:=by show s.toArray[p+0]! = c;simp[h]
  rw[this]
 unfold decR decW Utf8.decode;simp only[a];rw[oj d];exact⟨rfl,rfl⟩
theorem Q36{n c:Nat}(s:big<=n):Qks n c=some (sgnB c):=by
 unfold Qks;unfold big at s;have e:sgnB c=runG (τ:=Bool) (λ_ (x:UInt8) (_:Unit)=>if x.toNat=c then .inr true else .inl ()) (λ_=>false) sgnL 0 ():=by
  unfold sgnB;have:∀(l:List UInt8) (i:Nat),l.any (λx=>decide (x.toNat=c))=runG (τ:=Bool) (λ_ (x:UInt8) (_:Unit)=>if x.toNat=c then .inr true else .inl ()) (λ_=>false) l i ():=by
   intro l
   induction l with
   | nil=>intro i;rfl
   | cons x l u=>
     intro i;simp only[dm,runG];by_cases h:x.toNat=c;simp[h];simp only[ol h,oi h,Bool.false_or];exact u (i+1)
  exact this _ 0
 rw[e];refine Q6i (λ_ i=>i) (λ_ (x:UInt8) (_:Unit)=>if x.toNat=c then .inr true else .inl ()) (λ_=>()) _ (λ_ _=>True) sgnL () (λi x b m _=>⟨?_,λ_ _=>trivial⟩) (λb _=>by simp[bifd,sgnL]) (λb _=>rfl) trivial (by simp[sgnL];omega);have hi:=Jg m;have j:x.toNat<128:=by
  have:∀ y∈sgnL,y.toNat<128:=oy
  exact this x (Q3 m)
 obtain⟨q,r⟩:=Jbc m j;have a:decR [43,45,42,47,94,40,41,91,93,44,59,61] i=x.toNat:=q;have d:decW [43,45,42,47,94,40,41,91,93,44,59,61] i=1:=r;have f:i<([43,45,42,47,94,40,41,91,93,44,59,61]:List UInt8).length:=hi;simp only[bifd,oj f,sbind,a,d];rw[show Int.toNat ((x.toNat:Int)%256)=x.toNat by omega];by_cases h:x.toNat=c;rw[oj h,oj h];rfl;rw[oi h,oi h];rfl
theorem Qjz{n c:Nat}(a:big<=n):Qfn n c=some (kindC c):=by
 unfold Qfn kindC;rw[Qrq,sbind];cases digB c with
 | true=>rfl
 | false=>
   rw[bifF,Qpz,sbind];cases letB c with
   | true=>rfl
   | false=>rw[bifF,Q36 a,sbind];cases sgnB c<;>rfl
theorem Q37(k:Int)(c:Nat):Qkt k c=some (goC k c):=by unfold Qkt goC;simp only[jn_eq,Qrq,Qpz,sbind,bifd];by_cases a:k=1;subst a;cases digB c<;>simp;by_cases d:k=2;subst d;cases letB c<;>cases digB c<;>simp;simp[a,d]
theorem Qne(k:Int):Qbx k=some (mostC k:Int):=by unfold Qbx mostC;simp only[bifd];grind
def firstL(k:Int)(s:List UInt8):Nat:=1+((s.drop 1).takeWhile (λc=>goC k c.toNat)).length
theorem Q1e{α:Type}(p:α->Bool)(l:List α):(l.takeWhile p)=l.take (l.takeWhile p).length:=by
 induction l with
 | nil=>rfl
 | cons x l a=>
   rw[yf];cases p x with
   | true=>simp only[uf,oo,ui];rw[<-a]
   | false=>rfl
theorem Qty{α:Type}{p:α->Bool}:∀ {l:List α}{i:Nat},i<(l.takeWhile p).length->∃ x,l[i]?=some x/\p x=true
 | [],i,h=>by simp at h
 | y::l,0,h=>by
   cases a:p y with
   | true=>exact⟨y,rfl,a⟩
   | false=>rw[yf,a] at h;simp at h
 | y::l,i+1,h=>by
   rw[yf] at h;cases a:p y with
   | true=>rw[a] at h;simp only[uf,oo] at h;exact Qty (l:=l) (i:=i) om
   | false=>rw[a] at h;simp at h
theorem Qtz{α:Type}{p:α->Bool}:∀ {l:List α}{x:α},l[(l.takeWhile p).length]?=some x->p x=false
 | [],x,h=>by simp at h
 | y::l,x,h=>by
   rw[yf] at h;cases a:p y with
   | true=>rw[a] at h;simp only[uf,oo,vw] at h;exact Qtz h
   | false=>rw[a] at h;simp at h;rw[<-h];exact a
theorem Qoz{α:Type}(p:α->Bool)(l:List α):(l.takeWhile p).length<=l.length:=(List.takeWhile_sublist p).length_le
theorem Qrr{n:Nat}{s:List UInt8}{k:Int}(u:big<=n)(hs:s.length<=4611686018427387904):Qcc n s k=some (firstL k s:Int):=by
 unfold Qcc;unfold big at u;generalize q:(λc:UInt8=>goC k c.toNat)=p;have a:∀ c:UInt8,goC k c.toNat=p c:=λc=>by rw[<-q]
 have m:((s.drop 1).takeWhile p).length<=s.length:=xn (Qoz _ _) oc;have r:firstL k s=1+((s.drop 1).takeWhile p).length:=by unfold firstL;rw[q]
 rw[r];refine Qaj (λs':Int=>s.length+2 - s'.toNat) (λs'=>∃ j:Nat,s'=((1+j:Nat):Int)/\j<=((s.drop 1).takeWhile p).length) (λt=>t=((1+((s.drop 1).takeWhile p).length:Nat):Int)) ⟨0,rfl,xl _⟩ oh (λs' hI=>?_) (λt v=>by rw[v]);obtain⟨j,rfl,w⟩:=hI;simp only[jn_eq,bifd];by_cases l:1+j<s.length;rw[oj om,Qfw l,sbind,Q37,sbind];have i:(s.drop 1)[j]?=some s[1+j]:=by rw[dr,ot l]
 by_cases e:j<((s.drop 1).takeWhile p).length;obtain⟨x,f,d⟩:=Qty e;rw[i] at f;cases f;left;refine⟨((1+(j+1):Nat):Int),?_,⟨j+1,rfl,om⟩,om⟩;have:goC k (s[1+j]).toNat=true:=by rw[a];exact d
 rw[this,bifT,w1 om];rfl;right;obtain rfl:j=((s.drop 1).takeWhile p).length:=om
 have d:=Qtz i;refine⟨_,?_,rfl⟩;have:goC k (s[1+((s.drop 1).takeWhile p).length]).toNat=false:=by rw[a];exact d
 rw[this,bifF];right;rw[oi om];refine⟨_,rfl,?_⟩;have:((s.drop 1).takeWhile p).length<=(s.drop 1).length:=Qoz _ _;rw[ua] at this;have:j=((s.drop 1).takeWhile p).length:=om
 rw[this]
theorem Qt0{α:Type}{p:α->Bool}:∀ {l:List α},(l.takeWhile p).length=l.length↔l.all p=true
 | []=>oc
 | x::l=>by
   rw[yf];cases a:p x with
   | true=>simp[a,Qt0]
   | false=>simp[a]
theorem Ql6{n:Nat}{w:Qg}(e:big<=n)(hs:w.Av.length<=4611686018427387904):Qd2 n w=some (wdB w.Aw w.Av):=by
 unfold Qd2;simp only[jn_eq,Qrr e hs,sbind,Qne,bifd];cases f:w.Av with
 | nil=>rfl
 | cons c r=>
   rw[oi oc];by_cases h0:w.Aw=0;rw[oj h0,bifT];simp[wdB,h0];rw[oi h0,show getS (c::r) (0:Int)=some c.toNat by rfl,sbind,Qjz e,sbind];by_cases hk:kindC c.toNat=w.Aw;simp only[oq hk,ow,bifF];have d:(firstL w.Aw (c::r):Int)=((c::r).length:Int)↔r.all (λb=>goC w.Aw b.toNat)=true:=by rw[<-Qt0];unfold firstL;simp only[uv,vv,oo];omega
   by_cases a:r.all (λb=>goC w.Aw b.toNat)=true;rw[oj (d.2 a)];simp only[wdB,a,hk];simp;congr 1;rw[dn];simp;omega;rw[oi (λh=>a (d.1 h))];have:r.all (λb=>goC w.Aw b.toNat)=false:=by simpa using a
   simp only[wdB,this,Bool.false_and,Bool.and_false];simp only[ol hk,xo,bifT];simp[wdB,hk]
theorem Q1f{a T Y P}(d:a<=4096):∀ {c:List Qu}{i:Nat}{done l:List Rat},QR 129 done->runQ a T Y P c i done=.inr l->l.length=done.length+c.length/\QR 129 l
 | [],i,done,l,hd,h=>by simp only[runQ] at h;cases h;exact⟨rfl,hd⟩
 | x::c,i,done,l,hd,h=>by
   simp only[runQ] at h;cases f:opQ x T Y P done with
   | none=>rw[f] at h;cases h
   | some q=>
     rw[f] at h;simp only[] at h;by_cases hf:(qz q:Int)<=a
     . rw[oj hf] at h
       obtain⟨j,m⟩:=Q1f d (λz e=>by
        rcases xk.1 e with e | e
        . exact hd z e
        . rw[xq.1 e]
          have:=qw_qz (q:=q) (b:=4096) om;omega) h
       exact⟨by rw[j];simp;omega,m⟩
     . rw[oi hf] at h;cases h
theorem Qvg{a T Y P}:∀ {c:List Qu}{i:Nat}{done:List Rat}{e},runQ a T Y P c i done=.inl e->e.1=3\/e.1=6
 | [],i,done,e,h=>by simp only[runQ] at h;cases h
 | x::c,i,done,e,h=>by
   simp only[runQ] at h;cases d:opQ x T Y P done with
   | none=>rw[d] at h;cases h;exact .inl rfl
   | some q=>
     rw[d] at h;simp only[] at h;by_cases hf:(qz q:Int)<=a
     . rw[oj hf] at h;exact Qvg h
     . rw[oi hf] at h;cases h;exact .inr rfl
def fieldQ(t:Qv)(a:Int)(T:Rat)(Y P:List Rat):(Int×Nat) ⊕ List Rat:=
 match runQ a T Y P t.Code 0 [] with
 | .inl e=>.inl e
 | .inr l=>.inr (t.Ar.map λo=>l.getD o.toNat 0)
structure Jc6(n k:Nat)(t:Qv):Prop where
 r:tapeR t
 h:Z4 n t=some true
 w:∀ c∈t.Code,Fk k c.N
theorem Q1g{n k:Nat}{t:Qv}{p:Xh}{bits:Int}(a:big<=n)(m:129<=k)(hk:k<1048576)(A:Jc6 n k t)(f:Fk k p.T)(j:FR k p.Y)(d:FR k p.P)(B:(p.Y.length:Int)=t.Dim)(x:(p.P.length:Int)=t.Par):
 Qjd n t p bits=some (match fieldQ t (min (max bits 0) 4096) (fv p.T) (rv p.Y) (rv p.P) with | .inl e=>([],⟨e.1,0,0,(e.2:Int)⟩) | .inr l=>(toR l,⟨0,0,0,0⟩)):=by
 obtain⟨r,h,w⟩:=A;have hd:=r.1;obtain⟨⟨F,G⟩,⟨H,I⟩,J,K⟩:=hd;have eT:=qw_fv f om;have eY:=QR_rv j om;have eP:=QR_rv d om;unfold Qjd Qk1 Qmb Qaz;rw[Vf a (Fk_Fw f om),sbind,Qpu a om j om,sbind,Qpu a om d om,sbind,sbind,sbind];simp only[];obtain⟨L,e⟩:=Je4 (g:=⟨⟨0,0⟩,min (max bits 0) 4096⟩) a m hk r h w eT eY eP (by rw[Xe];exact B) (by rw[Xe];exact x) (by simp only[];omega);rw[e,sbind];unfold fieldQ;simp only[];cases hr:runQ (min (max bits 0) 4096) (fv p.T) (rv p.Y) (rv p.P) t.Code 0 [] with
 | inl q=>
   have hk:=Qvg hr;simp only[];rw[sbind];simp only[];rw[Qci om,xo,bifT]
 | inr l=>
   obtain⟨C,E⟩:=Q1f om (λ_ h=>by cases h) hr;have M:l.length=t.Code.length:=by simpa using C
   simp only[];rw[sbind];simp only[];rw[Qbh,ow,bifF];unfold Qnh;simp only[jn_eq,h,sbind,ow,bifF];rw[Qah,oq (show(l.length:Int)=(t.Code.length:Int) by omega),ow,bifF,Q09 (g:=λo:Int=>l.getD o.toNat 0) a om λi o s v=>?_,sbind];have u:=r.2.2 o (Q3 v);rw[Qoy u.1 om,sbind,Vf a (Fk_Fw (Vg (Qnu E om)) om),sbind,Kg]
theorem Q2p{t:Qv}{a T Y P l}(d:a<=4096)(h:fieldQ t a T Y P=.inr l):l.length=t.Ar.length/\QR 129 l:=by
 unfold fieldQ at h;cases hr:runQ a T Y P t.Code 0 [] with
 | inl q=>rw[hr] at h;cases h
 | inr l'=>
   rw[hr] at h;cases h;obtain⟨i,f⟩:=Q1f d (λ_ h=>by cases h) hr;refine⟨oc,λq e=>?_⟩;obtain⟨o,_,rfl⟩:=xy.1 e;exact Qnu f om
theorem Q8x{t:Qv}{a T Y P e}(h:fieldQ t a T Y P=.inl e):e.1=3\/e.1=6:=by
 unfold fieldQ at h;cases hr:runQ a T Y P t.Code 0 [] with
 | inl q=>rw[hr] at h;cases h;exact Qvg hr
 | inr l'=>rw[hr] at h;cases h
def sumQ(l:List Rat):Rat:=l.foldl (λo x=>o+x) 0
theorem Qv3{k:Nat}:∀ {l:List Rat}{b:Nat}{z:Rat},QR k l->qw z<=b->qw (l.foldl (λo x=>o+x) z)<=b+l.length*(k+1)
 | [],b,z,_,h=>by simpa using h
 | x::l,b,z,a,h=>by rw[wx];have:=Qv3 (l:=l) (λq d=>a q (.tail _ d)) (Qow h (a x (.head _)));rw[oo,wa];omega
theorem Qp0{n k:Nat}{a:List Qa}(f:big<=n)(q:1<=k)(hk:k<1048576)(e:FR k a)(v:a.length<=1000):Qbb n a=some (toF (sumQ (rv a))):=by
 unfold Qbb;rw[Z0 f,sbind,Y5 (λi=>toF ((rv (a.take i)).foldl (λo x=>o+x) 0)) a,K7,yn];rfl;intro i x d;have hi:=Jg d;have j:a.take (i+1)=a.take i++[x]:=by rw[gc,d];rfl
 have m:rv (a.take (i+1))=rv (a.take i)++[fv x]:=by unfold rv;rw[j,xu];rfl
 have s:=Qv3 (l:=rv (a.take i)) (b:=1) (z:=0) (QR_rv (λy r=>e y (xt r)) q) (by rw[Qir];exact ou _);have u:(rv (a.take i)).length*(k+1)<=1000*1048576:=vn (by rw[Xe];simp;omega) om;rw[Qde (k:=2000000000) f om om (Vg om) (Wk (e x (Q3 d)) om),sbind,m,ge,Kg];rfl;rfl
def numR(x:Qa):Prop:=x=toF (fv x)/\qz (fv x)<=190
theorem Q9p{n k:Nat}{x:Qa}(j:big<=n)(hk:k<1048576)(a:Fk k x):
 ((Wb n x).bind λd=>bif !d then some true else (Wg n x).bind λf=>some (decide ((190:Int)<f)))=some (!dP (numR x)):=by
 rw[Qpr j (Fk_Fw a om),sbind,@decP _ (Classical.propDecidable _),bifnP];unfold numR;by_cases h:x=toF (fv x)
 . have l:qw (fv x)<1099511627776:=by
    rcases Nat.eq_zero_or_pos k with h0 | h0
    . subst h0
      have:=qw_fv (Wk a (show 0<=1 by omega)) (ou 1);omega
    . have:=qw_fv a h0;omega
   have e:Wg n x=some (qz (fv x):Int):=by
    conv=>lhs;rw[h]
    exact Qps j l
   rw[oj h,e,sbind];by_cases i:qz (fv x)<=190
   . rw[dP_t ⟨h,i⟩,ol om];rfl
   . rw[dP_f λg=>i g.2,oq om];rfl
 . rw[oi h,dP_f λg=>h g.1];rfl
theorem Qlq{n k:Nat}{l:List (List Qa)}(v:big<=n)(hk:k<1048576)(u:∀ r∈l,FR k r):Qar n l=some (dP (∀ r∈l,∀ x∈r,numR x)):=by
 unfold Qar;rw[Qdw (λ_ (r:List Qa)=>∀ x∈r,numR x) (r:=false)];rw[Qox];by_cases h:∀ r∈l,∀ x∈r,numR x;rw[oj h,dP_t h];rw[oi h,dP_f h];intro i r hr
 have key:(rangeL (λ(_:Nat) (q:Qa) (_:Unit)=>
  jn (λ(a:(Bool)->Option _)=>
   (Wb n q).bind λd=>
   bif !d then (
    a true)
   else (
    (Wg n q).bind λf=>
    a (decide ((190:Int)<f)))) (λ(m:Bool)=>
   bif m then (
    some (Lp.out (Lp.out (false))))
   else (
    some (Lp.go ())))) r 0 ()).bind (lpK λ(_:Unit)=>some (Lp.go ()))=@ite _ (∀ x∈r,numR x) (Classical.propDecidable _) (some (Lp.go ())) (some (Lp.out (σ:=Unit) (τ:=Bool) false)):=by
  rw[Qdw (λ_ (x:Qa)=>numR x) (r:=Lp.out false),Qox];intro j x w;have e:=Q9p v hk (u r (Q3 hr) x (Q3 w))
  have s:(jn (λ(a:(Bool)->Option (Lp Unit (Lp Unit Bool)))=>
   (Wb n x).bind λd=>
   bif !d then (
    a true)
   else (
    (Wg n x).bind λf=>
    a (decide ((190:Int)<f)))) (λ(m:Bool)=>
   bif m then (
    some (Lp.out (Lp.out (false))))
   else (
    some (Lp.go ()))))=((Wb n x).bind λd=>bif !d then some true else (Wg n x).bind λf=>some (decide ((190:Int)<f))).bind λm=>bif m then (
    some (Lp.out (Lp.out (false))))
   else (
    some (Lp.go ())):=by
   rw[jn_eq];cases Wb n x with
   | none=>rfl
   | some b=>
     rw[sbind,sbind];cases b;rfl;rw[ow,bifF,bifF];cases Wg n x with
     | none=>rfl
     | some z=>rfl
  rw[s,e,sbind];constructor;intro h;rw[dP_t h];rfl;intro h;rw[dP_f h];rfl
 rw[key];constructor;intro h;rw[oj h];intro h;rw[oi h]
def shapeR(s:Ql):Prop:=(1<=s.B.length/\s.B.length<=8)/\s.C.length=s.B.length/\s.A.length=s.B.length/\(s.E.length=s.B.length\/s.E.length=0)/\∀(i:Nat) r,s.A[i]?=some r->r.length=i
theorem Qwi(s:Ql):Qev s=some (dP (shapeR s)):=by
 unfold Qev shapeR;simp only[jn_eq,bifd,bifnd];by_cases c1:(s.B.length:Int)<1
 . rw[oj c1,bifT,dP_f om]
 rw[oi c1];by_cases c2:(8:Int)<(s.B.length:Int)
 . rw[oj c2,bifT,dP_f om]
 rw[oi c2];by_cases c3:(s.C.length:Int)=(s.B.length:Int)
 case neg=>rw[oi c3,bifT,dP_f om]
 rw[oj c3];by_cases c4:(s.A.length:Int)=(s.B.length:Int)
 case neg=>rw[oi c4,bifT,dP_f om]
 rw[oj c4]
 have hr:=Qdw (f:=λ(a:Nat) (d:List Qa) (_:Unit)=>bif !decide ((d.length:Int)=(a:Int)) then some (Lp.out false) else some (Lp.go ())) (K:=λ_=>some true) (r:=false) (λi (r:List Qa)=>r.length=i) s.A (λi x m=>by
  constructor
  . intro h;rw[oq om];rfl
  . intro h;rw[ol om];rfl)
 have e:(rangeL (λ(a:Nat) (d:List Qa) (_:Unit)=>if (d.length:Int)=(a:Int) then some (Lp.go ()) else some (Lp.out false)) s.A 0 ()).bind (lpK λ_=>some true)=(rangeL (λ(a:Nat) (d:List Qa) (_:Unit)=>bif !decide ((d.length:Int)=(a:Int)) then some (Lp.out false) else some (Lp.go ())) s.A 0 ()).bind (lpK λ_=>some true):=by simp only[bifnd]
 have fin:(s.E.length=s.B.length\/s.E.length=0)->(rangeL (λ(a:Nat) (d:List Qa) (_:Unit)=>if (d.length:Int)=(a:Int) then some (Lp.go ()) else some (Lp.out false)) s.A 0 ()).bind (lpK λ_=>some true)=some (dP ((1<=s.B.length/\s.B.length<=8)/\s.C.length=s.B.length/\s.A.length=s.B.length/\(s.E.length=s.B.length\/s.E.length=0)/\∀(i:Nat) r,s.A[i]?=some r->r.length=i)):=by
  intro l;rw[e,hr];by_cases h:∀(i:Nat) r,s.A[i]?=some r->r.length=i
  . rw[oj h,dP_t ⟨om,om,om,l,h⟩]
  . rw[oi h,dP_f λg=>h g.2.2.2.2]
 by_cases c5:(s.E.length:Int)=(s.B.length:Int)
 . rw[oj c5,bifF];exact fin (.inl om)
 . rw[oi c5]
   by_cases j:(s.E.length:Int)=0
   . rw[oj j];exact fin (.inr om)
   . rw[oi j,dP_f om]
structure SchW(k:Nat)(s:Ql):Prop where
 a:∀ r∈s.A,FR k r
 b:FR k s.B
 c:FR k s.C
 e:FR k s.E
 n:s.As.length<=4611686018427387904
def rowsR(s:Ql):Prop:=∀(i:Nat) r,s.A[i]?=some r->sumQ (rv r)=fv (s.C.getD i ⟨⟨false,[]⟩,[]⟩)
theorem Qxm{n k:Nat}{s:Ql}(m:big<=n)(f:1<=k)(hk:k<1048576)(hs:SchW k s)(e:shapeR s):Qf8 n s=some (dP (rowsR s)):=by
 unfold Qf8;obtain⟨⟨g1,w⟩,g3,g4,x,q⟩:=e;rw[Qdw (λi (r:List Qa)=>sumQ (rv r)=fv (s.C.getD i ⟨⟨false,[]⟩,[]⟩)) (r:=false)];unfold rowsR;by_cases h:∀(i:Nat) r,s.A[i]?=some r->sumQ (rv r)=fv (s.C.getD i ⟨⟨false,[]⟩,[]⟩);rw[oj h,dP_t h];rw[oi h,dP_f h];intro i r hr;have hi:=Jg hr;have j:s.C[i]?=some (s.C.getD i ⟨⟨false,[]⟩,[]⟩):=by rw[yz,ot (show i<s.C.length by omega)];rfl
 have a:=hs.a r (Q3 hr);have v:=q i r hr;have d:=hs.c _ (Q3 j);have A:=Qv3 (l:=rv r) (b:=1) (z:=0) (QR_rv a f) (by rw[Qir];exact ou _);have u:(rv r).length*(k+1)<=8*1048576:=vn (by rw[Xe];omega) om;rw[Qp0 m f hk a om,sbind,Wc j,sbind,Qfh (k:=10000000) m om om (Vg (by unfold sumQ;omega)) (Wk d om),sbind,Kg];constructor;intro h;rw[oq h];rfl;intro h;rw[ol h];rfl
def schR(s:Ql):Prop:=wdB 2 s.As=true/\shapeR s/\((∀ r∈s.A,∀ x∈r,numR x)/\∀ r∈[s.B,s.C,s.E],∀ x∈r,numR x)/\rowsR s/\sumQ (rv s.B)=1/\(s.E≠[]->sumQ (rv s.E)=1)
theorem Q2q{n k:Nat}{a:List Qa}(j:big<=n)(e:1<=k)(hk:k<1048576)(i:FR k a)(s:a.length<=8){β:Type}(f:Bool->Option β):
 ((Qbb n a).bind λd=>(Xm n d (toF 1)).bind f)=f (decide (sumQ (rv a)=1)):=by
 have r:=Qv3 (l:=rv a) (b:=1) (z:=0) (QR_rv i e) (by rw[Qir];exact ou _);have m:(rv a).length*(k+1)<=8*1048576:=vn (by rw[Xe];omega) om;have q:qw 1<=10000000:=by unfold qw;rw[show(1:Rat).num=1 from rfl,show(1:Rat).den=1 from rfl,show(1:Int).natAbs=1 from rfl,toL1];omega
 rw[Qp0 j e hk i om,sbind,Qfh (k:=10000000) j om om (Vg (by unfold sumQ;omega)) (Vg q),sbind,Kg,Kg]
theorem Qng{n k:Nat}{s:Ql}(e:big<=n)(u:1<=k)(hk:k<1048576)(hs:SchW k s):∃ v,Qcl n s=some v/\(v=0↔schR s):=by
 unfold Qcl;rw[Qnd e,sbind,Ql6 (w:=⟨2,s.As,0⟩) e hs.n,sbind];simp only[];unfold schR;cases G:wdB 2 s.As
 . exact⟨1,rfl,oc⟩
 rw[ow,bifF,Qwi,sbind,bifnP];by_cases a:shapeR s
 case neg=>rw[oi a];exact⟨2,rfl,λh=>om,λh=>absurd h.2.1 a⟩
 rw[oj a];have B:=a;obtain⟨⟨g1,C⟩,g3,g4,E,F⟩:=B;simp only[jn_eq];rw[Qlq e hk hs.a,sbind,bifnP]
 have A:∀ r∈[s.B,s.C,s.E],FR k r:=λr hr=>by
  rcases xc.1 hr with rfl | hr
  . exact hs.b
  rcases xc.1 hr with rfl | hr
  . exact hs.c
  rcases xc.1 hr with rfl | hr
  . exact hs.e
  cases hr
 by_cases i:∀ r∈s.A,∀ x∈r,numR x
 case neg=>rw[oi i,bifT];exact⟨3,rfl,λh=>om,λh=>absurd h.2.2.1.1 i⟩
 rw[oj i,Qlq e hk A,sbind,bifnP];by_cases j:∀ r∈[s.B,s.C,s.E],∀ x∈r,numR x
 case neg=>rw[oi j];exact⟨3,rfl,λh=>om,λh=>absurd h.2.2.1.2 j⟩
 rw[oj j,Qxm e u hk hs a,sbind,bifnP];by_cases l:rowsR s
 case neg=>rw[oi l];exact⟨4,rfl,λh=>om,λh=>absurd h.2.2.2.1 l⟩
 rw[oj l,Q2q e u hk hs.b om,bifnd];by_cases f:sumQ (rv s.B)=1
 case neg=>rw[oi f];exact⟨5,rfl,λh=>om,λh=>absurd h.2.2.2.2.1 f⟩
 rw[oj f,bifd];by_cases q:(0:Int)<(s.E.length:Int)
 . have d:s.E≠[]:=λh=>by rw[h] at q;simp at q
   rw[oj q,Q2q e u hk hs.e om,bifnd];by_cases m:sumQ (rv s.E)=1
   . rw[oj m];exact⟨0,rfl,λ_=>⟨by trivial,a,⟨i,j⟩,l,f,λ_=>m⟩,λ_=>rfl⟩
   . rw[oi m];exact⟨6,rfl,λh=>om,λh=>absurd (h.2.2.2.2.2 d) m⟩
 . have d:s.E=[]:=xg om
   rw[oi q,bifF];exact⟨0,rfl,λ_=>⟨by trivial,a,⟨i,j⟩,l,f,λh=>absurd d h⟩,λ_=>rfl⟩
theorem Qi0{n k:Nat}{s:Ql}(f:big<=n)(e:1<=k)(hk:k<1048576)(hs:SchW k s):Qas n s=some (dP (schR s)):=by obtain⟨v,a,d⟩:=Qng f e hk hs;unfold Qas;rw[a,sbind];exact Qec d
def gapQ(s:Ql):List Rat:=if s.E=[] then [] else addQ (rv s.B) (scaleQ (-1) (rv s.E))
theorem Qzi{n k:Nat}{s:Ql}(d:big<=n)(e:1<=k)(hk:k<1048576)(hs:SchW k s)(hr:schR s):Qez n s=some (toR (gapQ s)):=by
 unfold Qez gapQ;simp only[jn_eq];rw[Qi0 d e hk hs,sbind,dP_t hr,ow,bifF];obtain⟨⟨g1,j⟩,g3,g4,l,m⟩:=hr.2.1;by_cases a:s.E=[]
 rw[oj a,a];rfl;have q:s.E.length≠0:=λh=>a (xg h);have i:qw (((-1:Int):Int):Rat)<=1:=by unfold qw;rw[Rat.num_intCast,Rat.den_intCast,show(-1:Int).natAbs=1 from rfl,toL1];omega
 have f:(((-1:Int):Int):Rat)=-1:=rfl;rw[oi a,ol om,bifF];unfold Qpl;rw[Qln d oy oy,sbind,Ql3 (k:=k+1) d om om (Vg om) (Qbm hs.e om) om,sbind,Kg];rw[Qve (k:=k+1) d om om (Qbm hs.b om) (Qgp (Za (Qxf i (QR_rv hs.e e)) om)) om,sbind,Qah,Qsv,Xe,oj om,sbind,Qm0,f]
theorem Jj3{k:Nat}{s:Ql}(a:1<=k)(hs:SchW k s):QR (2*k+2) (gapQ s):=by
 unfold gapQ;split;intro x d;cases d;have e:qw (-1:Rat)<=1:=by unfold qw;rw[show(-1:Rat).num=-1 from rfl,show(-1:Rat).den=1 from rfl,show(-1:Int).natAbs=1 from rfl,toL1];omega
 exact Za (Jcy (QR_rv hs.b a) (Qxf e (QR_rv hs.e a))) om
theorem Q9q{a:Int}:∀ {l:List Rat}{i j:Nat},fitQ a l i=some j->j<i+l.length
 | [],i,j,h=>by simp[fitQ] at h
 | q::l,i,j,h=>by simp only[fitQ] at h;split at h;have:=Q9q h;simp;omega;cases h;simp
structure MadeQ where
 ys:List (List Rat)
 ks:List (List Rat)
 next:List Rat
 err:List Rat
def towQ(H:Rat)(m:Nat)(c:List Rat)(kss:List (List Rat)):List Rat:=scaleQ H (mixQ c kss (List.replicate m 0))
def fromQ(H:Rat)(Y c:List Rat)(kss:List (List Rat)):List Rat:=addQ Y (towQ H Y.length c kss)
def stageQ(t:Qv)(d:Int)(T H:Rat)(Y P:List Rat)(a:List Rat)(c:Rat)(i:Nat)(kss:List (List Rat)):Qc ⊕ (List Rat×List Rat):=
 match fitQ d (fromQ H Y a kss) 0 with
 | some j=>.inl ⟨6,0,(i:Int),300+(j:Int)⟩
 | none=>match fieldQ t d (T+H*c) (fromQ H Y a kss) P with
   | .inl e=>.inl ⟨e.1,0,(i:Int),(e.2:Int)⟩
   | .inr k=>.inr (fromQ H Y a kss,k)
def stagesQ(t:Qv)(d:Int)(T H:Rat)(Y P:List Rat):List (List Rat×Rat)->Nat->List (List Rat)->List (List Rat)->Qc ⊕ (List (List Rat)×List (List Rat))
 | [],_,a,kss=>.inr (a,kss)
 | x::r,i,a,kss=>match stageQ t d T H Y P x.1 x.2 i kss with
   | .inl f=>.inl f
   | .inr z=>stagesQ t d T H Y P r (i+1) (a++[z.1]) (kss++[z.2])
def endQ(s:Ql)(a:Int)(H:Rat)(Y:List Rat)(d kss:List (List Rat)):Qc ⊕ MadeQ:=
 match fitQ a (fromQ H Y (rv s.B) kss) 0 with
 | some j=>.inl ⟨6,0,(s.B.length:Int),300+(j:Int)⟩
 | none=>match fitQ a (if gapQ s=[] then [] else towQ H Y.length (gapQ s) kss) 0 with
   | some j=>.inl ⟨6,0,(s.B.length:Int)+1,300+(j:Int)⟩
   | none=>.inr ⟨d,kss,fromQ H Y (rv s.B) kss,if gapQ s=[] then [] else towQ H Y.length (gapQ s) kss⟩
def doQ(t:Qv)(s:Ql)(a:Int)(T H:Rat)(Y P:List Rat):Qc ⊕ MadeQ:=
 match stagesQ t a T H Y P (List.zip (s.A.map rv) (rv s.C)) 0 [] [] with
 | .inl f=>.inl f
 | .inr z=>endQ s a H Y z.1 z.2
def toRR(l:List (List Rat)):List (List Qa):=l.map toR
theorem Qo0(l:List (List Rat)):(toRR l).length=l.length:=by unfold toRR;simp
theorem Jg5(l:List (List Rat)):(toRR l).map rv=l:=by
 unfold toRR;rw[wi]
 conv=>rhs;rw[<-List.map_id l]
 exact gv λq _=>Qm0 q
theorem Q6x{l:List (List Rat)}{P:List Qa->Prop}(h:∀ a∈l,P (toR a)):∀ a∈toRR l,P a:=λa d=>by obtain⟨q,e,rfl⟩:=xy.1 d;exact h q e
theorem Jc7(m:Nat):QR 1 (List.replicate m 0):=λq a=>by rw[(List.mem_replicate.1 a).2,Qir];exact ou _
theorem Q1h{k m:Nat}{H:Rat}{c:List Rat}{kss:List (List Rat)}(e:qw H<=k)(f:QR k c)(hk:∀ a∈kss,QR 129 a)(i:kss.length<=8)(h0:129<=k):QR (20*k) (towQ H m c kss):=by have d:=Qy7 (z:=List.replicate m 0) f hk (Jc7 m);have j:kss.length*(k+129+1)<=8*(k+129+1):=yh _ i;exact Za (Qxf e d) om
theorem Q6y{k:Nat}{H:Rat}{Y c:List Rat}{kss:List (List Rat)}(e:QR k Y)(d:qw H<=k)(f:QR k c)(hk:∀ a∈kss,QR 129 a)(i:kss.length<=8)(h0:129<=k):QR (22*k) (fromQ H Y c kss):=
 Za (Jcy e (Q1h d f hk i h0)) om
theorem Q1i{m:Nat}{H:Rat}{c:List Rat}{kss:List (List Rat)}(hk:∀ a∈kss,a.length=m):(towQ H m c kss).length=m:=by unfold towQ;rw[Qsv];exact Qsw hk oc
theorem Qsz{H:Rat}{Y c:List Rat}{kss:List (List Rat)}(hk:∀ a∈kss,a.length=Y.length):(fromQ H Y c kss).length=Y.length:=by unfold fromQ;rw[Q6m,Q1i hk,Nat.min_self]
section
variable {n k:Nat}{p:Qq}{t h:Qa}{y:List Qa}{g:Qk}{ys ks:List (List Qa)}{nx er:List Qa}
theorem Qwx{c:List Qa}{kss:List (List Rat)}(q:big<=n)(h0:129<=k)(hk:k<16384)(r:Fk k h)(m:FR k c)(e:∀ a∈kss,QR 129 a)(s:kss.length<=8)(i:c.length=kss.length)(d:∀ a∈kss,a.length=y.length)(w:y.length<=6):
 Vz n p t h y g ys (toRR kss) nx er c=some (toR (towQ (fv h) y.length (rv c) kss)):=by
 unfold Vz;rw[Qxg,Q6p (j:=k) (k:=129) q om om om om m (Q6x λa f=>Qgp (e a f)) om (by rw[Qo0];omega),sbind,oj ⟨by rw[Qo0,i],Q6x λa f=>by rw[Qah];exact d a f⟩];rw[Jg5];have u:=Qy7 (z:=List.replicate y.length 0) (QR_rv m om) e (Jc7 y.length);have v:kss.length*(k+129+1)<=8*(k+129+1):=yh _ s;have l:=Qsw (cs:=rv c) d (show(List.replicate y.length (0:Rat)).length=y.length by simp);rw[Ql3 (k:=20*k) q om om (Wk r om) (Qgp (Za u om)) (by rw[Qah,l];omega),sbind,Qm0];rfl
theorem Q2r{c:List Qa}{kss:List (List Rat)}(s:big<=n)(h0:129<=k)(hk:k<16384)(q:Fk k h)(j:FR k y)(l:FR k c)(e:∀ a∈kss,QR 129 a)(r:kss.length<=8)(f:c.length=kss.length)(d:∀ a∈kss,a.length=y.length)(v:y.length<=6):
 Xv n p t h y g ys (toRR kss) nx er c=some (toR (fromQ (fv h) (rv y) (rv c) kss)):=by
 unfold Xv;have u:=Q1h (m:=y.length) (qw_fv q om) (QR_rv l om) e r h0;have i:=Q1i (H:=fv h) (c:=rv c) d;rw[Qwx s h0 hk q l e r f d v,sbind,Qve (k:=20*k) s om om (Qbm j om) (Qgp u) om,sbind,Qah,i,oj rfl,Qm0];unfold fromQ;rw[Xe]
theorem Qvh{l:List Rat}{x2:Int}(m:big<=n)(f:QR 1099511627775 l)(i:l.length<=1000):
 ∃ a,a.limit=g.limit/\We n p t h y g ys ks nx er (toR l) x2=some (match fitQ g.limit l 0 with | none=>(⟨0,0,0,0⟩,a) | some j=>(⟨6,0,x2,300+(j:Int)⟩,a)):=by
 obtain⟨a,d,e⟩:=Je2 (g:=g) m f;refine⟨a,d,?_⟩;unfold We;rw[e,sbind];cases hf:fitQ g.limit l 0 with
 | none=>rfl
 | some j=>
   have:=Q9q hf;simp only[xo,bifT];rw[w64 om om]
structure PrbOK(n k:Nat)(p:Qq)(t h:Qa)(y:List Qa):Prop where
 tp:Jc6 n k p.Tape
 sw:SchW k p.Ao
 sr:schR p.Ao
 pk:FR k p.P
 pl:(p.P.length:Int)=p.Tape.Par
 tk:Fk k t
 hk:Fk k h
 yk:FR k y
 yl:(y.length:Int)=p.Tape.Dim
def limQ(bits:Int):Int:=min (max bits 0) 4096
theorem Q8y{i:Nat}{c:Qa}(j:big<=n)(h0:129<=k)(hk:k<16384)(l:Fk k t)(e:Fk k h)(a:Fk k c)(d:p.Ao.C[i]?=some c):Qc8 n p t h (i:Int)=some (toF (fv t+fv h*fv c)):=by have hi:=Jg d;have f:=Qff (qw_fv e om) (qw_fv a om);unfold Qc8;simp only[jn_eq];rw[ol (show ¬(i:Int)<0 by omega),bifF,ol (show ¬(p.Ao.C.length:Int)<=(i:Int) by omega),bifF,Wc d,sbind,Qbt j om om e a,sbind,Qde (k:=4*k) j om om (Wk l om) (Vg om),sbind,Kg]
theorem Jbd{i:Nat}{a:List Qa}{c:Qa}{kss:List (List Rat)}(C:big<=n)(h0:129<=k)(hk:k<16384)(ok:PrbOK n k p t h y)(P:g.limit=limQ p.Az)
 (B:p.Ao.A[i]?=some a) (I:p.Ao.C[i]?=some c) (T:ys.length<=8) (u:∀ a∈kss,QR 129 a) (R:kss.length=i) (s:∀ a∈kss,a.length=y.length) :
 ∃ A,A.limit=g.limit/\∃ r,Xi n p t h y g ys (toRR kss) nx er (i:Int)=some r /\
   match stageQ p.Tape (limQ p.Az) (fv t) (fv h) (rv y) (rv p.P) (rv a) (fv c) i kss with
   | .inl f=>r.1=f/\f.Aw≠0
   | .inr z=>r=(⟨0,0,0,0⟩,p,t,h,y,nx,er,A,ys++[toR z.1],toRR (kss++[z.2]))/\QR 129 z.2/\z.2.length=y.length:=by
 obtain⟨⟨V,W⟩,⟨X,Z⟩,d5,d6⟩:=ok.tp.r.1;obtain⟨⟨g1,g2⟩,g3,g4,g5,M⟩:=ok.sr.2.1;have hi:=Jg B;have E:=ok.yl;have d:=ok.sw.a a (Q3 B);have m:=ok.sw.c c (Q3 I);have O:=M i a B;have G:=Q6y (QR_rv ok.yk om) (qw_fv ok.hk om) (QR_rv d om) u om h0;have q:=Qsz (H:=fv h) (Y:=rv y) (c:=rv a) (kss:=kss) (by rw[Xe];exact s);rw[Xe] at q;unfold Xi;rw[Wc B,sbind,Q2r C h0 hk ok.hk ok.yk d u om om s om,sbind];obtain⟨A,K,L⟩:=Qvh (p:=p) (t:=t) (h:=h) (y:=y) (g:=g) (ys:=ys) (ks:=toRR kss) (nx:=nx) (er:=er) (x2:=(i:Int)) C (Za G (show 22*k<=1099511627775 by omega)) om;refine⟨A,K,?_⟩;rw[L,sbind,P];unfold stageQ;cases hf:fitQ (limQ p.Az) (fromQ (fv h) (rv y) (rv a) kss) 0 with
 | some j=>
   simp only[];rw[Qci oy,xo,bifT];exact⟨_,rfl,rfl,oy⟩
 | none=>
   simp only[];rw[Qbh,ow,bifF];unfold Qpk;have w:=Qff (qw_fv ok.hk om) (qw_fv m om);have F:=Qow (qw_fv ok.tk om) w;rw[Q8y C h0 hk ok.tk ok.hk m I,sbind,sbind];have N:=Q1g (k:=22*k) (t:=p.Tape) (p:=⟨toF (fv t+fv h*fv c),toR (fromQ (fv h) (rv y) (rv a) kss),p.P⟩) (bits:=p.Az) C om om ⟨ok.tp.r,ok.tp.h,λx S=>Wk (ok.tp.w x S) om⟩ (Vg om) (Qgp G) (Qbm ok.pk om) (by simp only[Qah,q];exact E) ok.pl;rw[N,sbind];simp only[];rw[Kg,Qm0];have v:limQ p.Az=min (max p.Az 0) 4096:=rfl;rw[v];cases J:fieldQ p.Tape (min (max p.Az 0) 4096) (fv t+fv h*fv c) (fromQ (fv h) (rv y) (rv a) kss) (rv p.P) with
   | inl e=>
     have Q:=Q8x J;simp only[];rw[Qci om,xo,bifT];exact⟨_,rfl,rfl,by show e.1≠0;omega⟩
   | inr l=>
     obtain⟨q1,U⟩:=Q2p om J;simp only[];rw[Qbh,ow,bifF,Jk oh oh,sbind,Jk (by rw[Qo0];simp;omega) (by rw[Qo0];simp;omega),sbind];refine⟨_,rfl,?_,U,om⟩;unfold toRR;rw[xu];rfl
end
section
variable {n k:Nat}{p:Qq}{t h:Qa}{y:List Qa}
def pairQ(s:Ql):List (List Rat×Rat):=List.zip (s.A.map rv) (rv s.C)
theorem Jc8{s:Ql}{i:Nat}{a:List Qa}{c:Qa}(e:s.A[i]?=some a)(f:s.C[i]?=some c):(pairQ s).drop i=(rv a,fv c)::(pairQ s).drop (i+1):=by
 have d:(pairQ s)[i]?=some (rv a,fv c):=by unfold pairQ rv;rw[List.getElem?_zip_eq_some];simp only[uo];exact⟨by rw[e];rfl,by rw[f];rfl⟩
 have hi:=Jg d;rw[xi hi];congr 1;rw[ot hi] at d;exact Option.some.inj d
theorem Jfc{g:Qk}(I:big<=n)(h0:129<=k)(hk:k<8000)(ok:PrbOK n k p t h y)(P:g.limit=limQ p.Az):
 ∃ r,Qam n p t h y g [] [] [] []=some r /\
   match doQ p.Tape p.Ao (limQ p.Az) (fv t) (fv h) (rv y) (rv p.P) with
   | .inl f=>r.1=f/\f.Aw≠0
   | .inr z=>∃ A,r=(⟨0,0,0,0⟩,p,t,h,y,toR z.next,toR z.err,A,toRR z.ys,toRR z.ks)/\z.ys.length=p.Ao.B.length/\z.ks.length=p.Ao.B.length:=by
 obtain⟨⟨d1,d2⟩,⟨d3,d4⟩,d5,d6⟩:=ok.tp.r.1;obtain⟨⟨g1,g2⟩,g3,g4,L,g6⟩:=ok.sr.2.1;have hyl:=ok.yl;unfold Qam
 have key:∀(bs:List Qa) (i:Nat) (g:Qk) (m kss:List (List Rat)) (K:(Qq×Qa×Qa×(List Qa)×Qk×(List (List Qa))×(List (List Qa))×(List Qa)×(List Qa))->Option (Qc×Qq×Qa×Qa×(List Qa)×(List Qa)×(List Qa)×Qk×(List (List Qa))×(List (List Qa)))),
  i+bs.length=p.Ao.B.length->m.length=i->kss.length=i->(∀ a∈kss,QR 129 a)->(∀ a∈kss,a.length=y.length)->g.limit=limQ p.Az ->
  match stagesQ p.Tape (limQ p.Az) (fv t) (fv h) (rv y) (rv p.P) ((pairQ p.Ao).drop i) i m kss with
  | .inl f=>∃ r,(rangeL (λ(B:Nat) (_:Qa) (l:Qq×Qa×Qa×(List Qa)×Qk×(List (List Qa))×(List (List Qa))×(List Qa)×(List Qa))=>
  (Xi n l.1 l.2.1 l.2.2.1 l.2.2.2.1 l.2.2.2.2.1 l.2.2.2.2.2.1 l.2.2.2.2.2.2.1 l.2.2.2.2.2.2.2.1 l.2.2.2.2.2.2.2.2 (B:Int)).bind λe=>
  bif !(Qr e.1 (⟨0,0,0,0⟩:Qc)) then (
   some (Lp.out ((e.1,e.2.1,e.2.2.1,e.2.2.2.1,e.2.2.2.2.1,e.2.2.2.2.2.1,e.2.2.2.2.2.2.1,e.2.2.2.2.2.2.2.1,e.2.2.2.2.2.2.2.2.1,e.2.2.2.2.2.2.2.2.2))))
  else (
   some (Lp.go (e.2.1,e.2.2.1,e.2.2.2.1,e.2.2.2.2.1,e.2.2.2.2.2.2.2.1,e.2.2.2.2.2.2.2.2.1,e.2.2.2.2.2.2.2.2.2,e.2.2.2.2.2.1,e.2.2.2.2.2.2.1)))) bs i (p,t,h,y,g,toRR m,toRR kss,[],[])).bind (lpK K)=some r/\r.1=f/\f.Aw≠0
   | .inr z=>∃ A,A.limit=limQ p.Az/\(rangeL (λ(B:Nat) (_:Qa) (l:Qq×Qa×Qa×(List Qa)×Qk×(List (List Qa))×(List (List Qa))×(List Qa)×(List Qa))=>
  (Xi n l.1 l.2.1 l.2.2.1 l.2.2.2.1 l.2.2.2.2.1 l.2.2.2.2.2.1 l.2.2.2.2.2.2.1 l.2.2.2.2.2.2.2.1 l.2.2.2.2.2.2.2.2 (B:Int)).bind λe=>
  bif !(Qr e.1 (⟨0,0,0,0⟩:Qc)) then (
   some (Lp.out ((e.1,e.2.1,e.2.2.1,e.2.2.2.1,e.2.2.2.2.1,e.2.2.2.2.2.1,e.2.2.2.2.2.2.1,e.2.2.2.2.2.2.2.1,e.2.2.2.2.2.2.2.2.1,e.2.2.2.2.2.2.2.2.2))))
  else (
   some (Lp.go (e.2.1,e.2.2.1,e.2.2.2.1,e.2.2.2.2.1,e.2.2.2.2.2.2.2.1,e.2.2.2.2.2.2.2.2.1,e.2.2.2.2.2.2.2.2.2,e.2.2.2.2.2.1,e.2.2.2.2.2.2.1)))) bs i (p,t,h,y,g,toRR m,toRR kss,[],[])).bind (lpK K)=K (p,t,h,y,A,toRR z.1,toRR z.2,[],[])/\z.1.length=p.Ao.B.length/\z.2.length=p.Ao.B.length/\(∀ a∈z.2,QR 129 a)/\∀ a∈z.2,a.length=y.length:=by
  intro bs
  induction bs with
  | nil=>
    intro i g m kss K hi hy1 R hq Z P;have v:(pairQ p.Ao).drop i=[]:=by apply gn;unfold pairQ;simp only[xz,xp] at hi;rw[List.length_zip,Xe,xa];omega
    rw[v];simp only[stagesQ];simp only[xz,xp] at hi;exact⟨g,P,rfl,om,om,hq,Z⟩
  | cons b bs ih=>
    intro i g m kss K hi hy1 R hq Z P;rw[oo] at hi;have q:p.Ao.A[i]?=some (p.Ao.A[i]' om):=ot om;have hc:p.Ao.C[i]?=some (p.Ao.C[i]' om):=ot om;rw[Jc8 q hc];generalize p.Ao.A[i]' om=a at q;generalize p.Ao.C[i]' om=c at hc;simp only[stagesQ,rangeL];obtain⟨A,e1,r,e2,J⟩:=Jbd (g:=g) (ys:=toRR m) (nx:=[]) (er:=[]) I h0 om ok P q hc (by rw[Qo0];omega) hq R Z;rw[e2,sbind];cases hs:stageQ p.Tape (limQ p.Az) (fv t) (fv h) (rv y) (rv p.P) (rv a) (fv c) i kss with
    | inl f=>
      rw[hs] at J;obtain⟨F,X⟩:=J;obtain⟨⟨f1,f2,f3,f4⟩,r⟩:=r;simp only[] at F;subst F;simp only[];rw[Qci X,xo,bifT,sbind];exact⟨_,rfl,rfl,X⟩
    | inr z=>
      rw[hs] at J;obtain⟨F,X,e6⟩:=J;subst F;simp only[];rw[Qbh,ow,bifF,sbind]
      have:=ih (i+1) A (m++[z.1]) (kss++[z.2]) K om oh oh (λa q=>by
       rcases xk.1 q with q | q
       . exact hq a q
       . rw[xq.1 q];exact X) (λa q=>by
       rcases xk.1 q with q | q
       . exact Z a q
       . rw[xq.1 q];exact e6) om
      have e7:toRR m++[toR z.1]=toRR (m++[z.1]):=by unfold toRR;rw[xu];rfl
      rw[e7];exact this
 generalize hK:(λ(d:Qq×Qa×Qa×(List Qa)×Qk×(List (List Qa))×(List (List Qa))×(List Qa)×(List Qa))=>
  (Xv n d.1 d.2.1 d.2.2.1 d.2.2.2.1 d.2.2.2.2.1 d.2.2.2.2.2.1 d.2.2.2.2.2.2.1 d.2.2.2.2.2.2.2.1 d.2.2.2.2.2.2.2.2 p.Ao.B).bind λu=>
 (We n d.1 d.2.1 d.2.2.1 d.2.2.2.1 d.2.2.2.2.1 d.2.2.2.2.2.1 d.2.2.2.2.2.2.1 u d.2.2.2.2.2.2.2.2 u (p.Ao.B.length:Int)).bind λx=>
 bif !(Qr x.1 (⟨0,0,0,0⟩:Qc)) then (
  some (x.1,d.1,d.2.1,d.2.2.1,d.2.2.2.1,u,d.2.2.2.2.2.2.2.2,x.2,d.2.2.2.2.2.1,d.2.2.2.2.2.2.1))
 else (
  jn (λ(S:((List Qa))->Option _)=>
   (Qez n p.Ao).bind λV=>
   bif decide ((0:Int)<(V.length:Int)) then (
    (Vz n d.1 d.2.1 d.2.2.1 d.2.2.2.1 x.2 d.2.2.2.2.2.1 d.2.2.2.2.2.2.1 u d.2.2.2.2.2.2.2.2 V).bind λC=>
    S C)
   else (
    S d.2.2.2.2.2.2.2.2)) (λ(E:(List Qa))=>
   (We n d.1 d.2.1 d.2.2.1 d.2.2.2.1 x.2 d.2.2.2.2.2.1 d.2.2.2.2.2.2.1 u E E (wrap64 ((p.Ao.B.length:Int)+(1:Int)))).bind λW=>
   some (W.1,d.1,d.2.1,d.2.2.1,d.2.2.2.1,u,E,W.2,d.2.2.2.2.2.1,d.2.2.2.2.2.2.1))))=K
 have G:=key p.Ao.B 0 g [] [] K om rfl rfl (λ_ h=>by cases h) (λ_ h=>by cases h) P;unfold doQ;rw[vv] at G;unfold pairQ at G;cases hs:stagesQ p.Tape (limQ p.Az) (fv t) (fv h) (rv y) (rv p.P) (List.zip (p.Ao.A.map rv) (rv p.Ao.C)) 0 [] [] with
 | inl f=>
   rw[hs] at G;exact G
 | inr z=>
   rw[hs] at G;obtain⟨A,q1,q2,q3,q4,T,U⟩:=G;obtain⟨m,kss⟩:=z;simp only[] at q2 q3 q4 T U |-;have e0:toRR []=[]:=rfl;rw[e0] at q2;rw[q2,<-hK];simp only[];have hbB:=Q6y (QR_rv ok.yk om) (qw_fv ok.hk om) (QR_rv ok.sw.b om) T om h0;have hlB:=Qsz (H:=fv h) (Y:=rv y) (c:=rv p.Ao.B) (kss:=kss) (by rw[Xe];exact U);rw[Xe] at hlB;have Q:=Jj3 (k:=k) (s:=p.Ao) om ok.sw;rw[Q2r I h0 om ok.hk ok.yk ok.sw.b T om om U om,sbind];obtain⟨w,e1,e2⟩:=Qvh (p:=p) (t:=t) (h:=h) (y:=y) (g:=A) (ys:=toRR m) (ks:=toRR kss) (nx:=toR (fromQ (fv h) (rv y) (rv p.Ao.B) kss)) (er:=[]) (x2:=(p.Ao.B.length:Int)) I (Za hbB (show 22*k<=1099511627775 by omega)) om;rw[e2,sbind,q1];unfold endQ;cases hf:fitQ (limQ p.Az) (fromQ (fv h) (rv y) (rv p.Ao.B) kss) 0 with
   | some j=>
     simp only[];rw[Qci oy,xo,bifT];exact⟨_,rfl,rfl,oy⟩
   | none=>
     simp only[];rw[Qbh,ow,bifF,jn_eq,Qzi I om om ok.sw ok.sr,sbind,Qah];have hE:((Vz n p t h y w (toRR m) (toRR kss) (toR (fromQ (fv h) (rv y) (rv p.Ao.B) kss)) [] (toR (gapQ p.Ao)))=some (toR (towQ (fv h) y.length (gapQ p.Ao) kss))\/gapQ p.Ao=[])/\QR (41*k+1000) (if gapQ p.Ao=[] then [] else towQ (fv h) y.length (gapQ p.Ao) kss)/\(if gapQ p.Ao=[] then [] else towQ (fv h) y.length (gapQ p.Ao) kss).length<=1000:=by
      by_cases v:gapQ p.Ao=[]
      . rw[oj v];exact⟨.inr v,λ_ h=>(by cases h),oc⟩
      . have O:p.Ao.E.length=p.Ao.B.length:=by
         rcases L with L | L
         . exact L
         . exact absurd (by unfold gapQ;rw[oj (xg L)]) v
        have hgl:(gapQ p.Ao).length=p.Ao.B.length:=by unfold gapQ;rw[oi (λh=>by rw[h] at O;simp at O;omega),Q6m,Qsv,Xe,Xe];omega
        rw[oi v];have ht:=Qwx (k:=2*k+2) (p:=p) (t:=t) (h:=h) (y:=y) (g:=w) (ys:=toRR m) (nx:=toR (fromQ (fv h) (rv y) (rv p.Ao.B) kss)) (er:=[]) (c:=toR (gapQ p.Ao)) (kss:=kss) I om om (Wk ok.hk om) (Qgp Q) T om (by rw[Qah];omega) U om;rw[Qm0] at ht;refine⟨.inl ht,Za (Q1h (k:=2*k+2) (xn (qw_fv ok.hk om) om) Q T om om) om,?_⟩;rw[Q1i U];omega
     obtain⟨hE1,M,N⟩:=hE;have hj:∀ {β:Type}(f:List Qa->Option β),(bif decide ((0:Int)<((gapQ p.Ao).length:Int)) then (Vz n p t h y w (toRR m) (toRR kss) (toR (fromQ (fv h) (rv y) (rv p.Ao.B) kss)) [] (toR (gapQ p.Ao))).bind λC=>f C else f [])=f (toR (if gapQ p.Ao=[] then [] else towQ (fv h) y.length (gapQ p.Ao) kss)):=by
      intro β f;by_cases v:gapQ p.Ao=[]
      . rw[oj v,v];rfl
      . have:(gapQ p.Ao).length≠0:=λh=>v (xg h)
        rw[oi v,oq om,bifT,hE1.resolve_right v,sbind]
     rw[hj,w1 om,Xe];generalize (if gapQ p.Ao=[] then [] else towQ (fv h) y.length (gapQ p.Ao) kss)=er at M N |-;obtain⟨g3',J,F⟩:=Qvh (p:=p) (t:=t) (h:=h) (y:=y) (g:=w) (ys:=toRR m) (ks:=toRR kss) (nx:=toR (fromQ (fv h) (rv y) (rv p.Ao.B) kss)) (er:=toR er) (x2:=((p.Ao.B.length+1:Nat):Int)) I (Za M (show 41*k+1000<=1099511627775 by omega)) N;rw[F,sbind,show w.limit=limQ p.Az by omega];cases hf2:fitQ (limQ p.Az) er 0 with
     | some j=>exact⟨_,rfl,rfl,by show(6:Int)≠0;decide⟩
     | none=>exact⟨_,rfl,g3',rfl,q3,q4⟩
theorem Qzj(a:big<=n)(d:1<=k)(hk:k<1048576)(e:TW p.Tape)(hd:-9223372036854775808<=p.Tape.Dim/\p.Tape.Dim<=9223372036854775807)(hs:SchW k p.Ao):
 Z5 n p=some (dP (tapeR p.Tape/\schR p.Ao/\(p.P.length:Int)=p.Tape.Par)):=by
 unfold Z5;simp only[jn_eq];rw[Qpv a e hd,sbind,bifP];by_cases c1:tapeR p.Tape;rw[oj c1,Qi0 a d hk hs,sbind,bifP];by_cases c2:schR p.Ao;rw[oj c2];exact Qec ⟨λh=>⟨c1,c2,h⟩,λh=>h.2.2⟩;rw[oi c2,dP_f λh=>c2 h.2.1];rw[oi c1,dP_f λh=>c1 h.1]
end
structure PrbW(k:Nat)(p:Qq):Prop where
 t:∀ c∈p.Tape.Code,Fk k c.N
 d:-9223372036854775808<=p.Tape.Dim/\p.Tape.Dim<=9223372036854775807
 s:SchW k p.Ao
 p:FR k p.P
def prbR(p:Qq):Prop:=tapeR p.Tape/\schR p.Ao/\(p.P.length:Int)=p.Tape.Par
theorem PrbW.tw{k:Nat}{p:Qq}(h:PrbW k p)(hk:k<1048576):TW p.Tape:=λc a=>Fk_Fw (h.t c a) om
theorem Qzk{n k:Nat}{p:Qq}(d:big<=n)(h0:129<=k)(hk:k<8000)(a:PrbW k p):Z5 n p=some (dP (prbR p)):=
 Qzj d om om (a.tw om) a.d a.s
theorem PrbW.ok{n k:Nat}{p:Qq}{t h:Qa}{y:List Qa}(a:PrbW k p)(f:big<=n)(hk:k<8000)(hr:prbR p)(i:Fk k t)(d:Fk k h)(j:FR k y)(e:(y.length:Int)=p.Tape.Dim):PrbOK n k p t h y:=
 ⟨⟨hr.1,by rw[Qpv f (a.tw om) a.d,dP_t hr.1],a.t⟩,a.s,hr.2.1,a.p,hr.2.2,i,d,j,e⟩
def toM(z:MadeQ):Wa:=⟨toRR z.ys,toRR z.ks,toR z.next,toR z.err⟩
def noM:Wa:=⟨[],[],[],[]⟩
noncomputable def stepQ(p:Qq)(T H:Rat)(Y:List Rat):Qc ⊕ MadeQ:=
 @ite _ (prbR p/\(Y.length:Int)=p.Tape.Dim) (Classical.propDecidable _) (doQ p.Tape p.Ao (limQ p.Az) T H Y (rv p.P)) (.inl ⟨2,0,0,0⟩)
theorem Q6z{n k:Nat}{p:Qq}{t h:Qa}{y:List Qa}(j:big<=n)(h0:129<=k)(hk:k<8000)(m:PrbW k p)(u:Fk k t)(s:Fk k h)(v:FR k y):
 Qhs n p t h y=some (match stepQ p (fv t) (fv h) (rv y) with | .inl f=>(noM,f) | .inr z=>(toM z,⟨0,0,0,0⟩))/\∀ f,stepQ p (fv t) (fv h) (rv y)=.inl f->f.Aw≠0:=by
 unfold Qhs stepQ;simp only[jn_eq];rw[Qzk j h0 hk m,sbind,bifnP,Xe];by_cases hr:prbR p
 case neg=>rw[oi hr,oi (λh=>hr h.1),bifT];exact⟨rfl,λf h=>by cases h;decide⟩
 rw[oj hr];by_cases a:(y.length:Int)=p.Tape.Dim
 case neg=>rw[ol a,oi (λh=>a h.2),xo,bifT];exact⟨rfl,λf h=>by cases h;decide⟩
 rw[oq a,oj ⟨hr,a⟩,ow,bifF];have ok:=m.ok j hk hr u s v a;unfold Qaz;rw[sbind];obtain⟨r,q,d⟩:=Jfc (g:=⟨⟨0,0⟩,min (max p.Az 0) 4096⟩) j h0 hk ok rfl;rw[q,sbind];cases hd:doQ p.Tape p.Ao (limQ p.Az) (fv t) (fv h) (rv y) (rv p.P) with
 | inl f=>
   rw[hd] at d;obtain⟨e,l⟩:=d;refine⟨?_,λg i=>by cases i;exact l⟩;rw[e];obtain⟨w,x,f3,A⟩:=f;rw[Qci l,xo,bifT];rfl
 | inr z=>
   rw[hd] at d;obtain⟨B,e,_⟩:=d;subst e;simp only[];rw[Qbh,ow,bifF];exact⟨rfl,λg i=>by cases i⟩
theorem Q2s{t:Qv}{l:Int}{T H:Rat}{Y P:List Rat}{m:Nat}(q:l<=4096)(A:t.Ar.length=m)(v:Y.length=m):∀ {r:List (List Rat×Rat)}{i:Nat}{j kss:List (List Rat)}{z},(∀ a∈kss,a.length=m)->(∀ a∈j,a.length=m)->stagesQ t l T H Y P r i j kss=.inr z ->
 (∀ a∈z.2,a.length=m)/\(∀ a∈z.1,a.length=m)/\(∃ e,z.1=j++e)/\∃ e,z.2=kss++e
 | [],i,j,kss,z,s,u,h=>by simp only[stagesQ] at h;cases h;exact⟨s,u,⟨[],oc⟩,[],oc⟩
 | x::r,i,j,kss,z,s,u,h=>by
   simp only[stagesQ] at h;cases hs:stageQ t l T H Y P x.1 x.2 i kss with
   | inl f=>rw[hs] at h;cases h
   | inr w=>
     rw[hs] at h;have B:w.2.length=m/\w.1.length=m:=by
      unfold stageQ at hs;split at hs;cases hs;cases hf:fieldQ t l (T+H*x.2) (fromQ H Y x.1 kss) P with
      | inl e=>rw[hf] at hs;cases hs
      | inr k=>
        rw[hf] at hs;cases hs;exact⟨by rw[(Q2p q hf).1,A],by show(fromQ H Y x.1 kss).length=m;rw[Qsz (by rw[v];exact s),v]⟩
     obtain⟨g1,E,⟨e,g3⟩,C,g4⟩:=Q2s q A v (λa d=>by
      rcases xk.1 d with d | d;exact s a d;rw[xq.1 d];exact B.1) (λa d=>by
      rcases xk.1 d with d | d;exact u a d
      rw[xq.1 d];exact B.2) h
     exact⟨g1,E,⟨w.1::e,by rw[g3];simp⟩,w.2::C,by rw[g4];simp⟩
def blkB(c:Nat):Bool:=decide (c=32\/c=9\/c=10\/c=13)
theorem Qfj{α:Type}(p:α->Bool):∀(l:List α),(l.dropWhile p).length<=l.length
 | []=>ou _
 | x::l=>by rw[ww];split;exact Nat.le_succ_of_le (Qfj p l);exact ou _
def wcons(w:Vl):List Vl ⊕ Nat->List Vl ⊕ Nat
 | .inl l=>.inl (w::l)
 | .inr p=>.inr p
def tailK(k:Int)(r:List UInt8):List UInt8:=r.takeWhile (λb=>goC k b.toNat)
def scanS:List UInt8->Nat->List Vl ⊕ Nat
 | [],_=>.inl []
 | c::r,i=>
   if blkB c.toNat then scanS r (i+1)
   else if c.toNat=35 then scanS (r.dropWhile (λb=>b.toNat≠10)) (i+1+(r.takeWhile (λb=>b.toNat≠10)).length)
   else if kindC c.toNat=0 then .inr i
   else if mostC (kindC c.toNat)<1+(tailK (kindC c.toNat) r).length then .inr (i+mostC (kindC c.toNat))
   else wcons ⟨kindC c.toNat,c::tailK (kindC c.toNat) r,i⟩ (scanS (r.drop (tailK (kindC c.toNat) r).length) (i+1+(tailK (kindC c.toNat) r).length))
termination_by s=>s.length
decreasing_by
 all_goals simp only[oo,ua]
 . omega
 . have:=Qfj (λb:UInt8=>decide (b.toNat≠10)) r;omega
 . omega
theorem Qp1(i:Nat):scanS [] i=.inl []:=by rw[scanS]
theorem Qis(c:UInt8)(r:List UInt8)(i:Nat):scanS (c::r) i =
 if blkB c.toNat then scanS r (i+1)
 else if c.toNat=35 then scanS (r.dropWhile (λb=>b.toNat≠10)) (i+1+(r.takeWhile (λb=>b.toNat≠10)).length)
 else if kindC c.toNat=0 then .inr i
 else if mostC (kindC c.toNat)<1+(tailK (kindC c.toNat) r).length then .inr (i+mostC (kindC c.toNat))
 else wcons ⟨kindC c.toNat,c::tailK (kindC c.toNat) r,i⟩ (scanS (r.drop (tailK (kindC c.toNat) r).length) (i+1+(tailK (kindC c.toNat) r).length)):=by rw[scanS]
theorem Q60(k:Int):1<=mostC k/\mostC k<=60:=by unfold mostC;grind
theorem Jfd{c:Nat}(h:kindC c≠0):blkB c=false/\c≠35:=by
 constructor;cases a:blkB c with
 | false=>rfl
 | true=>
   exfalso;apply h;simp only[blkB,xv] at a;rcases a with rfl | rfl | rfl | rfl<;>decide
 rintro rfl;exact h oy
def fresh(out:List Vl)(i:Nat)(s:List UInt8):Prop:=∀ w,out.getLast?=some w->w.At+w.Av.length<=i/\∀ c r,s=c::r->w.At+w.Av.length=(i:Int)->goC w.Aw c.toNat=false
theorem Qc1(k:Int)(c:UInt8)(r:List UInt8):wdB k (c::r)=true↔k≠0/\kindC c.toNat=k/\r.all (λb=>goC k b.toNat)=true/\r.length+1<=mostC k:=by simp[wdB]
def FKs(k:Nat)(l:List Qp):Prop:=∀ f∈l,Fk k (tF f)
structure SchWr(k:Nat)(s:K5):Prop where
 a:∀ r∈s.A,FKs k r
 al:∀ r∈s.A,r.length<=1000000
 b:FKs k s.B
 bl:s.B.length<=1000000
 c:FKs k s.C
 cl:s.C.length<=1000000
 e:FKs k s.E
 el:s.E.length<=1000000
 nl:s.As.length<=1000000
structure PrbWr(k:Nat)(p:J0):Prop where
 t:∀ x∈p.Tape.Code,Fk k (tF x.N)
 o:p.Tape.Ar.length<=1000000
 s:SchWr k p.Ao
 pk:FKs k p.P
 pl:p.P.length<=1000000
theorem Q2t{d:Int}:∀ {l:List Rat}{i:Nat},fitQ d l i=none->∀ q∈l,(qz q:Int)<=d
 | [],_,_,q,a=>by cases a
 | x::l,i,h,q,a=>by simp only[fitQ] at h;split at h;rename_i e;rcases xc.1 a with rfl | a;exact e;exact Q2t h q a;cases h
theorem Q9r{a:Int}{l:List Rat}(d:a<=4096)(h:fitQ a l 0=none):QR 129 l:=λq e=>by have f:=Q2t h q e;have i:=qw_qz (q:=q) (b:=4096) om;omega
theorem Q61{p:Qq}{T H:Rat}{Y:List Rat}{z:MadeQ}(h:stepQ p T H Y=.inr z):prbR p/\(Y.length:Int)=p.Tape.Dim/\QR 129 z.next/\z.next.length=Y.length/\QR 129 z.err:=by
 unfold stepQ at h;by_cases d:prbR p/\(Y.length:Int)=p.Tape.Dim
 case neg=>rw[oi d] at h;cases h
 rw[oj d] at h;refine⟨d.1,d.2,?_⟩;have f:=d.1.1.1;unfold doQ at h;cases j:stagesQ p.Tape (limQ p.Az) T H Y (rv p.P) (List.zip (p.Ao.A.map rv) (rv p.Ao.C)) 0 [] [] with
 | inl e=>rw[j] at h;cases h
 | inr w=>
   rw[j] at h;simp only[] at h;obtain⟨g1,l,g3,g4⟩:=Q2s (m:=Y.length) (by unfold limQ;omega) (by have:=f.2.2.1;omega) rfl (λ_ h=>by cases h) (λ_ h=>by cases h) j;unfold endQ at h;have a:limQ p.Az<=4096:=by unfold limQ;omega
   split at h
   . cases h
   . rename_i hf
     split at h
     . cases h
     . rename_i i
       cases h;exact⟨Q9r a hf,Qsz g1,Q9r a i⟩
def noH:Jf:=⟨[],⟨⟨false,[]⟩,[]⟩,[]⟩
theorem Jg6{l:List Rat}:scaleQ 1 l=l:=by
 unfold scaleQ
 conv=>rhs;rw[<-List.map_id l]
 exact gv λq _=>by show 1*q=q;grind
theorem Q2u{k:Nat}{l:List Rat}(e:1<=k)(h:QR k l):qw (normQ l)<=k:=by
 have key:∀(l:List Rat) (b:Rat),QR k l->qw b<=k->qw (l.foldl (λb x=>maxQ b (absQ x)) b)<=k:=by
  intro l
  induction l with
  | nil=>intro b _ a;exact a
  | cons x l i=>intro b d a;exact i _ (λq f=>d q (.tail _ f)) (Jcz a (by rw[Q6q];exact d x (.head _)))
 exact key l 0 h (by rw[Qir];exact e)
theorem Jc9:qw 1=1:=by unfold qw;rw[show(1:Rat).num=1 from rfl,show(1:Rat).den=1 from rfl,show(1:Int).natAbs=1 from rfl,toL1];rfl
set_option maxRecDepth 100000
theorem Fk_tF{k:Nat}{x:Qp}(a:Kr x)(h:x.N.length<=k/\x.D.length<=k):Fk k (tF x):=⟨a.2.1.2,h.1,a.2.2.1.2,h.2⟩
theorem FR_tF{many k:Nat}{l:List Qp}(d:V5 l)(h:FL many k l):FR k (l.map tF):=λx e=>by obtain⟨y,a,rfl⟩:=xy.1 e;exact Fk_tF (d.2 y a) (h.2 y a)
theorem Jg7{a b k:Nat}{p:J0}{bits:Int}(f:Qbw p)(hk:k<=129)
 (h:(p.Tape.Code.length<=a/\p.Tape.Ar.length<=a/\∀ c∈p.Tape.Code,c.N.N.length<=k/\c.N.D.length<=k)/\(p.Ao.As.length<=50/\p.Ao.A.length<=b/\FL b 4 p.Ao.B/\FL b 4 p.Ao.C/\FL b 4 p.Ao.E/\∀ r∈p.Ao.A,FL b 4 r)/\FL 6 k p.P) :
 PrbW 129 ⟨tT p.Tape,tS p.Ao,p.P.map tF,bits⟩:=by
 obtain⟨e,bs,bp,_⟩:=f;obtain⟨⟨v,t2,t3⟩,⟨s1,u,l,m,q,s⟩,j⟩:=h;refine⟨λc i=>?_,e.2.2.1,⟨λr hr=>?_,Qbm (FR_tF bs.2.2.2.1 l) om,Qbm (FR_tF bs.2.1 m) om,Qbm (FR_tF bs.2.2.2.2.1 q) om,by show p.Ao.As.length<=_;omega⟩,Qbm (FR_tF bp j) hk⟩;obtain⟨d,hd,rfl⟩:=xy.1 i;exact Wk (Fk_tF (e.1.2 d hd).2.2.2.1 (t3 d hd)) hk;obtain⟨d,hd,rfl⟩:=xy.1 hr;exact Qbm (FR_tF (bs.2.2.1.2 d hd) (s d hd)) om
theorem PrbW.mono{j k:Nat}{p:Qq}(h:PrbW j p)(hk:j<=k):PrbW k p:=
 ⟨λc a=>Wk (h.t c a) hk,h.d,⟨λr hr=>Qbm (h.s.a r hr) hk,Qbm h.s.b hk,Qbm h.s.c hk,Qbm h.s.e hk,h.s.n⟩,Qbm h.p hk⟩
set_option maxRecDepth 100000
theorem PrbWr.mono{j k:Nat}{p:J0}(h:PrbWr j p)(hk:j<=k):PrbWr k p:=
 ⟨λx a=>Wk (h.t x a) hk,h.o,⟨λr hr f hf=>Wk (h.s.a r hr f hf) hk,h.s.al,λf hf=>Wk (h.s.b f hf) hk,h.s.bl,λf hf=>Wk (h.s.c f hf) hk,h.s.cl,λf hf=>Wk (h.s.e f hf) hk,h.s.el,h.s.nl⟩,λf hf=>Wk (h.pk f hf) hk,h.pl⟩
set_option maxRecDepth 100000
theorem Jda{α R:Type}{f:Nat->α->Unit->Option (Lp Unit R)}{K:Unit->Option R}(xs:List α)(a:∀ i x,xs[i]?=some x->f i x ()=some (.go ())):(rangeL f xs 0 ()).bind (lpK K)=K ():=Y5 (λ_=>()) xs a rfl
set_option maxRecDepth 100000
theorem fl_eq{z q d:Int}(h0:0<d)(a:q*d<=z)(e:z<q*d+d):z / d=q:=by apply Int.le_antisymm;have:z / d<q+1:=(Int.ediv_lt_iff_lt_mul h0).2 (by rw[Int.add_mul,Int.one_mul];exact e);omega;exact(Int.le_ediv_iff_mul_le h0).2 a
theorem Jfe(s:Bool)(x d:Nat)(hd:0<d)(z v:Int)(f:z=if s=true then -((x / d:Nat):Int) else ((x / d:Nat):Int))(e:v=if s=true then -(x:Int) else (x:Int)):
 z.natAbs<=x/\(z*(d:Int)).natAbs<=x/\(v - z*(d:Int)).natAbs<=x/\(v - z*(d:Int)<0->v / (d:Int)=z - 1)/\(0<=v - z*(d:Int)->v / (d:Int)=z):=by
 have l:=Nat.div_mul_le_self x d;have j:x<x / d*d+d:=Nat.lt_div_mul_add hd;have i:=wd x d;generalize x / d=q at *;have a:z*(d:Int)=if s=true then -((q*d:Nat):Int) else ((q*d:Nat):Int):=by rw[f];cases s;rw[oi oy,oi oy,Int.natCast_mul];rw[oj rfl,oj rfl,Int.natCast_mul,Int.neg_mul]
 have k1:v - z*(d:Int)<0->v / (d:Int)=z - 1:=λh=>fl_eq om (by
  rw[Int.sub_mul,Int.one_mul];rw[a] at h |-;rw[e] at h |-;cases s;rw[oi oy,oi oy] at h;omega
  rw[oj rfl,oj rfl];omega) (by rw[Int.sub_mul,Int.one_mul];omega)
 have k2:0<=v - z*(d:Int)->v / (d:Int)=z:=λh=>fl_eq om om (by
  rw[a] at h |-;rw[e] at h |-;cases s;rw[oi oy,oi oy];omega
  rw[oj rfl,oj rfl] at h |-;omega)
 refine⟨?_,?_,?_,k1,k2⟩;rw[f];cases s;rw[oi oy];omega;rw[oj rfl];omega;rw[a];cases s;rw[oi oy];omega;rw[oj rfl];omega;rw[a,e];cases s;rw[oi oy,oi oy];omega;rw[oj rfl,oj rfl];omega
theorem Q62{z:Int}{a:Qe}(d:Ww a)(h:z.natAbs<=val a.A2):Ww (toW z):=⟨Qan _,by
 show(toL z.natAbs).length<_
 exact yo (xn (Wo h) (Jv d.1)) d.2⟩
theorem Qxn{n:Nat}{a:Qe}{d:List Nat}(f:big<=n)(i:Ww a)(hd:Wd d)(q:d.length<4398046511104)(h0:val d≠0):∃ r,Qf9 n a ⟨false,d⟩=some (toW (wv a / (val d:Int)),r):=by
 unfold Qf9;simp only[jn_eq];have A:=i.2;have j:Ww ⟨false,d⟩:=⟨hd,q⟩
 rw[Qgo f A q i.1 hd,oi h0,sbind];simp only[];rw[ow,bifF,Wx,sbind];have s:wv (⟨false,d⟩:Qe)=(val d:Int):=rfl;have hs:(a.Neg != false)=a.Neg:=by cases a.Neg<;>rfl
 rw[hs];obtain⟨g1,v,g3,g4,w⟩:=Jfe a.Neg (val a.A2) (val d) om _ (wv a) rfl rfl;have l:(0:Int)<(val d:Int):=om
 generalize (if a.Neg=true then -((val a.A2 / val d:Nat):Int) else ((val a.A2 / val d:Nat):Int))=z at *;have u:=Q62 i g1;have B:=Q62 i v;have wr:=Q62 i g3
 have m:∀ x:Int,-1<=x.sign/\x.sign<=1:=λx=>by rcases Int.lt_trichotomy x 0 with h | h | h;rw[wc h];omega;rw[h];decide;rw[vh h];omega
 have tr:=m (wv a - z*(val d:Int));rw[Ql1 f u j,sbind,Yf,s,Qiq f i B,sbind,Yf,Qbl f wr,sbind,Qbl f j,sbind,Yf,s,vh l,Int.mul_one,w64 om om];by_cases e:(wv a - z*(val d:Int)).sign<0;rw[oq e,bifT,Qnc f oy oy,sbind,Qiq f u ⟨Qan _,by show(toL 1).length<_;rw[toL1];decide⟩,sbind,Yf,Yf,Ql2 f wr j,sbind,g4 (Int.sign_neg_iff.1 e)];exact⟨_,rfl⟩;rw[ol e,bifF,w (Int.not_lt.1 λh=>e (Int.sign_neg_iff.2 h))];exact⟨_,rfl⟩
def floorQ(q:Rat):Int:=q.num / (q.den:Int)
theorem Jff{z:Int}{d:Nat}(hd:d≠0):floorQ (mkRat z d)=z / (d:Int):=by obtain⟨a,e⟩:=Qdc (z:=z) hd;unfold floorQ;rw[a,e];have g1:(Nat.gcd z.natAbs d:Int) ∣ z:=Int.dvd_natAbs.1 (Int.natCast_dvd_natCast.2 (Nat.gcd_dvd_left _ _));have f:Nat.gcd z.natAbs d ∣ d:=Nat.gcd_dvd_right _ _;have i:0<Nat.gcd z.natAbs d:=Nat.gcd_pos_of_pos_right _ om;generalize Nat.gcd z.natAbs d=g at *;obtain⟨x,rfl⟩:=g1;obtain⟨y,rfl⟩:=f;rw[Int.mul_ediv_cancel_left _ om,Nat.mul_div_cancel_left _ i,Int.natCast_mul,Int.mul_ediv_mul_of_pos _ _ om]
theorem Qzl{n k:Nat}{f:Qa}(i:big<=n)(s:1<=k)(hk:k<1099511627776)(hf:Fk k f):Qht n f=some (toW (floorQ (fv f))):=by obtain⟨w,d,j,l,u,m,v,e,q⟩:=Qdd i hf s om;unfold Qht;obtain⟨r,hr⟩:=Qxn i (a:=w) (d:=d) ⟨l,om⟩ m om e;rw[j,sbind,hr,sbind,<-q,Jff e]
theorem Qj0{n:Nat}{w:Qe}{d:List Nat}(a:big<=n)(f:Ww w)(hd:Wd d)(e:d.length<4398046511104)(h0:val d≠0):Qb1 n w d=some (toF (mkRat (wv w) (val d)),true):=by unfold Qb1;rw[Qgn a om hd,sbind,ol h0,bifF,Qax a f hd e h0,sbind]
theorem Qf0{u:Nat}(h:u<10):dec u=[UInt8.ofNat (48+u)]:=by by_cases h0:u=0;subst h0;rfl;rw[Qrp h0,Qcp h0,show u / 10=0 by omega,Qed];unfold dg;rw[yx h];rfl
theorem Qt1(u:Nat):Lib.decDigits u=dec u:=by
 induction u using Nat.strongRecOn with
 | _ u a=>
   rw[Lib.decDigits];by_cases h:u<10;rw[dif_pos h,Qf0 h];rw[dif_neg h,a (u / 10) om,<-Q6t om om,show u / 10*10+u%10=u by omega]
theorem Q63(k:Nat):Lib.itoa (k:Int)=dec k:=by unfold Lib.itoa;rw[oi om,Qt1];simp
theorem Q2v{x:Int}(h:x<0):Lib.itoa x=45::dec x.natAbs:=by unfold Lib.itoa;rw[oj h,Qt1]
theorem Jdb{k:Nat}(h:k<18446744073709551616):(dec k).length<=21:=by have a:=Jc1 (n:=k) (k:=2) (by rw[V9,V9,Y9];omega);have d:=Ja8 k;omega
theorem t58:UInt8.toNat 58=58:=oy
theorem Qwy{c:Nat}:∀ {w:List UInt8},(∀ b∈w,b.toNat≠c)->splitC c w=[w]
 | [],_=>rfl
 | x::w,h=>by
   have d:ntc c x=true:=by simp[ntc,h x (.head _)]
   unfold splitC;rw[d,oj rfl,Qwy λb a=>h b (.tail _ a)]
theorem Qzm{c:Nat}:∀ {w:List UInt8},(∀ b∈w,b.toNat≠c)->∀ {x:UInt8},x.toNat=c->∀ r,splitC c (w++x::r)=w::splitC c r
 | [],_,x,a,r=>by rw[xf,splitC];rw[oi (by simp[ntc,a])]
 | y::w,h,x,a,r=>by
   have e:ntc c y=true:=by simp[ntc,h y (.head _)]
   rw[xd,splitC,e,oj rfl,Qzm (λb d=>h b (.tail _ d)) a r]
theorem Qs0(k:Nat):dec k≠[]:=by unfold dec;split;simp;rename_i h0;simpa using Ja7 h0
theorem Jdc:∀(k:Nat) {v:Nat},1<=k->v<tp k->(dec v).length<=k
 | 0,_,h,_=>om
 | 1,v,_,h=>by rw[Qdg,Qfi] at h;rw[Qf0 om];simp
 | k+2,v,_,h=>by
   by_cases a:v<10;rw[Qf0 a];simp;have f:v / 10<tp (k+1):=by rw[Qdg] at h;omega
   have m:=Jdc (k+1) (v:=v / 10) om f;have l:v%10<10:=uh _ om;have d:(UInt8.ofNat (48+v%10)).toNat=48+v%10:=by rw[UInt8.toNat_ofNat'];omega
   have i:isD [UInt8.ofNat (48+v%10)]:=λc j=>by rw[xq.1 j,d];omega
   have e:numD [UInt8.ofNat (48+v%10)] (v / 10)=v:=by simp only[numD];rw[d];omega
   have:=Q6u (v:=v / 10) i om;rw[e] at this;rw[this,ov];simp;omega
def wholeS(z:Int):List UInt8:=(if z<0 then [45] else [])++dec z.natAbs
def figS(q:Rat):List UInt8:=wholeS q.num++(if q.den=1 then [] else 47::dec q.den)
def FigB(q:Rat):Prop:=(dec q.num.natAbs).length<=60/\(dec q.den).length<=60
theorem Q64{z:Int}{k:Nat}(h:(toL z.natAbs).length<=k)(hk:k<4398046511104):Ww (toW z):=⟨Jp _,by show(toL z.natAbs).length<_;omega⟩
theorem Qrs{v k:Nat}(hk:1<=k)(h:(dec v).length<=k):(toL v).length<=k:=by have:=Qxj (Qg1 (n:=v));rw[Qfy] at this;omega
theorem Q9s(z:Int):z.sign<0↔z<0:=by constructor;intro h;rcases Int.lt_trichotomy z 0 with a | a | a;exact a;subst a;simp at h;rw[vh a] at h;omega;intro h;rw[wc h];omega
theorem Qzn{n:Nat}{z:Int}(d:big<=n)(h:(dec z.natAbs).length<=60):Qh3 n (toW z)=some (wholeS z):=by have f:=Qrs oy h;unfold Qh3;rw[show(toW z).A2=toL z.natAbs from rfl,Qc0 d om (Jp _),sbind,Q5,Qbl d (Q64 f oy),sbind,Yf];unfold wholeS;by_cases a:z<0;rw[oq ((Q9s z).2 a),bifT,W3 oh,sbind,oj a];rw[ol (λe=>a ((Q9s z).1 e)),bifF,oi a];rfl
theorem Q9t{d:Nat}:cmpI d 1=0↔d=1:=by unfold cmpI;split<;>(try split)<;>omega
theorem Qo1{n:Nat}{q:Rat}(a:big<=n)(h:FigB q):Qbr n (toF q)=some (figS q):=by
 have i:=Qrs oy h.1;have j:=Qrs oy h.2;unfold Qbr;have hf:Fw (toF q):=⟨Q64 i oy,Jp _,by show(toL q.den).length<_;omega⟩
 rw[Vf a hf,sbind,Kg];have d:(toF q).Num=toW q.num:=rfl;have f:(toF q).Den=toL q.den:=rfl;rw[d,Qzn a h.1,sbind,jn_eq,Qa6 a oy,sbind,f,Qfe a om (xn (Xy (k:=1) (by unfold bp;decide)) oy) (Jp _) (Jp _),sbind,Q5,Q5];unfold figS;have l:(wholeS q.num).length<=61:=by unfold wholeS;rw[ov];have:=h.1;split<;>simp<;>omega
 by_cases hd:q.den=1;rw[oq (Q9t.2 hd),ow,bifF,oj hd];simp;rw[ol (λe=>hd (Q9t.1 e)),xo,bifT,Qc0 a om (Jp _),sbind,Q5,W3 (by have:=h.2;simp;omega),sbind,W3 (by have:=h.2;simp;omega),sbind,oi hd];rfl
def rowS(l:List Rat):List UInt8:=Lib.join (l.map figS) [44]
theorem Qj7{q:Rat}(h:FigB q):(figS q).length<=122:=by have a:=h.1;have d:=h.2;unfold figS wholeS;rw[ov,ov];split<;>split<;>simp<;>omega
theorem Qki(s:List UInt8)(k:Nat):∀(xs:List (List UInt8)),(∀ x∈xs,x.length<=k)->(Lib.join xs s).length<=(k+s.length)*xs.length
 | [],_=>by simp[Lib.join,List.intercalate]
 | [x],h=>by have:=h x (.head _);rw[Lib.join_one];simp;omega
 | x::y::r,h=>by
   have d:=Qki s k (y::r) (λz a=>h z (.tail _ a));have:=h x (.head _);have e:Lib.join (x::y::r) s=x++s++Lib.join (y::r) s:=by simp[Lib.join,List.intercalate]
   rw[e];simp only[ov,oo] at d |-;rw[vg (k+s.length) (r.length+1) 1];omega
theorem Q38{n:Nat}{l:List Rat}(m:big<=n)(r:l.length<=1000)(h:∀ q∈l,FigB q):Qds n (toR l)=some (rowS l):=by
 unfold Qds;refine(Y5 (λi=>(l.take i).map figS) (toR l) ?_ rfl).trans ?_;intro i x a;have f:∃ q,l[i]?=some q/\toF q=x:=by
  unfold toR at a;rw[uo] at a;cases d:l[i]? with
  | none=>rw[d] at a;cases a
  | some q=>rw[d] at a;exact⟨q,rfl,Option.some.inj a⟩
 obtain⟨q,d,rfl⟩:=f;rw[Qo1 m (h q (Q3 d)),sbind,Jk oh oh,sbind,Zv figS d];rw[K7];have e:(l.take (toR l).length).map figS=l.map figS:=by unfold toR;rw[xa,yn]
 rw[e];have j:=Qki [44] 122 (l.map figS) (λx a=>by obtain⟨q,d,rfl⟩:=xy.1 a;exact Qj7 (h q d));unfold Yo;rw[oj ⟨oh,by simp only[xa,oo,xz] at j;omega⟩,sbind];rfl
theorem Q1j(w p:List UInt8)(a:w.length<=9223372036854775807):Y8 w p=some (decide (w.take p.length=p)):=by
 unfold Y8 K9;simp only[jn_eq];by_cases h:p.length<=w.length;rw[oq om,bifT,Qfx h,sbind,sbind];rw[ol om,bifF,sbind];have:¬ w.take p.length=p:=λe=>by have:=ur List.length e;simp at this;omega
 rw[ol this]
theorem Qrt(w p:List UInt8)(f:w.length<=9223372036854775807):Y7 w p=some (if w.take p.length=p then (w.drop p.length,true) else (w,false)):=by
 have h:=Q1j w p f;unfold Y8 at h;have e:K9 w p=some (decide (w.take p.length=p)):=by
  cases d:K9 w p with
  | none=>rw[d] at h;cases h
  | some b=>rw[d] at h;exact h
 unfold Y7 Xt;rw[e,sbind];by_cases c:w.take p.length=p;have a:p.length<=w.length:=by have:=ur List.length c;simp at this;omega
 rw[oq c,ow,bifF,oj c,Qns a (ou _),sbind,sbind,yn];rw[ol c,xo,bifT,oi c,sbind]
def bodyS(w:List UInt8):List UInt8:=if w.take 1=[45] then w.drop 1 else w
def zOf(w:List UInt8):Int:=if w.take 1=[45] then -(numD (bodyS w) 0:Int) else (numD (bodyS w) 0:Int)
theorem Qdx:Qr (⟨0,0,0,0⟩:Qc) (⟨0,0,0,0⟩:Qc)=true:=oy
theorem Jj4{k a:Int}(h:k≠0)(b c:Int):Qr (⟨k,b,c,a⟩:Qc) (⟨0,0,0,0⟩:Qc)=false:=by
 unfold Qr;have:(k == 0)=false:=by simpa using h
 simp[this]
theorem Jdd(s:List UInt8):wrongI s<=s.length/\-1<=wrongI s:=by
 unfold wrongI;cases a:wrongAt s 0 with
 | none=>simp only[];split<;>omega
 | some j=>have:=Ja9 a;simp only[];omega
theorem Qzo{n:Nat}{w:List UInt8}(i:big<=n)(d:w.length<=1000000):
 Qer n w=some (if 0<=wrongI (bodyS w) then ((⟨false,[]⟩:Qe),(⟨1,0,0,wrongI (bodyS w)+((w.length:Int) - (bodyS w).length)⟩:Qc)) else (toW (zOf w),⟨0,0,0,0⟩)):=by
 have f:∀ t:List UInt8,t.length<=1000000->t.length<=maxLen:=λt h=>xn h oy;have a:(bodyS w).length<=w.length:=by unfold bodyS;split<;>simp
 have e:(if w.take 1=[45] then (w.drop 1,true) else (w,false))=(bodyS w,decide (w.take 1=[45])):=by
  unfold bodyS;by_cases c:w.take 1=[45]
  rw[oj c,oj c,oq c];rw[oi c,oi c,ol c]
 unfold Qer;rw[Qrt w [45] om,sbind,show([45]:List UInt8).length=1 from rfl,e,Qj6 i (f _ (xn a d)),sbind];have j:=Jdd (bodyS w);by_cases h:0<=wrongI (bodyS w);rw[oj h,oj h,Jj4 oy,xo,bifT];simp only[];rw[w64 (x:=(w.length:Int) - ((bodyS w).length:Int)) om om,w64 om om];rw[oi h,oi h,Qdx,ow,bifF,Wx,sbind];unfold zOf;by_cases c:w.take 1=[45]
 rw[oq c,oj c,oj rfl];rw[ol c,oi c];rfl
theorem Jfg{v:Nat}{c:UInt8}{t:List UInt8}(h:dec v=c::t):48<=c.toNat/\c.toNat<=57:=Qg1 c (by rw[h];exact .head _)
theorem Qzp(z:Int):bodyS (wholeS z)=dec z.natAbs/\zOf (wholeS z)=z:=by
 have f:=Qs0 z.natAbs;have d:bodyS (wholeS z)=dec z.natAbs/\((wholeS z).take 1=[45]↔z<0):=by
  unfold bodyS wholeS;by_cases a:z<0;rw[oj a];simp[a];rw[oi a,xf];cases hd:dec z.natAbs with
  | nil=>exact absurd hd f
  | cons c t=>
    have i:=Jfg hd
    have:¬(c::t).take 1=[45]:=λe=>by simp at e;subst e;revert i;decide
    rw[oi this];exact⟨rfl,⟨λe=>absurd e this,λe=>absurd e a⟩⟩
 refine⟨d.1,?_⟩;unfold zOf;rw[d.1,Qfy];by_cases a:z<0;rw[oj (d.2.2 a)];omega;rw[oi (λe=>a (d.2.1 e))];omega
theorem Q2w{v:Nat}(h:(dec v).length<=60):wrongI (dec v)=-1:=by rw[Qze Qg1 (Qs0 v),oi om]
theorem Qzq{n:Nat}{z:Int}(a:big<=n)(h:(dec z.natAbs).length<=60):Qer n (wholeS z)=some (toW z,⟨0,0,0,0⟩):=by
 have d:(wholeS z).length<=61:=by unfold wholeS;rw[ov];split<;>simp<;>omega
 rw[Qzo a om,(Qzp z).1,Q2w h,oi oy,(Qzp z).2]
theorem Q9u(q:Rat):mkRat (wv (toW q.num)) (val (toL q.den))=q:=by rw[Yf,Q5,Rat.mkRat_self]
theorem Jfh(q:Rat):asc (figS q)=true:=by
 have hd:∀ v:Nat,∀ c∈dec v,c.toNat<128:=λv c a=>by have:=Qg1 c a;omega
 unfold asc;rw[ug];intro c a;refine oq ?_;unfold figS wholeS at a;rcases xk.1 a with a | a;rcases xk.1 a with a | a;split at a;rw[xq.1 a];decide;cases a;exact hd _ c a;split at a;cases a;rcases xc.1 a with rfl | a;decide;exact hd _ c a
theorem Qvi{z:Int}{c:UInt8}(a:c∈wholeS z):c=45\/(48<=c.toNat/\c.toNat<=57):=by unfold wholeS at a;rcases xk.1 a with a | a;split at a;exact .inl (xq.1 a);cases a;exact .inr (Qg1 c a)
theorem Q65{c:UInt8}(h:c=45\/(48<=c.toNat/\c.toNat<=57)):([47,46]:List UInt8).contains c=false:=by rcases h with rfl | h;decide;rw[List.contains_eq_mem,ol];intro m;rcases xc.1 m with rfl | m;revert h;decide;rw[xq.1 m] at h;revert h;decide
theorem Jde(q:Rat):Qa9 (figS q) [47,46]=some (if q.den=1 then -1 else ((wholeS q.num).length:Int))\/¬ FigB q:=by
 by_cases e:FigB q
 case neg=>exact .inr e
 refine .inl ?_;have i:=Qj7 e;unfold Qa9;rw[oj ⟨om,oy,Jfh q,oy⟩];congr 1;by_cases hd:q.den=1
 . rw[oj hd]
   refine Lib.indexAny_none λj b _ a=>Q65 ?_;have d:=gh a;unfold figS at d;rw[oj hd,yv] at d;exact Qvi d
 . rw[oi hd]
   refine Lib.indexAny_hit (x:=47) (λj b f a=>Q65 ?_) ?_ oy
   . unfold figS at a
     rw[yb f] at a;exact Qvi (gh a)
   . unfold figS;rw[oi hd,yy (ou _),gt];rfl
theorem Qwz{n:Nat}{q:Rat}(a:big<=n)(h:FigB q):Qc6 n (figS q)=some (toF q,⟨0,0,0,0⟩):=by
 have r:=Qj7 h;have l:=Qrs oy h.1;have s:=Qrs oy h.2;have d:Ww (toW q.num):=Q64 l oy;have u:(wholeS q.num).length<=61:=by unfold wholeS;rw[ov];have:=h.1;split<;>simp<;>omega
 unfold Qc6;rw[(Jde q).resolve_right (λe=>e h),sbind];simp only[jn_eq];by_cases hd:q.den=1;have e:figS q=wholeS q.num:=by unfold figS;rw[oj hd,yv]
 rw[oj hd,ol oy,bifF,e,Qzq a h.1,sbind,Qdx,ow,bifF,oq oy,bifT,Qa6 a oy,sbind,
  Qj0 a d (Jp _) (by have:=Xy (n:=1) (k:=1) (by unfold bp;decide);omega) (by rw[Q5];decide),sbind]
 rw[<-hd,Q9u];have e:figS q=wholeS q.num++47::dec q.den:=by unfold figS;rw[oi hd]
 have m:(wholeS q.num).length<(figS q).length:=by rw[e];simp
 rw[oi hd,oq om,bifT,Qfx om,sbind];have j:(figS q).take (wholeS q.num).length=wholeS q.num:=by rw[e];simp
 have f:getS (figS q) ((wholeS q.num).length:Int)=some 47:=by rw[Q2e,e,yy (ou _),gt];rfl
 rw[j,Qzq a h.1,sbind,Qdx,ow,bifF,ol om,bifF,f,sbind,oq rfl,bifT,w1 om];unfold Qjr Zz;have i:sub (figS q) (((wholeS q.num).length+1:Nat):Int) ((figS q).length:Int)=some (dec q.den):=by rw[Qns om (ou _),yn,e];rw[show wholeS q.num++47::dec q.den=(wholeS q.num++[47])++dec q.den by simp,show(wholeS q.num).length+1=(wholeS q.num++[47]).length by simp,List.drop_left]
 rw[i,sbind,Qj6 a (xn h.2 oy),Q2w h.2,oi oy,sbind,jn_eq];simp only[];rw[Qdx,ow,bifF,sbind];simp only[];rw[Qdx,ow,bifF,Qfy,Qj0 a d (Jp _) om (by rw[Q5];exact q.den_nz),sbind,ow,bifF,sbind,Q9u]
theorem Q9v{q:Rat}{c:UInt8}(a:c∈figS q):c=45\/c=47\/(48<=c.toNat/\c.toNat<=57):=by unfold figS at a;rcases xk.1 a with a | a;exact(Qvi a).imp id .inr;split at a;cases a;rcases xc.1 a with rfl | a;exact .inr (.inl rfl);exact .inr (.inr (Qg1 c a))
theorem Q9w{q:Rat}:∀ b∈figS q,b.toNat≠44:=λb a=>by rcases Q9v a with rfl | rfl | h;decide;decide;omega
theorem Q2x:∀(l:List Rat),l≠[]->splitC 44 (rowS l)=l.map figS
 | [],h=>absurd rfl h
 | [q],_=>by unfold rowS;rw[xw,gy,Lib.join_one,Qwy Q9w]
 | q::r::l,_=>by
   have a:=Q2x (r::l) oc;unfold rowS at a |-;have e:Lib.join ((q::r::l).map figS) [44]=figS q++44::Lib.join ((r::l).map figS) [44]:=by simp[Lib.join,List.intercalate]
   rw[e,Qzm Q9w oy,a];rfl
theorem Jg8(q:Rat):figS q≠[]:=by unfold figS wholeS;have:=Qs0 q.num.natAbs;intro e;simp[this] at e
theorem Jg9{l:List Rat}(h:l≠[]):rowS l≠[]:=by
 cases l with
 | nil=>exact absurd rfl h
 | cons q l=>
   unfold rowS;have:=Jg8 q;cases l with
   | nil=>rw[xw,gy,Lib.join_one];exact this
   | cons r l=>
     have e:Lib.join ((q::r::l).map figS) [44]=figS q++44::Lib.join ((r::l).map figS) [44]:=by simp[Lib.join,List.intercalate]
     rw[e];simp[this]
theorem Qs1{l:List Rat}(h:∀ q∈l,FigB q):(rowS l).length<=123*l.length:=by have a:=Qki [44] 122 (l.map figS) (λx e=>by obtain⟨q,d,rfl⟩:=xy.1 e;exact Qj7 (h q d));unfold rowS;simpa using a
theorem Jfi(c:UInt8){s:List UInt8}(h:s.length<4294967281):Qdl s [c]=some (splitC c.toNat s):=by unfold Qdl;simp only[];rw[oj h]
theorem Q66{n:Nat}{l:List Rat}(u:big<=n)(C:l.length<=1000)(h:∀ q∈l,FigB q):Qih n (rowS l)=some (toR l,⟨0,0,0,0⟩):=by
 unfold Qih;by_cases h0:l=[]
 subst h0;rfl;rw[ol (Jg9 h0),bifF];have v:=Qs1 h;rw[Jfi 44 om,sbind,show(44:UInt8).toNat=44 from rfl,Q2x l h0];refine(Y5 (λi=>((l.take i).map toF,(((l.take i).map (λq=>(figS q).length+1)).sum:Int))) (l.map figS) ?_ rfl).trans ?_;intro i x e;obtain⟨q,d,rfl⟩:∃ q,l[i]?=some q/\figS q=x:=by
  rw[uo] at e;cases d:l[i]? with
  | none=>rw[d] at e;cases e
  | some q=>rw[d] at e;exact⟨q,rfl,Option.some.inj e⟩
 have j:=h q (Q3 d);have hi:=Jg d;have hs:∀(l':List Rat),(∀ q∈l',FigB q)->(l'.map (λq=>(figS q).length+1)).sum<=123*l'.length:=by
  intro l'
  induction l' with
  | nil=>intro _;simp
  | cons a r B=>intro m;have:=B (λz f=>m z (.tail _ f));have:=Qj7 (m a (.head _));simp only[xw,List.sum_cons,oo];omega
 have w:=hs (l.take i) (λz f=>h z (xt f));have A:(l.take i).length<=1000:=oh
 have s:=Qj7 j;rw[Qwz u j,sbind];simp only[];rw[Qdx,ow,bifF,Jk oh oh,sbind,w1 om,w64 om om,Zv toF d,Zv (λq=>(figS q).length+1) d];congr 3;simp;rw[K7];simp only[xa,yn];rfl
def zFr:Qa:=⟨⟨false,[]⟩,[]⟩
theorem p190:2 ^ 190<=tp 60:=by unfold tp;decide
theorem Q9x{v:Nat}(h:blen v<=190):(dec v).length<=60:=by refine Jdc 60 om (xj Qvz (xn (vf oy h) p190))
theorem Qv4{q:Rat}(h:qz q<=190):FigB q:=by unfold qz at h;exact⟨Q9x om,Q9x om⟩
theorem Q67{r:List Qa}(h:∀ x∈r,numR x):toR (rv r)=r:=by unfold toR rv;rw[wi];exact(gv (λx a=>(h x a).1.symm)).trans (List.map_id _)
theorem Qnv{r:List Qa}(h:∀ x∈r,numR x):∀ q∈rv r,FigB q:=λq a=>by unfold rv at a;obtain⟨x,d,rfl⟩:=xy.1 a;exact Qv4 (h x d).2
theorem Qh8{n:Nat}{r:List Qa}(a:big<=n)(d:r.length<=8)(h:∀ x∈r,numR x):Qds n r=some (rowS (rv r))/\(rowS (rv r)).length<=984:=by have e:=Q38 (n:=n) (l:=rv r) a (by unfold rv;simp;omega) (Qnv h);rw[Q67 h] at e;have:=Qs1 (Qnv h);refine⟨e,xn this ?_⟩;unfold rv;simp;omega
theorem Qs2{n:Nat}{x:Qa}(a:big<=n)(h:numR x):Qbr n x=some (figS (fv x))/\(figS (fv x)).length<=122:=by have e:=Qo1 (n:=n) a (Qv4 h.2);rw[<-h.1] at e;exact⟨e,Qj7 (Qv4 h.2)⟩
def lnA(s:Ql)(i:Nat):List UInt8:=figS (fv (s.C.getD i zFr))++124::rowS (rv (s.A.getD i []))
def lnB(s:Ql):List UInt8:=98::32::rowS (rv s.B)
def lnE(s:Ql):List UInt8:=101::32::rowS (rv s.E)
def lnsT(s:Ql):List (List UInt8):=lnB s::(if s.E=[] then [] else [lnE s])
def lnsS(s:Ql):List (List UInt8):=s.As::((List.range s.A.length).map (lnA s)++lnsT s)
def schS(s:Ql):List UInt8:=Lib.join (lnsS s) [10]
structure SchF(s:Ql):Prop where
 r:schR s
 nl:s.As.length<=60
 bl:s.B.length<=8
 cl:s.C.length=s.B.length
 al:s.A.length=s.B.length
 el:s.E.length<=8
 ai:∀(i:Nat) r,s.A[i]?=some r->r.length=i/\∀ x∈r,numR x
 bn:∀ x∈s.B,numR x
 cn:∀ x∈s.C,numR x
 en:∀ x∈s.E,numR x
theorem Q1k{s:Ql}(h:schR s)(f:s.As.length<=60):SchF s:=by obtain⟨_,⟨⟨g1,d⟩,g3,g4,l,e⟩,⟨j,a⟩,_⟩:=id h;exact⟨h,f,d,g3,g4,om,λi r hr=>⟨e i r hr,j r (Q3 hr)⟩,a _ (.head _),a _ (.tail _ (.head _)),a _ (.tail _ (.tail _ (.head _)))⟩
theorem Qru{s:Ql}(h:SchF s){i:Nat}(hi:i<s.A.length):∃ c r,s.C[i]?=some c/\s.A[i]?=some r/\numR c/\(∀ x∈r,numR x)/\r.length=i/\lnA s i=figS (fv c)++124::rowS (rv r)/\(lnA s i).length<=1107:=by
 have l:=h.cl;have m:=h.al;have q:=h.bl;have d:s.C[i]?=some (s.C[i]' om):=ot om;have hr:s.A[i]?=some s.A[i]:=ot hi;have a:=h.cn _ (Q3 d);obtain⟨j,f⟩:=h.ai i _ hr;have e:lnA s i=figS (fv (s.C[i]' om))++124::rowS (rv s.A[i]):=by unfold lnA;rw[yz,d,yz,hr];rfl
 refine⟨_,_,d,hr,a,f,j,e,?_⟩;have u:=(Qs2 (n:=big) (ou _) a).2;have v:=(Qh8 (n:=big) (ou _) om f).2;rw[e];simp;omega
theorem Q9y{s:Ql}(h:SchF s):(∀ l∈lnsS s,l.length<=1107)/\(lnsS s).length<=11:=by have d:=h.al;have e:=h.bl;refine⟨λl a=>?_,?_⟩;unfold lnsS lnsT at a;rcases xc.1 a with rfl | a;have:=h.nl;omega;rcases xk.1 a with a | a;obtain⟨i,hi,rfl⟩:=xy.1 a;exact(Qru h (List.mem_range.1 hi)).choose_spec.choose_spec.2.2.2.2.2.2;rcases xc.1 a with rfl | a;have:=(Qh8 (n:=big) (ou _) h.bl h.bn).2;unfold lnB;simp;omega;split at a;cases a;rw[xq.1 a];have:=(Qh8 (n:=big) (ou _) h.el h.en).2;unfold lnE;simp;omega;unfold lnsS lnsT;simp only[oo,ov,xa,List.length_range];split<;>simp<;>omega
theorem Q68{s:Ql}(h:SchF s):(schS s).length<=12188:=by obtain⟨a,d⟩:=Q9y h;have:=Qki [10] 1107 (lnsS s) a;have e:(1107+1)*(lnsS s).length<=1108*11:=vn (ou _) d;unfold schS;simp only[oo,xz] at this;omega
theorem Qxo{n k:Nat}{s:Ql}(a:big<=n)(v:1<=k)(hk:k<1048576)(hs:SchW k s)(f:s.As.length<=60):
 Qgg n s=some (@ite _ (schR s) (Classical.propDecidable _) (schS s,true) ([],false)):=by
 unfold Qgg;rw[Qi0 a v hk hs,sbind];by_cases hr:schR s
 case neg=>rw[dP_f hr,xo,bifT,oi hr]
 rw[dP_t hr,ow,bifF,oj hr];have h:=Q1k hr f;have g1:=h.cl;have H:=h.al;have g3:=h.bl;refine(Y5 (λi=>s.As::(List.range i).map (lnA s)) s.A ?_ rfl).trans ?_
 . intro i r m
   have hi:=Jg m;obtain⟨c,K,x,d,A,B,I,C,J⟩:=Qru h hi;rw[m] at d;cases d;obtain⟨E,t2⟩:=Qs2 a A;obtain⟨t3,t4⟩:=Qh8 a om B;rw[Wc x,sbind,E,sbind,W3 oh,sbind,t3,sbind,W3 oh,sbind,Jk oh oh,sbind];rw[List.range_succ,xu,xw,gy,C];simp
 rw[K7];obtain⟨q,F⟩:=Qh8 a h.bl h.bn;obtain⟨u,G⟩:=Qh8 a h.el h.en;rw[q,sbind,W3 oh,sbind,Jk oh oh,sbind,jn_eq];have l:=Q68 h;obtain⟨_,hcount⟩:=Q9y h;have fin:∀ L:List (List UInt8),L=lnsS s->((Yo L ([10]:List UInt8)).bind λj=>some (j,true))=some (schS s,true):=by rintro L rfl;unfold Yo;rw[oj ⟨om,by show(schS s).length<=_;omega⟩,sbind];rfl
 by_cases e:s.E=[]
 . rw[e,ol oy,bifF]
   refine fin _ ?_;unfold lnsS lnsT;rw[oj e];rfl
 . have w:0<s.E.length:=List.length_pos_iff.2 e
   rw[oq om,bifT,u,sbind,W3 oh,sbind,Jk oh oh,sbind];refine fin _ ?_;unfold lnsS lnsT;rw[oi e];simp[lnB,lnE]
theorem Q2y{c:Nat}:∀ {w:List UInt8},(∀ b∈w,b.toNat≠c)->cutC c w=(w,[],false)
 | [],_=>rfl
 | x::w,h=>by
   have a:=Q2y (c:=c) (w:=w) (λb e=>h b (.tail _ e));have d:ntc c x=true:=by simp[ntc,h x (.head _)]
   unfold cutC at a |-;simp only[Prod.mk.injEq] at a |-;rw[yf,ww,oj d,oj d,dm,d,ow,Bool.false_or];exact⟨by rw[a.1],a.2.1,a.2.2⟩
theorem Qxp{c:Nat}{x:UInt8}(e:x.toNat=c)(r:List UInt8):∀ {w:List UInt8},(∀ b∈w,b.toNat≠c)->cutC c (w++x::r)=(w,r,true)
 | [],_=>by
   have h:ntc c x=false:=by simp[ntc,e]
   unfold cutC;simp[yf,ww,h]
 | y::w,h=>by
   have a:=Qxp e r (w:=w) (λb f=>h b (.tail _ f));have d:ntc c y=true:=by simp[ntc,h y (.head _)]
   unfold cutC at a |-;simp only[Prod.mk.injEq,xd] at a |-;rw[yf,ww,oj d,oj d,dm,d,ow,Bool.false_or];exact⟨by rw[a.1],a.2.1,a.2.2⟩
theorem Q69(c:UInt8){s:List UInt8}(h:s.length<4294967281):Ym s [c]=some (cutC c.toNat s):=by unfold Ym;simp only[];rw[oj h]
theorem Jj5:∀ c:UInt8,goC 2 c.toNat=true->c.toNat≠10/\c.toNat≠124:=by intro c h;constructor;intro e;rw[e] at h;revert h;decide;intro e;rw[e] at h;revert h;decide
theorem Jfj:∀ c:UInt8,kindC c.toNat=2->c.toNat≠10/\c.toNat≠124:=by intro c h;constructor;intro e;rw[e] at h;revert h;decide;intro e;rw[e] at h;revert h;decide
theorem Jha{s:List UInt8}(h:wdB 2 s=true):∀ b∈s,b.toNat≠10/\b.toNat≠124:=by
 cases s with
 | nil=>intro b a;cases a
 | cons c r=>
   obtain⟨_,d,e,_⟩:=(Qc1 _ _ _).1 h;intro b a;rcases xc.1 a with rfl | a;exact Jfj _ d;exact Jj5 _ (ug.1 e b a)
theorem Qxq{q:Rat}:∀ b∈figS q,b.toNat≠10/\b.toNat≠124:=λb a=>by rcases Q9v a with rfl | rfl | h;decide;decide;omega
theorem Q7a{x:UInt8}(s:List UInt8):∀(l:List (List UInt8)),x∈Lib.join l s->x∈s\/∃ w∈l,x∈w
 | [],h=>by simp[Lib.join,List.intercalate] at h
 | [w],h=>by rw[Lib.join_one] at h;exact .inr ⟨w,.head _,h⟩
 | w::v::r,h=>by
   have e:Lib.join (w::v::r) s=w++s++Lib.join (v::r) s:=by simp[Lib.join,List.intercalate]
   rw[e] at h;rcases xk.1 h with h | h;rcases xk.1 h with h | h;exact .inr ⟨w,.head _,h⟩;exact .inl h;rcases Q7a s (v::r) h with h | ⟨u,h1,h2⟩;exact .inl h;exact .inr ⟨u,.tail _ h1,h2⟩
theorem Qs3{l:List Rat}:∀ b∈rowS l,b.toNat≠10/\b.toNat≠124:=λb a=>by rcases Q7a [44] _ a with h | ⟨w,h1,h2⟩;rw[xq.1 h];decide;obtain⟨q,_,rfl⟩:=xy.1 h1;exact Qxq b h2
theorem Jdf{s:Ql}(h:SchF s):∀ l∈lnsS s,∀ b∈l,b.toNat≠10:=by intro l d b a;unfold lnsS lnsT at d;rcases xc.1 d with rfl | d;exact(Jha h.r.1 b a).1;rcases xk.1 d with d | d;obtain⟨i,hi,rfl⟩:=xy.1 d;obtain⟨c,r,_,_,_,_,_,e,_⟩:=Qru h (List.mem_range.1 hi);rw[e] at a;rcases xk.1 a with a | a;exact(Qxq b a).1;rcases xc.1 a with rfl | a;decide;exact(Qs3 b a).1;rcases xc.1 d with rfl | d;unfold lnB at a;rcases xc.1 a with rfl | a;decide;rcases xc.1 a with rfl | a;decide;exact(Qs3 b a).1;split at d;cases d;rw[xq.1 d] at a;unfold lnE at a;rcases xc.1 a with rfl | a;decide;rcases xc.1 a with rfl | a;decide;exact(Qs3 b a).1
theorem Jj6{s:Ql}:∀ b∈lnB s,b.toNat≠124:=λb a=>by unfold lnB at a;rcases xc.1 a with rfl | a;decide;rcases xc.1 a with rfl | a;decide;exact(Qs3 b a).2
def fromL(L:List (List UInt8))(k:Nat):List UInt8:=Lib.join (L.drop k) [10]
theorem Qzr{L:List (List UInt8)}{k:Nat}{l:List UInt8}(h:L[k]?=some l)(hk:k+1<L.length):fromL L k=l++10::fromL L (k+1):=by
 have d:L[k]=l:=by have:=ot (show k<L.length by omega);rw[h] at this;exact(Option.some.inj this).symm
 unfold fromL;have a:=xi hk;rw[xi om,d];generalize L[k+1]=y at a;generalize L.drop (k+1+1)=D at a;rw[a];simp[Lib.join,List.intercalate]
theorem Jbe{L:List (List UInt8)}{k:Nat}{l:List UInt8}(h:L[k]?=some l)(hk:k+1=L.length):fromL L k=l:=by
 have a:L[k]=l:=by have:=ot (show k<L.length by omega);rw[h] at this;exact(Option.some.inj this).symm
 unfold fromL;rw[xi om,a,yd om,Lib.join_one]
theorem Qvj(L:List (List UInt8)):∀ k,k<L.length->∃ p,Lib.join L [10]=p++fromL L k
 | 0,_=>⟨[],rfl⟩
 | k+1,hk=>by obtain⟨p,a⟩:=Qvj L k om;have h:L[k]?=some (L[k]' om):=ot om;exact⟨p++L[k]' om++[10],by rw[a,Qzr h hk];simp⟩
def rdK(L:List (List UInt8))(k:Nat):Q9:=⟨fromL L k,((Lib.join L [10]).length:Int) - (fromL L k).length,false⟩
theorem Qvk{L:List (List UInt8)}{k:Nat}(hk:k<L.length):(fromL L k).length<=(Lib.join L [10]).length:=by obtain⟨p,a⟩:=Qvj L k hk;rw[a];simp
theorem Qp2{L:List (List UInt8)}{k:Nat}{l:List UInt8}(d:(Lib.join L [10]).length<=1000000)(a:∀ b∈l,b.toNat≠10)(h:L[k]?=some l)(hk:k+1<L.length):
 Kx (rdK L k)=some (l,(rdK L k).at_,true,rdK L (k+1)):=by
 have e:=Qzr h hk;have f:=Qvk (L:=L) (k:=k) om;have i:=Qvk (L:=L) hk;have j:(fromL L k).length=l.length+1+(fromL L (k+1)).length:=by rw[e];simp;omega
 unfold Kx rdK;simp only[bifF];rw[Q69 10 om,sbind,e,Qxp (c:=(10:UInt8).toNat) (x:=10) rfl _ a,jn_eq];simp only[bifT,ow];rw[w64 (x:=_+(l.length:Int)) oh oh,w64 oh oh];congr 4;simp;omega
theorem Qvl{L:List (List UInt8)}{k:Nat}{l:List UInt8}(f:(Lib.join L [10]).length<=1000000)(a:∀ b∈l,b.toNat≠10)(h:L[k]?=some l)(hk:k+1=L.length):
 Kx (rdK L k)=some (l,(rdK L k).at_,true,⟨[],(Lib.join L [10]).length,true⟩):=by
 have e:=Jbe h hk;have d:=Qvk (L:=L) (k:=k) om;unfold Kx rdK;simp only[bifF];rw[Q69 10 om,sbind,e,Q2y (c:=(10:UInt8).toNat) a,jn_eq];simp only[bifF,xo];rw[e] at d;rw[w64 om om,Int.sub_add_cancel]
theorem Jdg{L:List (List UInt8)}{k:Nat}{r:Q9}(hk:k<L.length):Yx r (Lib.join L [10]) (rdK L k).at_=some (rdK L k):=by
 obtain⟨p,a⟩:=Qvj L k hk;have d:(Lib.join L [10]).length=p.length+(fromL L k).length:=by rw[a];simp
 unfold Yx rdK;simp only[];rw[show((Lib.join L [10]).length:Int) - (fromL L k).length=((p.length:Nat):Int) by omega,Qns om (ou _),yn,a,List.drop_left,sbind]
theorem Jdh(k:Int):Qaq (⟨0,0,0,0⟩:Qc) k=some ⟨0,0,0,0⟩:=by unfold Qaq;rw[jn_eq,Qdx,ow,bifF]
theorem Jfk{n:Nat}{c:Qa}{r:List Qa}{at_:Int}(a:big<=n)(d:numR c)(hr:∀ x∈r,numR x)(f:r.length<=8):
 Qeu n (figS (fv c)++124::rowS (rv r)) at_=some (c,r,⟨0,0,0,0⟩):=by
 have i:=(Qs2 (n:=n) a d).2;have j:=(Qh8 (n:=n) a f hr).2;unfold Qeu;rw[Q69 124 oh,sbind,Qxp (c:=(124:UInt8).toNat) (x:=124) rfl _ (λb e=>(Qxq b e).2)];simp only[];rw[Qwz a (Qv4 d.2),sbind,Qdx,ow,bifF,Q66 a (by rw[Xe];omega) (Qnv hr),sbind];simp only[];rw[Jdh,sbind,Q67 hr,<-d.1]
theorem Qs4{n:Nat}{R R':Q9}{x:UInt8}{r:List Qa}{at_:Int}(a:big<=n)(hr:∀ x∈r,numR x)(d:r.length<=8)(h:Kx R=some (x::32::rowS (rv r),at_,true,R')):
 W0 n R [x]=some (r,⟨0,0,0,0⟩,R'):=by
 have e:=(Qh8 (n:=n) a d hr).2;unfold W0;rw[h,sbind,W3 oc,sbind,Qrt _ _ oh];simp only[xd,xf,oo,xz,ui,List.take_zero,uv,vv,uf];rw[sbind,ow,bifF,Q66 a (by rw[Xe];omega) (Qnv hr),sbind];simp only[];rw[Jdh,sbind,Q67 hr]
theorem Qw0(l:List UInt8)(c:UInt8):Qba l [c]=some (l.contains c):=by unfold Qba;simp only[];rw[Lib.contains_iff_indexByte]
theorem Jhb{s:Ql}{i:Nat}(hi:i<s.A.length):(lnsS s)[1+i]?=some (lnA s i):=by unfold lnsS;rw[show 1+i=i+1 by omega,vw,yb oh,uo,List.getElem?_range hi];rfl
theorem Qo2{s:Ql}:(lnsS s)[1+s.A.length]?=some (lnB s):=by unfold lnsS lnsT;rw[show 1+s.A.length=s.A.length+1 by omega,vw,yy oc];simp
theorem Q7b{s:Ql}(h:s.E≠[]):(lnsS s)[1+s.A.length+1]?=some (lnE s):=by unfold lnsS lnsT;rw[show 1+s.A.length+1=s.A.length+1+1 by omega,vw,yy oc,oi h];simp
theorem Qvm(s:Ql):(lnsS s).length=s.A.length+2+(if s.E=[] then 0 else 1):=by unfold lnsS lnsT;simp only[oo,ov,xa,List.length_range];split<;>simp
theorem Jdi{n:Nat}{s:Ql}(u:big<=n)(h:SchF s):
 Yc n (rdK (lnsS s) 1) (schS s) s.As ([]:List Qa) ([]:List (List Qa)) [] []=some (⟨0,0,0,0⟩,rdK (lnsS s) (1+s.A.length),s.As,[],[],s.C,s.A):=by
 unfold Yc;have g1:=h.cl;have E:=h.al;have g3:=h.bl;have q:=Q68 h;have j:(Lib.join (lnsS s) [10]).length<=1000000:=by show(schS s).length<=_;omega
 have hcount:=Qvm s;have f:=Jdf h;refine Qvc (λi=>(rdK (lnsS s) (1+i),s.C.take i,s.A.take i)) s.A.length 0 n ?_ ?_ (xj (by unfold big;omega) u);intro i hi;rw[xr];obtain⟨c,r,x,hr,A,B,F,v,G⟩:=Qru h hi;have d:=Jhb hi;have e:=Qp2 j (f _ (Q3 d)) d om;simp only[];rw[e,sbind];simp only[];rw[ow,bifF,Qw0,sbind];have a:(lnA s i).contains 124=true:=by rw[v,List.contains_eq_mem];exact oq (yt _ (.head _))
 rw[a,ow,bifF,v,Jfk u A B om,sbind];simp only[];rw[Qdx,ow,bifF,Jk oh oh,sbind,Jk oh oh,sbind];have C:s.C.take (i+1)=s.C.take i++[c]:=by have:=Zv id x;simpa using this
 have t2:s.A.take (i+1)=s.A.take i++[r]:=by have:=Zv id hr;simpa using this
 rw[C,t2];rfl;rw[xr];have d:=Qo2 (s:=s);have e:∃ R,Kx (rdK (lnsS s) (1+s.A.length))=some (lnB s,(rdK (lnsS s) (1+s.A.length)).at_,true,R):=by
  by_cases l:s.E=[]
  exact⟨_,Qvl j (f _ (Q3 d)) d (by rw[hcount,oj l];omega)⟩;exact⟨_,Qp2 j (f _ (Q3 d)) d (by rw[hcount,oi l];omega)⟩
 obtain⟨R,w⟩:=e;simp only[];rw[w,sbind];simp only[];have a:(lnB s).contains 124=false:=by rw[List.contains_eq_mem,ol];intro m;exact Jj6 124 m rfl
 rw[ow,bifF,Qw0,sbind,a,xo,bifT,show schS s=Lib.join (lnsS s) [10] from rfl,Jdg (by rw[hcount];omega),sbind];rw[show s.C.take s.A.length=s.C by rw[xb om],yn]
theorem Q7c{n k:Nat}{s:Ql}(m:big<=n)(C:1<=k)(hk:k<1048576)(hs:SchW k s)(hr:schR s)(A:s.As.length<=60)(F:(schS s).length<=4000):
 Qcm n (schS s)=some (s,⟨0,0,0,0⟩):=by
 have h:=Q1k hr A;have v:(Lib.join (lnsS s) [10]).length<=1000000:=by show(schS s).length<=_;omega
 have hcount:=Qvm s;have f:=Jdf h;obtain⟨w,E,l⟩:=Qng m C hk hs;have l:=l.2 hr;subst l;unfold Qcm;rw[ol om,bifF];have hread:Qf7 n (schS s)=some (s,⟨0,0,0,0⟩):=by
  unfold Qf7;have B:(⟨schS s,0,false⟩:Q9)=rdK (lnsS s) 0:=by
   unfold rdK fromL;rw[vv];show _=(⟨schS s,((schS s).length:Int) - ((schS s).length:Int),false⟩:Q9)
   rw[Int.sub_self]
  have q:(lnsS s)[0]?=some s.As:=rfl;rw[B,Qp2 v (f _ (Q3 q)) q om,sbind];simp only[];rw[Ql6 (w:=⟨2,s.As,0⟩) m (by show s.As.length<=_;omega),sbind];simp only[];rw[hr.1,ow,bifF,Jdi m h,sbind];simp only[];rw[Qdx,ow,bifF];by_cases i:s.E=[]
  have j:=Qvl v (f _ (Q3 Qo2)) Qo2 (by rw[hcount,oj i];omega);rw[Qs4 (x:=98) (r:=s.B) m h.bn h.bl j,sbind,jn_eq];simp only[];rw[Qdx,ow,bifF,bifT];obtain⟨a,b,c,d,e⟩:=s;simp only[] at i;subst i;rfl;have j:=Qp2 v (f _ (Q3 Qo2)) Qo2 (by rw[hcount,oi i];omega);have u:=Qvl v (f _ (Q3 (Q7b i))) (Q7b i) (by rw[hcount,oi i];omega);rw[Qs4 (x:=98) (r:=s.B) m h.bn h.bl j,sbind,jn_eq];simp only[];rw[Qdx,ow,bifF,show(rdK (lnsS s) (1+s.A.length+1)).over=false from rfl,bifF,Qs4 (x:=101) (r:=s.E) m h.en h.el u,sbind,jn_eq];simp only[];rw[Qdx,ow,bifF,bifT]
 rw[hread,sbind];simp only[];rw[Qdx,ow,bifF,E,sbind,oq rfl,ow,bifF]
theorem Qvn:∀ {a:List Nat},(trimZ a).length=a.length↔trimZ a=a
 | []=>by simp[trimZ]
 | x::a=>by have:=W8 a;simp only[trimZ];split;simp;simp only[oo,Nat.add_right_cancel_iff,List.cons.injEq,true_and];exact Qvn
def numOk(N:List Nat):Bool:=decide (trimZ N=N) && decide ((dec (val N)).length<=60)
def nodeOk(x:Qd)(d p l:Int):Bool:=
 if x.Op=1 then decide (x.I=0) && numOk x.N
 else if 0<x.N.length then false
 else if x.Op=3 then decide (0<=x.I/\x.I<d)
 else if x.Op=4 then decide (0<=x.I/\x.I<p)
 else if x.Op=5 then decide (0<=x.I/\x.I<l)
 else if x.Op=11 then decide (-8<=x.I/\x.I<=8)
 else decide (x.I=0) && decide (0<=ar x.Op)
theorem Qwj{n:Nat}{N:List Nat}(a:big<=n)(d:N.length<=1000000000)(e:Wd N):Qe3 n N=some (numOk N):=by unfold Qe3 numOk;rw[jn_eq,Vp a om,sbind,bifd];unfold Qk5;rw[Qc0 a d e,sbind,sbind];by_cases h:trimZ N=N;rw[oj (by rw[h]),oq h,Bool.true_and];simp;omega;rw[oi (λf=>h (Qvn.1 om)),ol h,Bool.false_and]
theorem Qxr(i m:Int):Qbq i m=some (decide (0<=i/\i<m)):=by unfold Qbq;simp only[jn_eq,bifd];grind
theorem Qzs{n:Nat}{x:Qd}{d p l:Int}(r:big<=n)(q:x.N.length<=1000000000)(s:Wd x.N):Qhz n x d p l=some (nodeOk x d p l):=by unfold Qhz nodeOk;simp only[jn_eq,Qwj r q s,Qxr,Y6,sbind,bifd,bifnd];by_cases j:x.Op=1;simp only[oj j,bifF];by_cases m:x.I=0;simp[m];simp[m];simp only[oi j];by_cases h0:0<x.N.length;rw[oj om,oj h0];rw[oi om,oi h0];by_cases a:x.Op=3;rw[oj a,oj a];rw[oi a,oi a];by_cases e:x.Op=4;rw[oj e,oj e];rw[oi e,oi e];by_cases f:x.Op=5;rw[oj f,oj f];rw[oi f,oi f];by_cases i:x.Op=11;rw[oj i,oj i];grind;rw[oi i,oi i];grind
def plG(d p l w:Int)(i:Nat)(x:Qd)(_:Unit):Unit ⊕ Int:=if (i:Int)=w\/nodeOk x d p l=false then .inr (i:Int) else .inl ()
def placeT(c:List Qd)(d p l:Int):Int:=runG (plG d p l (wrongT c)) (λ_=>wrongT c) c 0 ()
def NB(x:Qd):Prop:=x.N.length<=100000/\Wd x.N
theorem Qxs{n:Nat}{c:List Qd}{d p l:Int}(f:big<=n)(q:c.length<=1000000000)(e:∀ x∈c,NB x):Qgf n c d p l=some (placeT c d p l):=by unfold Qgf placeT;rw[Qpx om,sbind];refine Qnp (plG d p l (wrongT c)) _ (λ_ _=>True) c (λi x _ j _=>⟨?_,λ_ _=>trivial⟩) trivial (λ_ _=>rfl);obtain⟨m,a⟩:=e x (Q3 j);simp only[jn_eq,Qzs (d:=d) (p:=p) (l:=l) f (show x.N.length<=1000000000 by omega) a,sbind,bifd,plG];by_cases h:(i:Int)=wrongT c;simp[h,toLq];cases nodeOk x d p l<;>simp[h,toLq]
def nameOk(s:List UInt8):Bool:=wdB 2 s && (decide (s≠[116]) && (decide (s≠[121]) && (decide (s≠[112]) && decide (s≠[108,101,116]))))
theorem Qzt{n:Nat}{s:List UInt8}(i:big<=n)(hs:s.length<=4611686018427387904):Qhy n s=some (nameOk s):=by
 unfold Qhy nameOk;simp only[jn_eq,bifd,Ql6 (w:=⟨2,s,0⟩) i hs,sbind];by_cases a:s=[116]
 simp[a];by_cases d:s=[121]
 simp[d];by_cases e:s=[112]
 simp[e];by_cases f:s=[108,101,116]
 simp[f];simp[a,d,e,f]
def twiceT(L:List Qy)(i:Nat):Bool:=(L.take i).any (λl=>decide (some l.As=L[i]?.map (·.As)))
theorem Qxt{n:Nat}{L:List Qy}{i:Nat}(s:big<=n)(hi:i<L.length)(u:L.length<=1000000000):Qgd n L (i:Int)=some (twiceT L i):=by
 unfold Qgd twiceT;unfold big at s;have m:L[i]?=some L[i]:=ot hi;have e:((L.take i).any (λl=>decide (some l.As=L[i]?.map (·.As))))=runG (τ:=Bool) (λ_ (l:Qy) (_:Unit)=>if l.As=(L[i]).As then .inr true else .inl ()) (λ_=>false) (L.take i) 0 ():=by
  have:∀(l:List Qy) (k:Nat),l.any (λl=>decide (some l.As=L[i]?.map (·.As)))=runG (τ:=Bool) (λ_ (l:Qy) (_:Unit)=>if l.As=(L[i]).As then .inr true else .inl ()) (λ_=>false) l k ():=by
   intro l
   induction l with
   | nil=>intro k;rfl
   | cons x l q=>
     intro k;rw[m] at q |-;simp only[dm,runG,Option.map_some,Option.some.injEq];by_cases h:x.As=(L[i]).As;simp[h];simp only[ol h,oi h,Bool.false_or];have:=q (k+1)
     simpa using this
  exact this _ 0
 rw[e];refine Q6i (λ_ j=>(j:Int)) (λ_ (l:Qy) (_:Unit)=>if l.As=(L[i]).As then .inr true else .inl ()) (λ_=>()) _ (λ_ _=>True) (L.take i) () (λj x b a _=>⟨?_,λ_ _=>trivial⟩) (λb _=>by rw[bifd,oi oh]) (λb _=>rfl) trivial oh;have r:=Jg a;have d:j<i:=by simp at r;omega
 have f:L[j]?=some x:=by rw[uz] at a;rw[oj d] at a;exact a
 simp only[bifd,oj (show(j:Int)<(i:Int) by omega),Wc f,Wc m,sbind,w1 (show j<9223372036854775807 by omega)];by_cases h:x.As=(L[i]).As;rw[oj h,oj h];rfl;rw[oi h,oi h];rfl
def partT(c:List Qd)(num d p l:Int):Qc:=
 if 0<=placeT c d p l then ⟨2,num,0,placeT c d p l⟩ else if 40<depthT c then ⟨2,num,0,(c.length:Int)⟩ else ⟨0,0,0,0⟩
theorem Qp3{n:Nat}{c:List Qd}{num d p l:Int}(e:big<=n)(a:c.length<=1000000000)(f:∀ x∈c,NB x):Qe4 n c num d p l=some (partT c num d p l):=by unfold Qe4 partT;rw[Qxs e a f,sbind];simp only[jn_eq,Qzg e a,sbind,bifd];grind
def wholeT(f:Qt)(d p:Int):Bool:=decide (1<=d/\d<=6/\0<=p/\p<=6/\(f.Ar.length:Int)=d/\f.Aq.length<=10/\sizeT f<=300)
theorem Qxu{f:Qt}{d p:Int}(h:FB f):Qgc f d p=some (wholeT f d p):=by unfold Qgc wholeT;simp only[jn_eq,Q1d h,sbind,bifd];grind
def f0:Qc:=⟨0,0,0,0⟩
theorem Qit(x y:Qc):Qr x y=true↔x=y:=by cases x;cases y;simp[Qr]
theorem Q9z(x y:Qc)[Decidable (x=y)]:Qr x y=decide (x=y):=by rw[dn,Qit,xv]
instance:DecidableEq Qc:=λx y=>if h:Qr x y=true then isTrue ((Qit x y).1 h) else isFalse (λe=>h ((Qit x y).2 e))
theorem Qs5(c num d p l):partT c num d p l=f0↔placeT c d p l<0/\depthT c<=40:=by unfold partT f0;by_cases h:0<=placeT c d p l;rw[oj h];simp;omega;rw[oi h];by_cases a:40<depthT c;rw[oj a];simp;omega;rw[oi a];simp;omega
def letG(L:List Qy)(d p:Int)(i:Nat)(l:Qy)(_:Unit):Unit ⊕ Qc:=
 if nameOk l.As=false\/twiceT L i=true then .inr ⟨2,(i:Int)+1,1,0⟩ else if partT l.Code ((i:Int)+1) d p i=f0 then .inl () else .inr (partT l.Code ((i:Int)+1) d p i)
def outG(k:Nat)(d p:Int)(i:Nat)(c:List Qd)(_:Unit):Unit ⊕ Qc:=
 if partT c ((k:Int)+i+1) d p k=f0 then .inl () else .inr (partT c ((k:Int)+i+1) d p k)
def outsT(f:Qt)(d p:Int):Qc:=runG (outG f.Aq.length d p) (λ_=>f0) f.Ar 0 ()
def checkT(f:Qt)(d p:Int):Qc:=
 if wholeT f d p=false then ⟨2,0,0,0⟩ else runG (letG f.Aq d p) (λ_=>outsT f d p) f.Aq 0 ()
theorem Jdj{f:Qt}(h:FB f){l:Qy}(a:l∈f.Aq):l.Code.length<=1000000000/\∀ x∈l.Code,NB x:=by have:=h.2.2 l.Code (uy _ (uj a));exact⟨om,this.2⟩
theorem Jdk{f:Qt}(h:FB f){c:List Qd}(a:c∈f.Ar):c.length<=1000000000/\∀ x∈c,NB x:=by have:=h.2.2 c (yt _ a);exact⟨om,this.2⟩
theorem Qj8{n:Nat}{f:Qt}{d p:Int}(m:big<=n)(h:FB f)(hs:∀ l∈f.Aq,l.As.length<=4611686018427387904):Qc9 n f d p=some (checkT f d p):=by
 unfold Qc9 checkT;rw[Qxu h,sbind];cases wholeT f d p with
 | false=>rfl
 | true=>
   simp only[ow,bifF,Bool.true_eq_false,if_false];have r:=h.1;have s:=h.2.1;refine Qnp (letG f.Aq d p) _ (λ_ _=>True) f.Aq (λi l _ j _=>⟨?_,λ_ _=>trivial⟩) trivial (λ_ _=>?_);have hi:=Jg j;obtain⟨g1,q⟩:=Jdj h (Q3 j);simp only[jn_eq,Qzt m (hs l (Q3 j)),Qxt (L:=f.Aq) m hi om,sbind,w64 (show -9223372036854775808<=(i:Int)+1 by omega) (show(i:Int)+1<=9223372036854775807 by omega),Qp3 (num:=(i:Int)+1) (d:=d) (p:=p) (l:=(i:Int)) m g1 q,Q9z,letG];cases nameOk l.As with
   | false=>simp[toLq]
   | true=>
     cases twiceT f.Aq i with
     | true=>simp[toLq]
     | false=>
       by_cases e:partT l.Code ((i:Int)+1) d p i=f0;have a:partT l.Code ((i:Int)+1) d p i=(⟨0,0,0,0⟩:Qc):=e;simp[e,a,toLq,f0];have a:¬ partT l.Code ((i:Int)+1) d p i=(⟨0,0,0,0⟩:Qc):=e;simp[e,a,toLq]
   unfold outsT;refine Qnp (outG f.Aq.length d p) _ (λ_ _=>True) f.Ar (λi c _ j _=>⟨?_,λ_ _=>trivial⟩) trivial (λ_ _=>rfl);have hi:=Jg j;obtain⟨g1,q⟩:=Jdk h (Q3 j);rw[w64 (x:=(f.Aq.length:Int)+i) om om,w64 om om,Qp3 m g1 q,sbind,Q9z];unfold outG;by_cases e:partT c ((f.Aq.length:Int)+i+1) d p f.Aq.length=f0;have a:partT c ((f.Aq.length:Int)+i+1) d p f.Aq.length=(⟨0,0,0,0⟩:Qc):=e;simp[e,a,toLq,f0];have a:¬ partT c ((f.Aq.length:Int)+i+1) d p f.Aq.length=(⟨0,0,0,0⟩:Qc):=e;simp[e,a,toLq]
theorem Q8z{α β τ:Type}{g a:Nat->α->β->β ⊕ τ}{e f:β->τ}:∀ {xs:List α}{i:Nat}{b:β},(∀ j x b,xs[j]?=some x->g (i+j) x b=a (i+j) x b)->(∀ b,e b=f b)->runG g e xs i b=runG a f xs i b
 | [],_,b,_,d=>d b
 | x::xs,i,b,h,d=>by
   have h0:=h 0 x b rfl;rw[xp] at h0;simp only[runG,h0];cases a i x b with
   | inl m=>exact Q8z (λj y c l=>by have:=h (j+1) y c (by simpa using l);rwa [show i+(j+1)=i+1+j by omega] at this) d
   | inr t=>rfl
theorem Qvo{α τ:Type}{g:Nat->α->Unit->Unit ⊕ τ}{e:Unit->τ}{v:τ}:∀ {xs:List α}{k:Nat},(∀ j x t,xs[j]?=some x->g (k+j) x ()=.inr t->t≠v) ->
 (runG g e xs k ()=v↔(∀ j x,xs[j]?=some x->g (k+j) x ()=.inl ())/\e ()=v)
 | [],k,_=>by simp[runG]
 | x::xs,k,h=>by
   simp only[runG];have h0:=h 0 x;rw[xp] at h0;cases i:g k x () with
   | inl b=>
     simp only[];rw[Qvo (xs:=xs) (k:=k+1) (λj y t a l=>h (j+1) y t (by simpa using a) (by rw[show k+(j+1)=k+1+j by omega];exact l))];constructor;rintro⟨d,f⟩;refine⟨λj y a=>?_,f⟩;cases j with
     | zero=>simp at a;subst a;rw[xp,i]
     | succ j=>have:=d j y (by simpa using a);rwa [show k+(j+1)=k+1+j by omega]
     rintro⟨d,f⟩;refine⟨λj y a=>?_,f⟩;have:=d (j+1) y (by simpa using a);rwa [show k+(j+1)=k+1+j by omega] at this
   | inr t=>
     simp only[];constructor;intro l;exact absurd l (h0 t rfl i);rintro⟨d,_⟩;have:=d 0 x rfl;rw[xp,i] at this;cases this
theorem Jhc(l):(cL l).As=l.As:=yw (yw rfl)
theorem Jdl:maxLen<=9223372036854775807:=oy
theorem FB_of{f:Jr}{a b c:Nat}(A:Qak f)(F:a<=1000)(G:b<=100000)(H:c<=100000)
 (h:f.Aq.length<=a/\f.Ar.length<=a/\(∀ l∈f.Aq,l.As.length<=100)/\∀ x∈f.Aq.map (·.Code)++f.Ar,x.length<=b/\∀ y∈x,y.N.length<=c):FB (cF f)/\∀ l∈(cF f).Aq,l.As.length<=4611686018427387904:=by
 obtain⟨⟨_,r⟩,⟨_,s⟩,_⟩:=A;obtain⟨C,E,u,w⟩:=h;refine⟨⟨by simp[cF];omega,by simp[cF];omega,λx j=>?_⟩,λl e=>?_⟩;rw[Qsx] at j;obtain⟨y,q,rfl⟩:=xy.1 j;obtain⟨k1,k2⟩:=w y q;refine⟨oh,λz B=>?_⟩;obtain⟨v,i,rfl⟩:=xy.1 B;rw[cN_N];refine⟨by have:=k2 v i;omega,?_⟩;rcases xk.1 q with d | d;obtain⟨l,e,rfl⟩:=xy.1 d;exact((r l e).2.1.2 v i).2.2.1.2;exact((s y d).2 v i).2.2.1.2;simp only[cF,xy] at e;obtain⟨m,d,rfl⟩:=e;rw[Jhc];have:=u m d;omega
theorem Qs6{c:List Qd}{d p l:Int}:placeT c d p l<0↔wrongT c<0/\∀ x∈c,nodeOk x d p l=true:=by
 unfold placeT;have key:∀(ys:List Qd) (k:Nat),(runG (plG d p l (wrongT c)) (λ_=>wrongT c) ys k ()<0↔wrongT c<0/\∀ x∈ys,nodeOk x d p l=true):=by
  intro ys
  induction ys with
  | nil=>intro k;simp[runG]
  | cons y ys i=>
    intro k;simp only[runG,plG];by_cases h:(k:Int)=wrongT c\/nodeOk y d p l=false;rw[oj h];constructor;intro a;have:(k:Int)<0:=a;omega;rintro⟨j,e⟩;rcases h with h | h;omega;rw[e y (.head _)] at h;cases h;rw[oi h];simp only[not_or] at h;have:=i (k+1);show runG _ _ _ _ _<0↔_;rw[this];simp only[xc,forall_eq_or_imp];have f:nodeOk y d p l=true:=by simpa using h.2
    simp[f]
 exact key c 0
theorem Qqy{x:Qd}{d p l a f:Int}(hd:d<=a)(i:p<=f)(h:nodeOk x d p l=true):nodeOk x a f l=true:=by unfold nodeOk at *;by_cases e:x.Op=1;rw[oj e] at h |-;exact h;rw[oi e] at h |-;by_cases h0:0<x.N.length;rw[oj h0] at h;cases h;rw[oi h0] at h |-;grind
theorem Qzu{c:List Qd}{n j d p l a e:Int}(hd:d<=a)(f:p<=e)(h:partT c n d p l=f0):partT c j a e l=f0:=by rw[Qs5] at h |-;rw[Qs6] at h |-;exact⟨⟨h.1.1,λx i=>Qqy hd f (h.1.2 x i)⟩,h.2⟩
theorem Qa7{f d p}:checkT f d p=f0↔wholeT f d p=true/\(∀(i:Nat) l,f.Aq[i]?=some l->nameOk l.As=true/\twiceT f.Aq i=false/\partT l.Code ((i:Int)+1) d p i=f0)/\∀(i:Nat) c,f.Ar[i]?=some c->partT c ((f.Aq.length:Int)+i+1) d p f.Aq.length=f0:=by
 unfold checkT;cases w:wholeT f d p with
 | false=>simp[f0]
 | true=>
   simp only[Bool.true_eq_false,if_false,true_and];rw[Qvo (v:=f0)];refine and_congr ?_ ?_;refine forall_congr' λj=>forall_congr' λl=>imp_congr_right λu=>?_;rw[xr];unfold letG;by_cases h:nameOk l.As=false\/twiceT f.Aq j=true;rw[oj h];constructor;intro m;cases m;rintro⟨q,r,_⟩;rcases h with h | h;rw[q] at h;cases h;rw[r] at h;cases h;rw[oi h];simp only[not_or] at h;by_cases e:partT l.Code ((j:Int)+1) d p j=f0;rw[oj e];simp[e];exact⟨by simpa using h.1,by simpa using h.2⟩;rw[oi e];simp[e];unfold outsT;rw[Qvo (v:=f0)];simp only[and_true];refine forall_congr' λj=>forall_congr' λc=>imp_congr_right λs=>?_;rw[xr];unfold outG;by_cases e:partT c ((f.Aq.length:Int)+j+1) d p f.Aq.length=f0;rw[oj e];simp[e];rw[oi e];simp[e];intro j c t _ a;unfold outG at a;split at a;cases a;rename_i h;cases a;exact h;intro j l t _ a;unfold letG at a;split at a;cases a;simp[f0];split at a;cases a;rename_i h;cases a;exact h
theorem Jbf{f:Qt}{d p a:Int}(e:p<=a)(r:a<=6)(h:checkT f d p=f0):checkT f d a=f0:=by rw[Qa7] at h |-;obtain⟨s,j,m⟩:=h;refine⟨?_,λi l hi=>?_,λi c q=>Qzu (gr _) e (m i c q)⟩;simp only[wholeT,xv] at s |-;omega;obtain⟨k1,k2,u⟩:=j i l hi;exact⟨k1,k2,Qzu (gr _) e u⟩
inductive Ex where
 | lf (x:Qd)
 | un (x:Qd) (a:Ex)
 | bi (x:Qd) (a b:Ex)
def rtE:Ex->Qd
 | .lf x=>x
 | .un x _=>x
 | .bi x _ _=>x
def fl:Ex->List Qd
 | .lf x=>[x]
 | .un x a=>fl a++[x]
 | .bi x a b=>fl a++(fl b++[x])
def wf:Ex->Prop
 | .lf x=>ar x.Op=0
 | .un x a=>ar x.Op=1/\wf a
 | .bi x a b=>ar x.Op=2/\wf a/\wf b
def dep:Ex->Int
 | .lf _=>1
 | .un _ a=>max 0 (dep a)+1
 | .bi _ a b=>max (max 0 (dep b)) (dep a)+1
theorem Jdm(e:Ex):0<(fl e).length:=by cases e<;>simp[fl]<;>omega
theorem Q1l(e:Ex):1<=dep e:=by cases e<;>simp only[dep]<;>omega
def flS:List Ex->List Qd
 | []=>[]
 | e::s=>flS s++fl e
theorem Qs7{L:Int}(q:0<=L):∀(ys:List Qd) (i:Nat) (d:List Ex),(∀ e∈d,wf e)->runG wrG (λo=>if o=1 then -1 else L) ys i (d.length:Int)<0->∃ e,wf e/\fl e=flS d++ys
 | [],i,d,l,h=>by
   simp only[runG] at h;by_cases j:(d.length:Int)=1
   match d,j with
   | [e],_=>exact⟨e,l e (.head _),by simp[flS]⟩
   rw[oi j] at h;omega
 | y::ys,i,d,l,h=>by
   simp only[runG,wrG] at h;by_cases m:ar y.Op<0\/(d.length:Int)<ar y.Op;rw[oj m] at h;simp only[] at h;omega;rw[oi m] at h;simp only[] at h;rcases Ql4 y.Op with j | j | j | j;obtain⟨e,f,hf⟩:=Qs7 q ys (i+1) (.lf y::d) (λe f=>by rcases xc.1 f with rfl | f;exact j;exact l e f) (by rw[oo];rw[j] at h;rw[show((d.length+1:Nat):Int)=(d.length:Int)+1 - 0 by omega];exact h);exact⟨e,f,by rw[hf];simp[flS,fl]⟩
   match d,l,m,h with
   | [],_,m,_=>simp at m;omega
   | a::d,l,_,h=>
     obtain⟨e,f,hf⟩:=Qs7 q ys (i+1) (.un y a::d) (λe f=>by rcases xc.1 f with rfl | f;exact⟨j,l a (.head _)⟩;exact l e (.tail _ f)) (by rw[oo] at h |-;rw[j] at h;rw[show((d.length+1:Nat):Int)=((d.length+1:Nat):Int)+1 - 1 by omega];exact h);exact⟨e,f,by rw[hf];simp[flS,fl]⟩
   match d,l,m,h with
   | [],_,m,_=>simp at m;omega
   | [_],_,m,_=>simp at m;omega
   | b::a::d,l,_,h=>
     obtain⟨e,f,hf⟩:=Qs7 q ys (i+1) (.bi y a b::d) (λe f=>by rcases xc.1 f with rfl | f;exact⟨j,l a (.tail _ (.head _)),l b (.head _)⟩;exact l e (.tail _ (.tail _ f))) (by rw[oo,oo] at h;rw[oo];rw[j] at h;rw[show((d.length+1:Nat):Int)=((d.length+1+1:Nat):Int)+1 - 2 by omega];exact h);exact⟨e,f,by rw[hf];simp[flS,fl]⟩
   omega
theorem Q90{c:List Qd}(h:wrongT c<0):∃ e,wf e/\fl e=c:=by obtain⟨e,a,hf⟩:=Qs7 (L:=(c.length:Int)) om c 0 [] (λe a=>by cases a) h;exact⟨e,a,by rw[hf];rfl⟩
theorem wr_fl{E:Int->Int}:∀(e:Ex),wf e->∀(ys:List Qd) (i:Nat) (o:Int),0<=o->∃ j,runG wrG E (fl e++ys) i o=runG wrG E ys j (o+1)
 | .lf x,h,ys,i,o,d=>⟨i+1,by
  unfold wf at h
  simp only[fl,xd,xf,runG,wrG];rw[oi om,h];simp⟩
 | .un x a,h,ys,i,o,d=>by unfold wf at h;obtain⟨j,f⟩:=wr_fl a h.2 ([x]++ys) i o d;refine⟨j+1,?_⟩;simp only[fl,xx];rw[f];simp only[xd,xf,runG,wrG];rw[oi om,h.1];simp
 | .bi x a b,h,ys,i,o,d=>by unfold wf at h;obtain⟨j,f⟩:=wr_fl a h.2.1 (fl b++([x]++ys)) i o d;obtain⟨k,hk⟩:=wr_fl b h.2.2 ([x]++ys) j (o+1) om;refine⟨k+1,?_⟩;simp only[fl,xx];rw[f,hk];simp only[xd,xf,runG,wrG];rw[oi om,h.1,show o+1+1+1 - 2=o+1 by omega]
theorem Jfl{e:Ex}(h:wf e):wrongT (fl e)=-1:=by unfold wrongT;obtain⟨j,a⟩:=wr_fl (E:=λo=>if o=1 then -1 else ((fl e).length:Int)) e h [] 0 0 om;rw[yv] at a;rw[a];rfl
theorem Qzv:∀(e:Ex),wf e->∀(c:List Qd) (k:Nat),(∀ j,j<(fl e).length->c[k+j]?=(fl e)[j]?)->stk c (k+(fl e).length)=(dep e,k)::stk c k
 | .lf x,h,c,k,d=>by unfold wf at h;have h0:=d 0 (Jdm _);simp only[fl,oo,xz] at h0 |-;rw[Qfz (by rw[show k=k+0 from rfl,h0];rfl)];unfold stk1;rw[oi om,oi om];rfl
 | .un x a,h,c,k,d=>by unfold wf at h;have i:=Qzv a h.2 c k (λj f=>by rw[d j (by simp[fl];omega)];simp only[fl];rw[yb f]);have h0:=d (fl a).length (by simp[fl]);simp only[fl,ov,oo,xz] at h0 |-;rw[show k+((fl a).length+(0+1))=k+(fl a).length+1 by omega,Qfz (x:=x) (by rw[h0];simp),i];unfold stk1;rw[oj h.1];rfl
 | .bi x a b,h,c,k,d=>by
  unfold wf at h;have i:=Qzv a h.2.1 c k (λj f=>by rw[d j (by simp[fl];omega)];simp only[fl];rw[yb f])
  have l:=Qzv b h.2.2 c (k+(fl a).length) (λj f=>by rw[wt,d ((fl a).length+j) (by simp[fl];omega)];simp only[fl];rw[yy om,wu,yb f])
  have h0:=d ((fl a).length+(fl b).length) (by simp[fl]);simp only[fl,ov,oo,xz] at h0 |-;rw[show k+((fl a).length+((fl b).length+(0+1)))=k+(fl a).length+(fl b).length+1 by omega,Qfz (x:=x) (by rw[wt,h0];simp),l,i];unfold stk1;rw[oi om,oj h.1];rfl
theorem Jfm{e:Ex}(h:wf e):depthT (fl e)=dep e:=by unfold depthT;have:=Qzv e h (fl e) 0 (λj _=>by rw[xr]);rw[xr] at this;rw[Jfl h,oj om,this];rfl
def rkI(op:Int):Int:=if op=7\/op=8 then 1 else if op=9\/op=10 then 2 else if op=6 then 3 else if op=11 then 4 else 5
def inB(s:List UInt8)(r least:Int):List UInt8:=if r<least then [40]++s++[41] else s
def sgS(op:Int):List UInt8:=if op=7 then [43] else if op=8 then [45] else if op=9 then [42] else [47]
def lfS(Nm:List (List UInt8))(x:Qd):List UInt8:=
 if x.Op=1 then dec (val x.N) else if x.Op=3 then [121,91]++Lib.itoa x.I++[93] else if x.Op=4 then [112,91]++Lib.itoa x.I++[93] else if x.Op=5 then Nm.getD x.I.toNat [] else [116]
def wrS(Nm:List (List UInt8)):Ex->List UInt8
 | .lf x=>lfS Nm x
 | .un x a=>if x.Op=6 then [45]++inB (wrS Nm a) (rkI (rtE a).Op) 3 else inB (wrS Nm a) (rkI (rtE a).Op) 5++[94]++Lib.itoa x.I
 | .bi x a b=>inB (wrS Nm a) (rkI (rtE a).Op) (rkI x.Op)++([32]++sgS x.Op++[32])++inB (wrS Nm b) (rkI (rtE b).Op) (rkI x.Op+1)
theorem Ql7(op:Int):Qgw op=some (rkI op):=by unfold Qgw rkI;simp only[jn_eq,bifd];grind
theorem Q7d(op:Int):1<=rkI op/\rkI op<=5:=by unfold rkI;grind
def okE(l:Int)(e:Ex):Prop:=wf e/\∀ x∈fl e,nodeOk x 6 6 l=true/\NB x
theorem Qo3{l x a}(h:okE l (.un x a)):ar x.Op=1/\okE l a/\nodeOk x 6 6 l=true/\NB x:=by obtain⟨d,e⟩:=h;unfold wf at d;exact⟨d.1,⟨d.2,λy f=>e y (by simp[fl,f])⟩,e x (by simp[fl])⟩
theorem Qo4{l x a b}(h:okE l (.bi x a b)):ar x.Op=2/\okE l a/\okE l b/\nodeOk x 6 6 l=true/\NB x:=by obtain⟨d,e⟩:=h;unfold wf at d;exact⟨d.1,⟨d.2.1,λy f=>e y (by simp[fl,f])⟩,⟨d.2.2,λy f=>e y (by simp[fl,f])⟩,e x (by simp[fl])⟩
theorem Qdh(s r least):(inB s r least).length<=s.length+2:=by unfold inB;split<;>simp
theorem Qb9{x:Int}(a:-8<=x)(d:x<=8):(Lib.itoa x).length<=2:=by
 by_cases h:x<0;rw[Q2v h,Qf0 om];simp;obtain⟨k,rfl⟩:∃ k:Nat,x=k:=⟨x.toNat,om⟩
 rw[Q63,Qf0 om];simp
theorem Q1m(op):(sgS op).length=1:=by unfold sgS;(repeat' split)<;>rfl
theorem ar0{op:Int}(h:ar op=0):op=1\/op=2\/op=3\/op=4\/op=5:=by unfold ar at h;grind
theorem ar1{op:Int}(h:ar op=1):op=6\/op=11:=by unfold ar at h;grind
theorem ar2{op:Int}(h:ar op=2):op=7\/op=8\/op=9\/op=10:=by unfold ar at h;grind
theorem lf_ok{l:Int}{x:Qd}(h0:ar x.Op=0)(h:nodeOk x 6 6 l=true):
 (x.Op=1/\x.I=0/\trimZ x.N=x.N/\(dec (val x.N)).length<=60)\/(x.Op=2/\x.I=0/\x.N=[])\/(x.Op=3/\0<=x.I/\x.I<6/\x.N=[])\/(x.Op=4/\0<=x.I/\x.I<6/\x.N=[])\/(x.Op=5/\0<=x.I/\x.I<l/\x.N=[]):=by
 have d:¬ 0<x.N.length->x.N=[]:=λh=>List.length_eq_zero_iff.1 om;unfold nodeOk numOk at h;rcases ar0 h0 with e | e | e | e | e;rw[oj e] at h;simp only[ya,xv] at h;exact .inl ⟨e,h.1,h.2.1,h.2.2⟩;rw[oi om] at h;by_cases a:0<x.N.length;rw[oj a] at h;cases h;rw[oi a] at h;rw[oi om,oi om,oi om,oi om] at h;simp only[ya,xv] at h;exact .inr (.inl ⟨e,h.1,d a⟩);rw[oi om] at h;by_cases a:0<x.N.length;rw[oj a] at h;cases h;rw[oi a] at h;rw[oj om] at h;simp only[xv] at h;exact .inr (.inr (.inl ⟨e,h.1,h.2,d a⟩));rw[oi om] at h;by_cases a:0<x.N.length;rw[oj a] at h;cases h;rw[oi a] at h;rw[oi om,oj om] at h;simp only[xv] at h;exact .inr (.inr (.inr (.inl ⟨e,h.1,h.2,d a⟩)));rw[oi om] at h;by_cases a:0<x.N.length;rw[oj a] at h;cases h;rw[oi a] at h;rw[oi om,oi om,oj om] at h;simp only[xv] at h;exact .inr (.inr (.inr (.inr ⟨e,h.1,h.2,d a⟩)))
theorem un_ok{l:Int}{x:Qd}(h0:ar x.Op=1)(h:nodeOk x 6 6 l=true):(x.Op=6/\x.I=0/\x.N=[])\/(x.Op=11/\-8<=x.I/\x.I<=8/\x.N=[]):=by have d:¬ 0<x.N.length->x.N=[]:=λh=>List.length_eq_zero_iff.1 om;unfold nodeOk at h;rcases ar1 h0 with e | e;rw[oi om] at h;by_cases a:0<x.N.length;rw[oj a] at h;cases h;rw[oi a] at h;rw[oi om,oi om,oi om,oi om] at h;simp only[ya,xv] at h;exact .inl ⟨e,h.1,d a⟩;rw[oi om] at h;by_cases a:0<x.N.length;rw[oj a] at h;cases h;rw[oi a] at h;rw[oi om,oi om,oi om,oj om] at h;simp only[xv] at h;exact .inr ⟨e,h.1,h.2,d a⟩
theorem bi_ok{l:Int}{x:Qd}(h0:ar x.Op=2)(h:nodeOk x 6 6 l=true):x.I=0/\x.N=[]:=by have d:¬ 0<x.N.length->x.N=[]:=λh=>List.length_eq_zero_iff.1 om;have e:=ar2 h0;unfold nodeOk at h;rw[oi om] at h;by_cases a:0<x.N.length;rw[oj a] at h;cases h;rw[oi a] at h;rw[oi om,oi om,oi om,oi om] at h;simp only[ya,xv] at h;exact⟨h.1,d a⟩
theorem Jhd{Nm:List (List UInt8)}{x:Qd}(f:∀ s∈Nm,s.length<=100)(h0:ar x.Op=0)(h:nodeOk x 6 6 (Nm.length:Int)=true):(lfS Nm x).length<=100:=by unfold lfS;rcases lf_ok h0 h with ⟨e,_,_,h⟩ | ⟨e,_⟩ | ⟨e,a,d,_⟩ | ⟨e,a,d,_⟩ | ⟨e,a,d,_⟩;rw[oj e];omega;rw[oi om,oi om,oi om,oi om];decide;rw[oi om,oj e];have:=Qb9 (x:=x.I) om om;simp;omega;rw[oi om,oi om,oj e];have:=Qb9 (x:=x.I) om om;simp;omega;rw[oi om,oi om,oi om,oj e];rw[yz,ot (show x.I.toNat<Nm.length by omega)];exact f _ (yu _)
theorem Qkj{Nm:List (List UInt8)}(d:∀ s∈Nm,s.length<=100):∀(e:Ex),okE (Nm.length:Int) e->(wrS Nm e).length<=110*(fl e).length
 | .lf x,h=>by have:=Jhd d (by have:=h.1;unfold wf at this;exact this) (h.2 x (by simp[fl])).1;simp only[wrS,fl,oo,xz];omega
 | .un x a,h=>by obtain⟨j,f,i,_⟩:=Qo3 h;have:=Qkj d a f;have i3:=Qdh (wrS Nm a) (rkI (rtE a).Op) 3;have i5:=Qdh (wrS Nm a) (rkI (rtE a).Op) 5;simp only[wrS,fl,ov,oo,xz];rcases un_ok j i with ⟨e,_⟩ | ⟨e,l,m,_⟩;rw[oj e];simp;omega;rw[oi om];have:=Qb9 l m;simp;omega
 | .bi x a b,h=>by obtain⟨j,f,i,_⟩:=Qo4 h;have q:=Qkj d a f;have r:=Qkj d b i;have i3:=Qdh (wrS Nm a) (rkI (rtE a).Op) (rkI x.Op);have i5:=Qdh (wrS Nm b) (rkI (rtE b).Op) (rkI x.Op+1);have:=Q1m x.Op;simp only[wrS,fl,ov,oo,xz];omega
abbrev Ins:=Int×Int×Int×Nat
def insP(x:Ins):Qu:=⟨x.1,x.2.1,x.2.2.1,if x.1=1 then toF (x.2.2.2:Rat) else ⟨⟨false,[]⟩,[]⟩⟩
def keyP(x:Ins):J5:=⟨x.1,x.2.1,x.2.2.1,if x.1=1 then dec x.2.2.2 else []⟩
def insK(x:Ins):Prop:=(x.1≠1->x.2.2.2=0)/\(toL x.2.2.2).length<=100000
theorem Jhe{a b:Nat}(h:dec a=dec b):a=b:=by rw[<-Qfy a,h,Qfy]
theorem keyb(x y:J5):Zc x y=true↔x=y:=by cases x;cases y;unfold Zc;simp
theorem Jfn{x y:Ins}(q:insK x)(r:insK y):keyP x=keyP y↔x=y:=by
 constructor;intro h;unfold keyP at h;simp only[J5.mk.injEq] at h;obtain⟨f,i,j,l⟩:=h;have m:x.2.2.2=y.2.2.2:=by by_cases e:x.1=1;rw[oj e,oj (f ▸ e)] at l;exact Jhe l;rw[q.1 e,r.1 (f ▸ e)]
 obtain⟨a,b,c,d⟩:=x;obtain⟨s,u,v,w⟩:=y;simp only[] at f i j m;subst f;subst i;subst j;subst m;rfl;rintro rfl;rfl
def kvF:Nat->List Ins->List (J5×Int)
 | _,[]=>[]
 | i,x::r=>(keyP x,(i:Int))::kvF (i+1) r
theorem Q7e(x:Ins):∀(l:List Ins) (i:Nat),kvF i (l++[x])=kvF i l++[(keyP x,((i+l.length:Nat):Int))]
 | [],i=>by simp[kvF]
 | y::l,i=>by simp only[xd,kvF,Q7e x l (i+1),oo];rw[show i+1+l.length=i+(l.length+1) by omega]
theorem Q7f{x:Ins}(a:insK x):∀(l:List Ins) (i:Nat),(∀ y∈l,insK y)->sget Zc (kvF i l) (keyP x)=if x∈l then some ((i+l.idxOf x:Nat):Int) else none
 | [],i,_=>by simp[kvF,sget]
 | y::l,i,h=>by
   simp only[kvF,sget];have f:=Jfn a (h y (.head _));by_cases e:x=y;subst e;rw[(keyb _ _).2 rfl,bifT,oj (.head _)];simp;rw[Bool.eq_false_iff.2 (λq=>e (f.1 ((keyb _ _).1 q))),bifF,Q7f a l (i+1) (λz j=>h z (.tail _ j))];by_cases m:x∈l;rw[oj m,oj (.tail _ m)];have d:(y == x)=false:=by simpa using Ne.symm e
   simp only[List.idxOf_cons,d,cond_false];congr 2;omega;rw[oi m,oi (by simp[e,m])]
def putT(l:List Ins)(x:Ins):Nat×List Ins:=if x∈l then (l.idxOf x,l) else (l.length,l++[x])
theorem wlen{n:Nat}(h:n<=100000):wrap64 ((n+1:Nat) - 1:Int)=(n:Int):=by rw[w64 om om];omega
theorem Qnf{n:Nat}{l:List Ins}{x:Ins}{ls r:List Int}(q:big<=n)(j:l.length<=100000)(d:insK x)(h:∀ y∈l,insK y):
 Ya n (l.map insP) (kvF 0 l) ls r (insP x)=some (((putT l x).1:Int),(putT l x).2.map insP,kvF 0 (putT l x).2):=by
 have key:∀ k:J5,k=keyP x ->
  (bif (sget Zc (kvF 0 l) k).isSome then (some (((sget Zc (kvF 0 l) k).getD (0:Int)),l.map insP,kvF 0 l)) else (
   (grd (sget Zc (kvF 0 l) k).isNone).bind λ_=>
   (appM 80 (l.map insP) ([insP x]:List Qu)).bind λf=>
   some (wrap64 ((f.length:Int) - (1:Int)),f,(kvF 0 l++[(k,((l.map insP).length:Int))]))))=some (((putT l x).1:Int),(putT l x).2.map insP,kvF 0 (putT l x).2):=by
  rintro k rfl;rw[Q7f d l 0 h];unfold putT;by_cases m:x∈l;rw[oj m,oj m];simp;rw[oi m,oi m];simp only[Option.isSome_none,Option.isNone_none,bifF];rw[grd_t rfl,sbind,Jk oh oh,sbind,Q7e];simp only[ov,xa,oo,xz,xu,xw,gy,xr];rw[wlen j]
 unfold Ya;simp only[jn_eq];by_cases e:x.1=1;have a:(insP x).Op=1:=e;rw[a,oq rfl,bifT];have i:(insP x).N.Num.A2=toL x.2.2.2:=by unfold insP;simp only[];rw[oj e];unfold toF toW;simp
 rw[i,Qc0 q (xn d.2 oy) (Jp _),sbind];refine key _ ?_;unfold keyP;rw[oj e,Q5];rw[e];rfl;have a:¬(insP x).Op=1:=e;rw[ol a,bifF];refine key _ ?_;unfold keyP;rw[oi e];rfl
abbrev CS:=List Ins×List Int×List Int
def laI(o:List Int):Int:=(o[o.length - 1]?).getD 0
def seI(o:List Int):Int:=(o[o.length - 2]?).getD 0
def inC(o:List Int)(x:Qd):Ins:=
 if x.Op=1 then (1,0,0,val x.N) else if x.Op=2\/x.Op=3\/x.Op=4 then (x.Op,x.I,0,0) else if x.Op=6\/x.Op=11 then (x.Op,laI o,x.I,0) else (x.Op,seI o,laI o,0)
def plT(ls:List Int)(l:List Ins)(o:List Int)(x:Qd):Int×List Ins:=
 if x.Op=5 then ((ls[x.I.toNat]?).getD 0,l) else (((putT l (inC o x)).1:Int),(putT l (inC o x)).2)
def stT(ls:List Int)(s:CS)(x:Qd):CS:=
 ((plT ls s.1 s.2.2 x).2,s.2.1++[(plT ls s.1 s.2.2 x).1],s.2.2.take (s.2.2.length - (ar x.Op).toNat)++[(plT ls s.1 s.2.2 x).1])
def CI(m:Nat)(l:List Ins):Prop:=l.length<=m/\∀ y∈l,insK y
theorem Jdn{o:List Int}{x:Qd}(a:NB x):insK (inC o x):=by
 have h0:(toL 0).length<=100000:=by rw[V6];decide
 unfold inC;split;refine⟨λh=>absurd rfl h,?_⟩;show(toL (val x.N)).length<=100000;rw[Kq a.2];exact xn (W8 _) a.1;rename_i d;split;exact⟨λ_=>rfl,h0⟩;split;exact⟨λ_=>rfl,h0⟩;exact⟨λ_=>rfl,h0⟩
theorem Jhf{m:Nat}{l:List Ins}{x:Ins}(h:CI m l)(d:insK x):CI (m+1) (putT l x).2/\(putT l x).1<m+1:=by unfold putT;by_cases c:x∈l;rw[oj c];refine⟨⟨Nat.le_succ_of_le h.1,h.2⟩,?_⟩;have:=List.idxOf_lt_length_iff.2 c;have:=h.1;show l.idxOf x<m+1;omega;rw[oi c];refine⟨⟨by simp;exact h.1,λy a=>?_⟩,Nat.lt_succ_of_le h.1⟩;rcases xk.1 a with a | a;exact h.2 y a;rw[xq.1 a];exact d
theorem Jj7{ls:List Int}{s:CS}{x:Qd}{m:Nat}(h:CI m s.1)(a:NB x):CI (m+1) (stT ls s x).1:=by unfold stT plT;split;exact⟨Nat.le_succ_of_le h.1,h.2⟩;exact(Jhf h (Jdn a)).1
def NdC(L:Nat)(o:List Int)(x:Qd):Prop:=nodeOk x 6 6 (L:Int)=true/\NB x/\0<=ar x.Op/\ar x.Op<=(o.length:Int)
theorem Q7g{o:List Int}(h:1<=o.length)(a:o.length<=100000):getI o (wrap64 ((o.length:Int) - 1))=some (laI o):=by rw[w64 om om,show((o.length:Int) - 1)=((o.length - 1:Nat):Int) by omega,Qh7];unfold laI;rw[ot om];rfl
theorem Jfo{o:List Int}(h:2<=o.length)(a:o.length<=100000):getI o (wrap64 ((o.length:Int) - 2))=some (seI o):=by rw[w64 om om,show((o.length:Int) - 2)=((o.length - 2:Nat):Int) by omega,Qh7];unfold seI;rw[ot om];rfl
theorem ratN(N:List Nat):mkRat (wv (⟨false,N⟩:Qe)) (val [1])=((val N:Nat):Rat):=by
 have a:val [1]=1:=by simp[val]
 rw[a];show mkRat (val N:Int) 1=_;rw[Rat.mkRat_one];rfl
theorem Q1n{n L:Nat}{o:List Int}{x:Qd}(f:big<=n)(h:NdC L o x)(h0:ar x.Op=0)(d:x.Op≠5):Qjg n x=some (insP (inC o x)):=by
 unfold Qjg;have a:Wd [1]:=λy i=>by rw[xq.1 i];decide
 rcases lf_ok h0 h.1 with ⟨e,i0,_,_⟩ | ⟨e,i0,eN⟩ | ⟨e,_,_,_⟩ | ⟨e,_,_,_⟩ | ⟨e,_⟩;rw[e,oq rfl,bifT,Qj0 f ⟨h.2.1.2,yo h.2.1.1 oy⟩ a oy (by simp[val]),sbind,ratN];unfold inC insP;rw[oj e];rfl;rw[e,ol oy,bifF,oq rfl,bifT];unfold inC insP;rw[oi om,oj om,e,i0];rfl;rw[e,ol oy,bifF,ol oy,bifF];unfold inC insP;rw[oi om,oj om,e];rfl;rw[e,ol oy,bifF,ol oy,bifF];unfold inC insP;rw[oi om,oj om,e];rfl;exact absurd e d
theorem Q1o{n L:Nat}{l:List Ins}{ls u o:List Int}{x:Qd}(q:big<=n)(j:CI 100000 l)(h:NdC L o x)(v:ls.length=L)(r:o.length<=100000):
 Yy n (l.map insP) (kvF 0 l) ls u x o=some ((plT ls l o x).1,(plT ls l o x).2.map insP,kvF 0 (plT ls l o x).2):=by
 unfold Yy plT;by_cases f:x.Op=5
 . rw[oq f,bifT,oj f]
   rcases lf_ok (by rw[f];decide) h.1 with ⟨e,_⟩ | ⟨e,_⟩ | ⟨e,_⟩ | ⟨e,_⟩ | ⟨_,i0,w,_⟩
   case inr.inr.inr.inr=>
    obtain⟨i,hi⟩:∃ i:Nat,x.I=(i:Int):=⟨x.I.toNat,om⟩
    have m:i<ls.length:=om
    rw[hi,Qav m,sbind,ue,ot m];rfl
   all_goals omega
 rw[ol f,bifF,oi f,Y6,sbind];have hi:=Jdn (o:=o) h.2.1;rcases Ql4 x.Op with a | a | a | a
 . rw[a,oq rfl,bifT,Q1n q h a f,sbind,Qnf q j.1 hi j.2,sbind]
 . have d:=h.2.2.2;rw[a] at d
   have s:=ar1 a;rw[a,ol oy,bifF,sbind,oq rfl,bifT,Q7g om r,sbind];have:(⟨x.Op,laI o,x.I,(⟨(⟨false,[]⟩:Qe),[]⟩:Qa)⟩:Qu)=insP (inC o x):=by unfold inC insP;rw[oi om,oi om,oj om];simp only[];rw[oi om]
   rw[this,Qnf q j.1 hi j.2,sbind]
 . have d:=h.2.2.2;rw[a] at d
   have s:=ar2 a;rw[a,ol oy,bifF,sbind,ol oy,bifF,Jfo om r,sbind,Q7g om r,sbind];have:(⟨x.Op,seI o,laI o,(⟨(⟨false,[]⟩:Qe),[]⟩:Qa)⟩:Qu)=insP (inC o x):=by unfold inC insP;rw[oi om,oi om,oi om];simp only[];rw[oi om]
   rw[this,Qnf q j.1 hi j.2,sbind]
 . have:=h.2.2.1;omega
def exF(ls:List Int)(c:List Qd)(s:CS)(i:Nat):CS:=(c.take i).foldl (stT ls) s
theorem Jfp(ls c s):exF ls c s 0=s:=rfl
theorem Qs8{ls:List Int}{c:List Qd}{s:CS}{i:Nat}{x:Qd}(h:c[i]?=some x):exF ls c s (i+1)=stT ls (exF ls c s i) x:=by
 have hi:=Jg h;have a:c[i]=x:=by have:=ot hi;rw[h] at this;exact(Option.some.inj this).symm
 unfold exF;rw[J1 hi,ge,a];rfl
theorem Q1p(ls c s):exF ls c s c.length=c.foldl (stT ls) s:=by unfold exF;rw[yn]
theorem Jhg{ls:List Int}{s:CS}{x:Qd}(h0:0<=ar x.Op)(a:ar x.Op<=(s.2.2.length:Int)):((stT ls s x).2.2.length:Int)=s.2.2.length+1 - ar x.Op:=by unfold stT;simp only[ov,yp,oo,xz];omega
structure ExC(L:Nat)(c:List Qd):Prop where
 wr:wrongT c<0
 nd:∀ x∈c,nodeOk x 6 6 (L:Int)=true/\NB x
 len:c.length<=1000
theorem Q1q{L:Nat}{ls:List Int}{c:List Qd}{s:CS}(h:ExC L c)(h0:s.2.2=[]):∀ i,i<=c.length->(exF ls c s i).2.2.length=(stk c i).length
 | 0,_=>by rw[Jfp,h0];rfl
 | i+1,hi=>by have a:c[i]?=some c[i]:=ot om;have d:=Q1q (ls:=ls) h h0 i om;obtain⟨a0,a1⟩:=(Qxk c h.wr).1 i om _ a;have e:=Jhg (ls:=ls) (s:=exF ls c s i) a0 (by rw[d];exact a1);rw[Qs8 a,Qfz a];have f:=Qmj (i:=i) a0 a1;rw[d] at e;omega
theorem Q7h{L:Nat}{ls:List Int}{c:List Qd}{s:CS}{m:Nat}(h:ExC L c)(a:CI m s.1):∀ i,i<=c.length->CI (m+i) (exF ls c s i).1
 | 0,_=>a
 | i+1,hi=>by have d:c[i]?=some c[i]:=ot om;rw[Qs8 d];exact Jj7 (Q7h h a i om) (h.nd _ (yu _)).2
theorem Q7i{ls:List Int}{c:List Qd}{s:CS}:∀ i,i<=c.length->(exF ls c s i).2.1.length=s.2.1.length+i
 | 0,_=>rfl
 | i+1,hi=>by have a:c[i]?=some c[i]:=ot om;rw[Qs8 a];unfold stT;simp only[ov,oo,xz];rw[Q7i i om];omega
def exT(ls:List Int)(l:List Ins)(w:List Int)(c:List Qd):Int×List Ins×List Int:=
 let S:=c.foldl (stT ls) (l,w,[]);((S.2.2[0]?).getD 0,S.1,S.2.1)
theorem Jhh{o:List Int}{a:Int}(h0:0<=a)(d:a<=(o.length:Int))(e:o.length<=100000):sub o (0:Int) (wrap64 ((o.length:Int) - a))=some (o.take (o.length - a.toNat)):=by rw[w64 om om,show((o.length:Int) - a)=((o.length - a.toNat:Nat):Int) by omega,Qfx om]
theorem Qrv{n L m:Nat}{l:List Ins}{ls w:List Int}{c:List Qd}(C:big<=n)(h:ExC L c)(B:CI m l)(G:m+c.length<=100000)(A:ls.length=L)(H:w.length<=100000):
 Yr n (l.map insP) (kvF 0 l) ls w c=some ((exT ls l w c).1,(exT ls l w c).2.1.map insP,kvF 0 (exT ls l w c).2.1,(exT ls l w c).2.2):=by
 unfold Yr;have u:=h.len;have hk:=Qxk c h.wr;refine(Y5 (λi=>((exF ls c (l,w,[]) i).1.map insP,kvF 0 (exF ls c (l,w,[]) i).1,(exF ls c (l,w,[]) i).2.1,(exF ls c (l,w,[]) i).2.2)) c ?_ rfl).trans ?_
 rotate_left
 . rw[K7]
   simp only[Q1p];have e:=Q1q (ls:=ls) (s:=(l,w,[])) h rfl c.length (ou _);rw[hk.2,Q1p] at e;have q:0<(c.foldl (stT ls) (l,w,[])).2.2.length:=om
   rw[show(0:Int)=((0:Nat):Int) from rfl,Qav q,sbind];unfold exT;simp only[];rw[ot q];rfl
 . intro i x d
   have hi:=Jg d;have a:=Q3 d;obtain⟨a0,a1⟩:=hk.1 i hi _ d;have e:=Q1q (ls:=ls) (s:=(l,w,[])) h rfl i om;have E:=Q8w i (λj F=>hk.1 j om) om;have v:=Q7i (ls:=ls) (s:=(l,w,[])) i (by omega:i<=c.length);have f:=Q7h (ls:=ls) (s:=(l,w,[])) h B i om;simp only[] at v |-;rw[Qs8 d];generalize exF ls c (l,w,[]) i=S at *;have r:NdC L S.2.2 x:=⟨(h.nd x a).1,(h.nd x a).2,a0,by rw[e];exact a1⟩
   rw[Q1o C ⟨xn f.1 om,f.2⟩ r A om,sbind,Jk oh oh,sbind,Y6,sbind,Jhh a0 r.2.2.2 om,sbind,Jk oh oh,sbind];rfl
theorem Jhi{c:List Qd}:∀(L:List (List Qd)) (a:Int),0<=a->c∈L->(c.length:Int)<=L.foldl (λn c=>n+(c.length:Int)) a:=by
 intro L
 induction L with
 | nil=>intro a _ h;cases h
 | cons d L f=>
   intro a i h;rw[wx];rcases xc.1 h with rfl | h;have mono:∀(L:List (List Qd)) (b:Int),b<=L.foldl (λn c=>n+(c.length:Int)) b:=by
    intro L
    induction L with
    | nil=>intro b;exact gr _
    | cons e L f=>intro b;rw[wx];have:=f (b+(e.length:Int));omega
   have:=mono L (a+(c.length:Int));omega;exact f _ om h
structure FldC(f:Qt):Prop where
 nl:f.Aq.length<=10
 no:f.Ar.length<=6
 lets:∀(i:Nat) l,f.Aq[i]?=some l->ExC i l.Code
 outs:∀ c∈f.Ar,ExC f.Aq.length c
 all:∀ c∈codesT f,c.length<=300
theorem Jhj{f:Qt}{p:Int}(e:FB f)(h:checkT f (f.Ar.length:Int) p=f0):FldC f:=by
 obtain⟨d,q,r⟩:=Qa7.1 h;unfold wholeT at d;simp only[xv] at d;obtain⟨w1,w,C,A,E,F,B⟩:=d
 have hs:∀ c∈codesT f,c.length<=300:=λc a=>by have:=Jhi (codesT f) 0 om a;unfold sizeT at B;omega
 have nd:∀ {c:List Qd}{k:Int}{L:Nat},(∀ x∈c,NB x)->c.length<=300->partT c k (f.Ar.length:Int) p (L:Int)=f0->ExC L c:=by intro c k L m a s;obtain⟨u,v⟩:=Qs6.1 ((Qs5 _ _ _ _ _).1 s).1;exact⟨u,λx j=>⟨Qqy w A (v x j),m x j⟩,om⟩
 refine⟨om,om,λi l hi=>?_,λc a=>?_,hs⟩;exact nd (Jdj e (Q3 hi)).2 (hs _ (by unfold codesT;exact uy _ (uj (Q3 hi)))) (q i l hi).2.2;obtain⟨i,hi⟩:=ud a;exact nd (Jdk e a).2 (hs _ (by unfold codesT;exact yt _ a)) (r i c hi)
abbrev LS:=List Ins×List Int×List Int
def leG(s:LS)(c:List Qd):LS:=((exT s.2.1 s.1 s.2.2 c).2.1,s.2.1++[(exT s.2.1 s.1 s.2.2 c).1],(exT s.2.1 s.1 s.2.2 c).2.2)
def ouG(ls:List Int)(s:LS)(c:List Qd):LS:=((exT ls s.1 s.2.1 c).2.1,(exT ls s.1 s.2.1 c).2.2,s.2.2++[(exT ls s.1 s.2.1 c).1])
def leF(C:List (List Qd))(i:Nat):LS:=(C.take i).foldl leG ([],[],[])
def ouF(ls:List Int)(C:List (List Qd))(s:LS)(i:Nat):LS:=(C.take i).foldl (ouG ls) s
theorem Q7j{C:List (List Qd)}{i:Nat}{c}(h:C[i]?=some c):leF C (i+1)=leG (leF C i) c:=by
 have hi:=Jg h;have a:C[i]=c:=by have:=ot hi;rw[h] at this;exact(Option.some.inj this).symm
 unfold leF;rw[J1 hi,ge,a];rfl
theorem Q7k{ls:List Int}{C:List (List Qd)}{s:LS}{i:Nat}{c}(h:C[i]?=some c):ouF ls C s (i+1)=ouG ls (ouF ls C s i) c:=by
 have hi:=Jg h;have a:C[i]=c:=by have:=ot hi;rw[h] at this;exact(Option.some.inj this).symm
 unfold ouF;rw[J1 hi,ge,a];rfl
theorem Jdo{L m:Nat}{ls w:List Int}{l:List Ins}{c:List Qd}(h:ExC L c)(e:CI m l):CI (m+c.length) (exT ls l w c).2.1/\(exT ls l w c).2.2.length=w.length+c.length:=by have a:=Q7h (ls:=ls) (s:=(l,w,[])) h e c.length (ou _);have d:=Q7i (ls:=ls) (c:=c) (s:=(l,w,[])) c.length (ou _);rw[Q1p] at a d;exact⟨a,d⟩
theorem Q1r{a b:Nat}{l:List Ins}(h:CI a l)(d:a<=b):CI b l:=⟨xn h.1 d,h.2⟩
theorem Q7l{f:Qt}(h:FldC f):∀ i,i<=f.Aq.length->CI (300*i) (leF (f.Aq.map (·.Code)) i).1/\(leF (f.Aq.map (·.Code)) i).2.1.length=i/\(leF (f.Aq.map (·.Code)) i).2.2.length<=300*i
 | 0,_=>⟨⟨ou _,λ_ h=>by cases h⟩,rfl,ou _⟩
 | i+1,hi=>by
   have d:f.Aq[i]?=some f.Aq[i]:=ot om;have l:(f.Aq.map (·.Code))[i]?=some f.Aq[i].Code:=by rw[uo,d];rfl
   obtain⟨e,j,r⟩:=Q7l h i om;have a:=h.all f.Aq[i].Code (by unfold codesT;exact uy _ (uj (yu _)));rw[Q7j l];obtain⟨m,q⟩:=Jdo (ls:=(leF (f.Aq.map (·.Code)) i).2.1) (w:=(leF (f.Aq.map (·.Code)) i).2.2) (h.lets i _ d) e;unfold leG;refine⟨Q1r m om,by simp[j],?_⟩;show(exT _ _ _ _).2.2.length<=_;rw[q];omega
theorem Jdp{f:Qt}(h:FldC f){ls:List Int}{l:List Ins}{w:List Int}(a:CI 3000 l)(e:w.length<=3000):∀ i,i<=f.Ar.length->CI (3000+300*i) (ouF ls f.Ar (l,w,[]) i).1/\(ouF ls f.Ar (l,w,[]) i).2.1.length<=3000+300*i/\(ouF ls f.Ar (l,w,[]) i).2.2.length=i
 | 0,_=>⟨a,e,rfl⟩
 | i+1,hi=>by have q:f.Ar[i]?=some f.Ar[i]:=ot om;obtain⟨j,u,m⟩:=Jdp h a e (ls:=ls) i om;have d:=h.all f.Ar[i] (by unfold codesT;exact yt _ (yu _));rw[Q7k q];obtain⟨r,s⟩:=Jdo (ls:=ls) (w:=(ouF ls f.Ar (l,w,[]) i).2.1) (h.outs _ (yu _)) j;unfold ouG;refine⟨Q1r r om,?_,by simp[m]⟩;show(exT _ _ _ _).2.2.length<=_;rw[s];omega
def fiT(f:Qt):LS×List Int:=(ouF (leF (f.Aq.map (·.Code)) f.Aq.length).2.1 f.Ar ((leF (f.Aq.map (·.Code)) f.Aq.length).1,(leF (f.Aq.map (·.Code)) f.Aq.length).2.2,[]) f.Ar.length,(leF (f.Aq.map (·.Code)) f.Aq.length).2.1)
theorem Qp4{n:Nat}{f:Qt}{p:Int}(u:big<=n)(w:FB f)(hs:∀ l∈f.Aq,l.As.length<=4611686018427387904):
 Qe5 n f p=some (if checkT f (f.Ar.length:Int) p=f0 then ((⟨(fiT f).1.1.map insP,(fiT f).1.2.2,(f.Ar.length:Int),p⟩:Qv),(fiT f).1.2.1,f0) else ((⟨[],[],0,0⟩:Qv),[],checkT f (f.Ar.length:Int) p)):=by
 unfold Qe5;rw[Qj8 u w hs,sbind];by_cases d:checkT f (f.Ar.length:Int) p=f0
 case neg=>
  rw[oi d];have:Qr (checkT f (f.Ar.length:Int) p) (⟨0,0,0,0⟩:Qc)=false:=Bool.eq_false_iff.2 λq=>d ((Qit _ _).1 q);rw[this,xo,bifT]
 rw[oj d];have:Qr (checkT f (f.Ar.length:Int) p) (⟨0,0,0,0⟩:Qc)=true:=(Qit _ _).2 d;rw[this,ow,bifF];have h:=Jhj w d;have B:=h.nl;have C:=h.no;unfold Qk6;rw[sbind];refine(Y5 (λi=>((leF (f.Aq.map (·.Code)) i).1.map insP,kvF 0 (leF (f.Aq.map (·.Code)) i).1,(leF (f.Aq.map (·.Code)) i).2.1,(leF (f.Aq.map (·.Code)) i).2.2)) f.Aq ?_ rfl).trans ?_
 . intro i x a
   have hi:=Jg a;obtain⟨j,v,A⟩:=Q7l h i om;have s:(f.Aq.map (·.Code))[i]?=some x.Code:=by rw[uo,a];rfl
   have e:=h.all x.Code (by unfold codesT;exact uy _ (uj (Q3 a)));simp only[];rw[Q7j s];generalize leF (f.Aq.map (·.Code)) i=S at *;rw[Qrv u (h.lets i x a) j om v om,sbind,Jk oh oh,sbind];rfl
 rw[K7];obtain⟨E,F,G⟩:=Q7l h f.Aq.length (ou _);simp only[];unfold fiT;generalize leF (f.Aq.map (·.Code)) f.Aq.length=S at *;have m:CI 3000 S.1:=Q1r E om;have r:S.2.2.length<=3000:=om
 refine(Y5 (λi=>((ouF S.2.1 f.Ar (S.1,S.2.2,[]) i).1.map insP,kvF 0 (ouF S.2.1 f.Ar (S.1,S.2.2,[]) i).1,(ouF S.2.1 f.Ar (S.1,S.2.2,[]) i).2.1,(ouF S.2.1 f.Ar (S.1,S.2.2,[]) i).2.2)) f.Ar ?_ rfl).trans ?_
 . intro i x a
   have hi:=Jg a;obtain⟨j,v,A⟩:=Jdp h m r (ls:=S.2.1) i om;have e:=h.all x (by unfold codesT;exact yt _ (Q3 a));simp only[];rw[Q7k a];generalize ouF S.2.1 f.Ar (S.1,S.2.2,[]) i=U at *;rw[Qrv u (h.outs x (Q3 a)) j om F om,sbind,Jk oh oh,sbind];rfl
 rw[K7];rfl
end Go.Proofs.YteejhjpdcefgfaaGreatDoor
