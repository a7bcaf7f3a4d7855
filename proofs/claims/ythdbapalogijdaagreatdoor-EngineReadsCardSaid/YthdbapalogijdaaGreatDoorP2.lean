import Derived.Test.YthdbapalogijdaaGreatDoorP1
namespace Go.Proofs.YthdbapalogijdaaGreatDoor
open Go Go.RowKit
variable{a i j c:Nat}{f:Qa}{α β R:Type}{w:Be}
def dg(x:Nat):UInt8:=UInt8.ofNat (48+x%10)
def fw(n:Nat):Be:=if n=0 then [] else dg n::fw (n / 10)
termination_by n
decreasing_by omega
def dz:Nat->Nat->Be
 | 0,_=>[]
 | k+1,n=>dg n::dz k (n / 10)
def fQ(n:Nat):Be:=if n=0 then [48] else (fw n).reverse
def tp(k:Nat):Nat:=10 ^ k
theorem jM:tp 0=1:=oe
theorem kL(k:Nat):tp (k+1)=tp k*10:=oe
theorem RT(k:Nat):0<tp k:=by grind[tp]
theorem Jol(j k:Nat):tp (j+k)=tp j*tp k:=by grind[tp]
theorem lJ:fw 0=[]:=by simp[fw]
theorem mw{n:Nat}(h:n≠0):fw n=dg n::fw (n / 10):=by grind[fw]
theorem Jd8(k n:Nat):(dz k n).length=k:=by
 induction k generalizing n with
 | zero=>rfl
 | succ k a=>grind[dz]
theorem RU(j k n:Nat):dz (j+k) n=dz j n++dz k (n / tp j):=by
 induction j generalizing n with
 | zero=>simp[dz,jM]
 | succ j a=>
   grind[dz,Nat.div_div_eq_div_mul,kL]
theorem Jh4(k:Nat):dz k 0=List.replicate k 48:=by
 induction k with
 | zero=>rfl
 | succ k a=>simp only[dz,Nat.zero_div,a,ua];rfl
theorem Jly{k n:Nat}(h:n<tp k):dz k n=fw n++List.replicate (k - (fw n).length) 48/\(fw n).length<=k:=by
 induction k generalizing n with
 | zero=>simp_all[jM,dz,lJ]
 | succ k a=>
   by_cases h0:n=0;grind[lJ,Jh4];obtain⟨e,l⟩:=a (n:=n / 10) (by grind[kL]);grind[mw,dz]
theorem Jj3(k n:Nat):dz k (n%tp k)=dz k n:=by
 induction k generalizing n with
 | zero=>rfl
 | succ k d=>
   have a:n%tp (k+1)%10=n%10:=by rw[kL];simp
   grind[kL,Nat.mod_mul_right_div_self,dz,dg]
theorem sK(n:Nat):(fw n).length<=1+(fw (n / 10)).length:=by grind[mw]
theorem RV{n k:Nat}(h:n<bp k):(fw n).length<=10*k:=by
 induction k generalizing n with
 | zero=>simp_all[jf,lJ]
 | succ k m=>
   rw[W8] at h;have a:=sK n;have d:=sK (n / 10);have e:=sK (n / 10 / 10);have f:=sK (n / 10 / 10 / 10);have i:=sK (n / 10 / 10 / 10 / 10);have j:=sK (n / 10 / 10 / 10 / 10 / 10);grind[sK]
theorem Jj4{m n:Nat}(h:m<=n):(fw m).length<=(fw n).length:=by
 induction n using Nat.strongRecOn generalizing m with
 | _ n a=>
   by_cases h0:m=0;grind[lJ];rw[mw h0,mw (show n≠0 by omega)];have:=@a (n / 10) om (m / 10) om;grind
theorem Jgc{m:Nat}(h:m≠0):(fw (m / 1000000000)).length<(fw m).length:=by rw[mw h];have:=@Jj4 (m / 1000000000) (m / 10) om;grind
theorem RW{m n:Nat}(h:m<=n):(ay m).length<=(ay n).length:=by rcases yx (ay n).length (ay m).length with a | a;have:=JJ a;omega;omega
theorem wO{n:Nat}(h:n≠0):fQ n=(fw n).reverse:=by simp_all[fQ]
theorem Jh6(y:Nat):UInt8.ofNat (((48+y%10)%4294967296)%256)=dg y:=by grind[dg]
def FE(a:pS):Bf:=[a.a0,a.a1,a.a2,a.a3,a.a4,a.a5,a.a6,a.a7,a.a8]
theorem Jlz:∀ l:Bf,l.length=9->FE (ET l)=l
 | [a0,a1,a2,a3,a4,a5,a6,a7,a8],_=>rfl
 | [],h=>by simp at h
 | [_],h=>by simp at h
 | [_,_],h=>by simp at h
 | [_,_,_],h=>by simp at h
 | [_,_,_,_],h=>by simp at h
 | [_,_,_,_,_],h=>by simp at h
 | [_,_,_,_,_,_],h=>by simp at h
 | [_,_,_,_,_,_,_],h=>by simp at h
 | [_,_,_,_,_,_,_,_],h=>by simp at h
 | _::_::_::_::_::_::_::_::_::_::_,h=>by simp at h
theorem Jh7(k n:Nat):dz (k+1) n=dz k n++[dg (n / tp k)]:=by rw[RU];rfl
theorem Q2u{n x:Nat}(A:aq<=n):zl n x=some (dz 9 x).reverse:=by
 unfold zl;unfold aq at A
 refine Ws (λs=>(s.2.2+1).toNat) (λs=>∃(k:Nat) (p e:Bf),s.2.2=(k:Int) - 1/\k<=9/\FE s.2.1=p++e/\p.length=k/\e.length=9 - k/\bS e=(dz (9 - k) x).reverse/\s.1=x / tp (9 - k))
  (λt=>bS (FE t)=(dz 9 x).reverse) ⟨9,[0,0,0,0,0,0,0,0,0],[],rfl,om,rfl,rfl,rfl,rfl,by simp[jM]⟩ ol ?_ ?_
 rintro⟨y,a,i⟩ ⟨k,p,e,q,C,u,E,F,v,w⟩;simp only at q u w;subst q w;simp only[ap];by_cases h0:0<k;obtain⟨j,rfl⟩:∃ j,k=j+1:=oo
 left;have m:([a.a0,a.a1,a.a2,a.a3,a.a4,a.a5,a.a6,a.a7,a.a8]:Bf)=FE a:=rfl;obtain⟨f,z,rfl⟩:∃ f z,p=f++[z]:=⟨p.dropLast,p.getLast ol,(List.dropLast_concat_getLast _).symm⟩
 have d:f.length=j:=ol
 rw[ot om,m,u,show((j+1:Nat):Int) - 1=(j:Nat) by omega,ye,vg,We d,aa,Yi d,aK om om];refine⟨_,rfl,⟨j,f,((48+x / tp (9 - (j+1))%10)%4294967296)%256::e,rfl,om,?_,d,ol,?_,?_⟩,oh⟩;grind[Jlz];simp only[bS,xt] at v |-;rw[v,Jh6,show 9 - j=(9 - (j+1))+1 by omega,Jh7];simp;simp only[];rw[show 9 - j=(9 - (j+1))+1 by omega,kL,yy];grind;intro t B;rw[aa];exact yj some B
theorem KI(y:Nat):(dg y).toNat=48+y%10:=by grind[dg,UInt8.toNat_ofNat']
theorem B4{y:Nat}(h:y%10≠0):dg y≠48:=by intro e;have:=yj UInt8.toNat e;grind[KI]
theorem Jj5{n:Nat}(h:n≠0):∃ p c,fw n=p++[c]/\c≠48:=by
 induction n using Nat.strongRecOn with
 | _ n d=>
   rw[mw h];by_cases a:n / 10=0;exact⟨[],dg n,by grind[lJ],B4 om⟩;obtain⟨p,c,e,f⟩:=d (n / 10) om a;grind
theorem KJ{n:Nat}{a:Bf}(E:aq<=n)(H:a.length<=1000000000)(A:Wd a):pZ n a=some (fQ (val a)):=by
 unfold pZ;rw[wB E om A,aa,ap];by_cases f:val a=0
 . rw[ot f,f];rfl
 rw[oq f];have G:=RV (V9 A);obtain⟨V,w⟩:∃ V,V=val a:=⟨_,rfl⟩
 rw[<-w] at f G |-;unfold aq at E
 refine Ws (λs=>(fw (val s.1)).length) (λs=>∃ k:Nat,Wd s.1/\s.1.length<=1000000000/\val s.1=V / tp (9*k)/\s.2.length=k/\s.2.reverse.flatten=(dz (9*k) V).reverse/\(∀ c∈s.2,c.length=9)/\k+(fw (val s.1)).length<=(fw V).length)
  (λt=>∃ k:Nat,V<tp (9*k)/\t.length=k/\t.reverse.flatten=(dz (9*k) V).reverse/\(∀ c∈t,c.length=9)/\k<=10000000000) ⟨0,A,H,by grind[jM],rfl,oe,oh,ol⟩ ol ?_ ?_
 . rintro⟨x,l⟩ ⟨k,m,B,d,q,v,C,F⟩
   simp only at m B d q v C F;simp only[];rw[wB (by grind[aq]) om m,aa,bB];by_cases u:val x=0
   . right
     rw[ot u];refine⟨_,rfl,k,?_,q,v,C,om⟩;rw[u] at d;exact(Nat.div_eq_zero_iff_lt (RT _)).1 d.symm
   . left
     have J:=Jgc u;rw[oq u,P9 (by grind[aq]) om m om om,aa,Q2u (by grind[aq]),aa,Jv ol ol,aa];refine⟨_,rfl,⟨k+1,Jh _,?_,?_,by simp[q],?_,?_,?_⟩,by grind[Q6]⟩
     . have:=RW (vh (val x) 1000000000)
       grind[Ke,Wy]
     . simp only[];rw[Q6,d,Nat.mul_add,Jol,yy];rfl
     . simp only[List.reverse_append,List.reverse_cons,List.reverse_nil,xi,vg,List.flatten_cons]
       have M:(1000000000:Nat)=tp 9:=oc
       grind[Jj3,RU]
     all_goals grind[Jd8,Q6]
 . rintro l ⟨k,m,B,d,q,v⟩
   rw[aK om om];refine Ws (λs=>(s.2+1).toNat) (λs=>∃ j:Nat,s.2=(j:Int) - 1/\j<=k/\s.1=(l.drop j).reverse.flatten/\s.1.length=9*(k - j)) (λt=>t=l.reverse.flatten) ⟨k,om,xe _,ol,oh⟩ om ?_ ?_
   . rintro⟨b,i⟩ ⟨j,g1,O,g3,g4⟩
     simp only at g1 g3 g4;subst g1;simp only[ap];by_cases h0:0<j
     . obtain⟨i,rfl⟩:∃ i,j=i+1:=oo
       have hi:i<l.length:=om
       have I:=q _ (uz hi);left;rw[ot om,show((i+1:Nat):Int) - 1=(i:Nat) by omega,Wx hi,aa,Jv om om,aa,aK om om];refine⟨_,rfl,⟨i,rfl,om,?_,by simp only[];rw[xo];omega⟩,by simp only[];omega⟩;grind[List.drop_eq_getElem_cons]
     grind
   . rintro t rfl
     rw[d];unfold ES;simp only[];rw[ot oc,aa,wO f];congr 1;obtain⟨e,P⟩:=Jly m;rw[e,List.reverse_append,List.reverse_replicate,List.dropWhile_append_of_pos oh];obtain⟨p,c,K,I⟩:=Jj5 f;simp_all
theorem Jgd(V:Nat):(fQ V).length<=(fw V).length+1:=by grind[fQ]
theorem Q5c{n:Nat}{a:Bf}(F:aq<=n)(R:a.length<=1000000000)(G:Wd a):Bs n a=some (fQ (val a)):=by
 unfold Bs;have Q:=RV (V9 G);have K:=Jgd (val a);rw[Wz F om,aa,<-Ke G];have C:(ay (val a)).length<=1000000000:=by grind[Ke,Wy]
 generalize val a=V at *;unfold aq at F
 refine Ws (λs=>(fw (val s.1)).length+(if s.2=[] then 1 else 0)) (λs=>∃ m:Nat,s.1=ay m/\m<=V/\((s.2=[]/\m=V)\/(s.2≠[]/\(fw m).reverse++s.2=fQ V))/\s.2.length+(fw m).length<=(fw V).length+1)
  (λt=>t=fQ V) ⟨V,rfl,xe _,oh,oh⟩ (by simp only[Q6,yt];omega) ?_ ?_
 rintro⟨x,s⟩ ⟨m,A,I,B,J⟩;simp only at A B J;subst A;have O:=RW I
 have f:(0<(ay m).length\/s=[])->(∃ s',(Zg n (ay m)).bind (λe=>(sub ([48,49,50,51,52,53,54,55,56,57]:Be) (e.1:Int) (((e.1+1)%18446744073709551616):Int)).bind λq=>(bG q s).bind λu=>(J2 n e.2).bind λj=>some (Lp.go (σ:=Bf×Be) (τ:=Be) (j,u)))=some (.go s') /\
  (∃ m:Nat,s'.1=ay m/\m<=V/\((s'.2=[]/\m=V)\/(s'.2≠[]/\(fw m).reverse++s'.2=fQ V))/\s'.2.length+(fw m).length<=(fw V).length+1)/\(fw (val s'.1)).length+(if s'.2=[] then 1 else 0)<(fw (val (ay m))).length+(if s=[] then 1 else 0)):=by
  intro f;obtain⟨r,v,P,H,w⟩:=Q60 (n:=n) (a:=ay m) (by grind[aq]) om (Jh m);rw[Q6] at v w;have hd:sub ([48,49,50,51,52,53,54,55,56,57]:Be) ((m%10:Nat):Int) (((m%10:Nat):Int)+1)=some [dg m]:=by
   have key:∀ d:Nat,d<10->sub ([48,49,50,51,52,53,54,55,56,57]:Be) (d:Int) ((d:Int)+1)=some [UInt8.ofNat (48+d)]:=oc
   rw[key _ om];rfl
  rw[v,aa];simp only[];rw[show((((m%10:Nat):Int)+1)%18446744073709551616)=((m%10:Nat):Int)+1 by omega,hd,aa,Fe ol,aa,Wz (by grind[aq]) om,aa,<-Ke H,w];have hcons:[dg m]++s≠[]:=oh
  by_cases E:m=0;subst E;have i:s=[]:=by rcases f with h | h;rw[W3] at h;simp at h;exact h
  subst i;rcases B with ⟨_,h⟩ | ⟨h,_⟩;subst h;refine⟨_,rfl,⟨0,by simp[W3],xe _,.inr ⟨hcons,?_⟩,by simp[lJ]⟩,?_⟩;rw[lJ];unfold fQ;rw[ot rfl];rfl;simp[W3,val,lJ];grind;have M:=mw E;refine⟨_,rfl,⟨m / 10,rfl,om,.inr ⟨hcons,?_⟩,?_⟩,?_⟩;grind[wO];grind;simp only[Q6];grind
 simp only[ai,ap];by_cases h0:0<(ay m).length;simp_all;rw[oq om];by_cases i:s=[]
 simp_all;right;rw[oq i];refine⟨s,rfl,?_⟩;grind[iJ,lJ];simp
def bi:Be->Nat->Option Nat
 | [],_=>none
 | c::s,i=>if c.toNat<48\/57<c.toNat\/60<=i then some i else bi s (i+1)
def aw(s:Be):Int:=match bi s 0 with
 | some i=>i
 | none=>if s=[] then 0 else -1
theorem Jge{s:Be}(h:bi s i=some j):i<=j/\j<i+s.length/\(i<=60->j<=60):=by
 induction s generalizing i with
 | nil=>cases h
 | cons c s a=>
   grind[bi]
theorem Q1k{n:Nat}{s:Be}(j:aq<=n)(m:s.length<=maxLen):zf n s=some (aw s):=by unfold zf;unfold aq at j;unfold maxLen at m;refine Ws (λi=>s.length - i.toNat) (λi=>∃ k:Nat,i=k/\k<=s.length/\k<=60/\bi s 0=bi (s.drop k) k) (λt=>(t=.go ()/\bi s 0=none)\/∃ k:Nat,t=.out (k:Int)/\bi s 0=some k) ⟨0,rfl,xu _,om,oh⟩ om ?_ ?_;rintro i ⟨k,rfl,hk,f,a⟩;simp only[ap,ai];by_cases h:k<s.length;rw[ot om,jL h,aa,aa];rw[xa h] at a;simp only[bi] at a;by_cases d:s[k].toNat<48;grind;rw[oq d];by_cases e:57<s[k].toNat;grind;rw[oq e];by_cases q:k=60;grind;left;rw[oq om,aK om om];rw[oq om] at a;exact⟨_,rfl,⟨k+1,om,om,om,a⟩,om⟩;right;rw[oq om];rw[xl om] at a;exact⟨_,rfl,.inl ⟨rfl,a⟩⟩;rintro t (⟨rfl,h⟩ | ⟨k,rfl,h⟩);rw[Vp,ap];grind[aw];grind[Yy,aw]
theorem FF{n:Nat}{s:Be}(f:aq<=n)(j:s.length<=maxLen):Xa n s=some (aw s):=by
 unfold Xa;unfold aq at f;unfold maxLen at j;rw[ap];by_cases h0:s=[]
 . subst h0;rfl
 rw[oq h0];refine Ws (λi=>s.length - i.toNat) (λi=>∃ k:Nat,i=k/\k<=s.length/\bi s 0=bi (s.drop k) k) (λt=>(t=.go ()/\bi s 0=none)\/∃ k:Nat,t=.out (k:Int)/\bi s 0=some k) ⟨0,rfl,xu _,oh⟩ om ?_ ?_
 . rintro i ⟨k,rfl,hk,a⟩
   simp only[ap,ai];by_cases h:k<s.length
   . rw[ot om,jL h,aa,aa]
     rw[xa h] at a;simp only[bi] at a;by_cases d:s[k].toNat<48
     . grind
     . rw[oq d]
       by_cases e:57<s[k].toNat
       . grind
       . rw[oq e]
         by_cases m:60<=k
         . grind
         . left
           rw[oq om,aK om om];rw[oq om] at a;exact⟨_,rfl,⟨k+1,om,om,a⟩,om⟩
   . right
     rw[oq om];rw[xl om] at a;exact⟨_,rfl,.inl ⟨rfl,a⟩⟩
 . rintro t (⟨rfl,h⟩ | ⟨k,rfl,h⟩)
   all_goals simp_all[Vp,aw,Yy]
def fR(s:Be):Prop:=∀ c∈s,48<=c.toNat/\c.toNat<=57
def aE:Be->Nat->Nat
 | [],v=>v
 | c::s,v=>aE s (v*10+(c.toNat - 48))
theorem wP(s:Be)(c:UInt8)(v:Nat):aE (s++[c]) v=aE s v*10+(c.toNat - 48):=by
 induction s generalizing v with
 | nil=>rfl
 | cons x s a=>grind[aE]
theorem Jce{s:Be}(h:bi s i=none):fR s/\(s≠[]->i+s.length<=60):=by
 induction s generalizing i with
 | nil=>exact⟨(λ_ h=>by cases h),oh⟩
 | cons c s e=>
   simp only[bi] at h;split at h
   . cases h
   . rename_i j
     obtain⟨d,f⟩:=e h;refine⟨λx a=>?_,λ_=>?_⟩
     . rcases xk.1 a with rfl | a
       . omega
       . exact d x a
     . by_cases m:s=[]
       all_goals grind
theorem lK{s:Be}(h:aw s<0):fR s/\s≠[]/\s.length<=60:=by unfold aw at h;split at h;omega;rename_i a;obtain⟨d,e⟩:=Jce a;grind
theorem fh{k:Nat}(h:j<=k):tp j<=tp k:=by simp_all[tp,ui]
theorem wQ{s:Be}(h:fR s)(v k:Nat)(f:v<tp k):aE s v<tp (k+s.length):=by
 induction s generalizing v k with
 | nil=>grind[aE]
 | cons c s a=>
   obtain⟨d,e⟩:=h c oh;have:=a (λx i=>h x ol) (v*10+(c.toNat - 48)) (k+1) (by grind[kL]);grind[aE]
theorem qj(k:Nat):tp k<=bp k:=by
 induction k with
 | zero=>grind[jM,jf]
 | succ k a=>grind[kL,W8]
theorem lL{s:Be}(h:fR s):(ay (aE s 0)).length<=s.length:=
 Wn (xr (by simpa using wQ h 0 0 (by grind[jM])) (qj _))
theorem wR{s:Be}{k:Nat}(h:fR s):fR (s.take k):=λc a=>h c ol
theorem B5{n:Nat}{s:Be}(B:aq<=n)(O:s.length<=maxLen):
 oN n s=some (if 0<=aw s then ([],⟨1,0,0,aw s⟩) else (ay (aE s 0),⟨0,0,0,0⟩)):=by
 unfold oN;rw[Q1k B O,aa,ap];by_cases J:0<=aw s;grind;rw[oq J,oq J];obtain⟨H,M,U⟩:=lK (show aw s<0 by omega);unfold aq at B;refine Ws (λt=>s.length - t.2.toNat) (λt=>∃ k:Nat,t.2=k/\k<=s.length/\t.1=ay (aE (s.take k) 0)) (λt=>t=ay (aE s 0)) ⟨0,rfl,xu _,by simp[aE,W3]⟩ om ?_ ?_;rintro⟨o,i⟩ ⟨k,F,R,G⟩;simp only at F G;subst F G;simp only[ap];by_cases hk:k<s.length;left;rw[ot om]
 refine P0 (λt=>9 - t.2.2.2.toNat) (λt=>∃ j:Nat,t.1=((k+j:Nat):Int)/\t.2.2.2=j/\j<=9/\k+j<=s.length/\t.2.2.1=tp j/\t.2.1<tp j/\aE (s.take (k+j)) 0=aE (s.take k) 0*tp j+t.2.1)
  (λt=>∃ j:Nat,0<j/\t.1=((k+j:Nat):Int)/\j<=9/\k+j<=s.length/\t.2.2=tp j/\t.2.1<tp j/\aE (s.take (k+j)) 0=aE (s.take k) 0*tp j+t.2.1) ⟨0,rfl,rfl,om,om,by simp[jM],by simp[jM],by simp[jM]⟩ (by simp only[];omega) ?_ ?_
 rintro⟨i,x,m,c⟩ ⟨j,g1,q,g3,g4,u,d,v⟩;simp only at g1 q u d v;subst g1 q u;have f:tp j<=1000000000:=by have:=fh g3;rw[show tp 9=1000000000 by decide] at this;exact this
 have w:j<9->k+j<s.length->(∃ s',(bv s ((k+j:Nat):Int)).bind (λC=>(some (((((x*10)%4294967296)+((C+256 - 48)%256))%4294967296))).bind λE=>some (Lp.go (σ:=Int×Nat×Nat×Int) (τ:=Int×Nat×Nat) (wrap64 (((k+j:Nat):Int)+1),E,((tp j*10)%4294967296),wrap64 ((j:Int)+1))))=some (.go s') /\
  (∃ j:Nat,s'.1=((k+j:Nat):Int)/\s'.2.2.2=j/\j<=9/\k+j<=s.length/\s'.2.2.1=tp j/\s'.2.1<tp j/\aE (s.take (k+j)) 0=aE (s.take k) 0*tp j+s'.2.1)/\9 - s'.2.2.2.toNat<9 - (j:Int).toNat):=by
  intro T a;obtain⟨P,Q⟩:=H _ (uz a);have I:tp j<=100000000:=by have:=fh (show j<=8 by omega);rw[show tp 8=100000000 by decide] at this;exact this
  rw[jL a,aa,aa,aK om om,aK om om];rw[xb (show x*10<4294967296 by omega),show(s[k+j].toNat+256 - 48)%256=s[k+j].toNat - 48 by omega,xb om,xb om];refine⟨_,rfl,⟨j+1,by simp only[];omega,by simp only[];omega,om,om,by simp only[];rw[kL],by simp only[];rw[kL];omega,?_⟩,by simp only[];omega⟩;rw[show k+(j+1)=k+j+1 by omega,Kd a,wP,v,kL];exact by grind
 simp only[ai,ap];by_cases K:j<9;rw[ot om];by_cases A:k+j<s.length;left;rw[ot om];exact w K A;right;rw[oq om];exact⟨_,rfl,j,om,rfl,om,om,rfl,d,v⟩;right;rw[oq om,ak];exact⟨_,rfl,j,om,rfl,om,om,rfl,d,v⟩;rintro⟨i,x,m⟩ ⟨j,g0,g1,q,g3,g4,u,d⟩;simp only at g1 g4 u d;subst g1 g4;have f:tp j<=1000000000:=by have:=fh q;rw[show tp 9=1000000000 by decide] at this;exact this
 have e:=lL (wR (k:=k) H);rw[yi] at e;simp only[];rw[Q6z (by unfold aq;exact B) om (Jh _) om om,aa,Q6,<-d];exact⟨_,rfl,⟨k+j,rfl,g3,rfl⟩,by simp only[];omega⟩;grind;simp
theorem KK{n:Nat}{s:Be}(j:aq<=n)(f:fR s)(x:s.length<=1000000):X7 n s=some (ay (aE s 0)):=by
 unfold X7;unfold aq at j;refine Ws (λt=>s.length - t.2.toNat) (λt=>∃ k:Nat,t.2=k/\k<=s.length/\t.1=ay (aE (s.take k) 0)) (λt=>t=ay (aE s 0)) ⟨0,rfl,xu _,by simp[aE,W3]⟩ om ?_ ?_;rintro⟨o,i⟩ ⟨k,e,m,q⟩;simp only at e q;subst e q;simp only[ap];by_cases hk:k<s.length;left;obtain⟨v,w⟩:=f _ (uz hk);have a:=lL (wR (k:=k) f);rw[yi] at a;have d:K0 n (ay (aE (s.take k) 0)) [10]=some (ay (aE (s.take k) 0*10)):=by
  rw[wC (by unfold aq;exact j) om oh (Jh _) (by grind[Vc,Vw]),Q6];simp[val]
 have u:(ay (aE (s.take k) 0*10)).length<=2000000:=by
  have e:=wQ (wR (k:=k) f) 0 0 (by rw[jM];omega);have m:aE (s.take k) 0*10<tp (0+(s.take k).length+1):=by rw[kL];omega
  have:=Wn (xr m (qj _));rw[yi] at this;omega
 rw[ot om,d,aa,jL hk,aa,show(s[k].toNat+4294967296 - 48)%4294967296=s[k].toNat - 48 by omega];rw[Fi (by unfold aq;exact j) om oh (Jh _) (by grind[Vc,Vw]),aa,Q6,aK om om];refine⟨_,rfl,⟨k+1,by simp only[];omega,om,?_⟩,by simp only[];omega⟩;rw[Kd hk,wP];simp[val];grind;simp
theorem RX(f:Qc):Ji f f=true:=by simp[Ji]
theorem Jl0{n:Nat}:fR (fw n):=by
 induction n using Nat.strongRecOn with
 | _ n d=>
   by_cases h:n=0;subst h;rw[lJ];exact λ_ h=>by cases h
   rw[mw h];intro c a;rcases xk.1 a with rfl | a;grind[KI];exact d (n / 10) om c a
theorem Jl1{n:Nat}:fR (fQ n):=by unfold fQ;split;intro c a;simp_all;intro c a;exact Jl0 c (List.mem_reverse.1 a)
theorem Jj6(n:Nat):aE (fw n).reverse 0=n:=by
 induction n using Nat.strongRecOn with
 | _ n a=>
   by_cases h:n=0;subst h;rw[lJ];rfl;grind[mw,wP,KI]
theorem RY(n:Nat):aE (fQ n) 0=n:=by unfold fQ;split;rename_i h;rw[h];rfl;grind[Jj6]
theorem Jd9{s:Be}(h:fR s)(hi:i<=60):bi s i=if 60<i+s.length then some 60 else none:=by
 induction s generalizing i with
 | nil=>grind[bi]
 | cons c s a=>
   obtain⟨d,e⟩:=h c oh;simp only[bi,xd];by_cases f:i=60;grind;rw[oq om,a (λx j=>h x ol) om];grind
theorem Jgf{s:Be}(h:fR s)(a:s≠[]):aw s=if 60<s.length then 60 else -1:=by unfold aw;rw[Jd9 h om,xx];grind
def bZ:Be->Be
 | []=>[]
 | c::s=>if s≠[]/\c=48 then bZ s else c::s
theorem Jj7{v d:Nat}(a:v≠0)(hd:d<10):fQ (v*10+d)=fQ v++[UInt8.ofNat (48+d)]:=by rw[wO om,wO a,mw om,List.reverse_cons,show(v*10+d) / 10=v by omega];grind[dg]
theorem RZ{c:UInt8}(a:48<=c.toNat):UInt8.ofNat (48+(c.toNat - 48))=c:=oo
theorem R0{s:Be}{v:Nat}(h:fR s)(d:v≠0):fQ (aE s v)=fQ v++s:=by
 induction s generalizing v with
 | nil=>simp[aE]
 | cons c s e=>
   obtain⟨a,f⟩:=h c oh;simp only[aE];rw[e (λx i=>h x ol) om,Jj7 d om,RZ a];simp
theorem R1{c:UInt8}(a:48<=c.toNat)(d:c.toNat<=57):fQ (c.toNat - 48)=[c]:=by
 by_cases h:c.toNat - 48=0;rw[h];have:c=48:=by apply ya.1;grind
 rw[this];rfl;rw[wO h,mw h,show(c.toNat - 48) / 10=0 by omega,lJ];unfold dg;rw[show(c.toNat - 48)%10=c.toNat - 48 by omega,RZ a];rfl
theorem wS{s:Be}(h:fR s)(m:s≠[]):fQ (aE s 0)=bZ s:=by
 induction s with
 | nil=>grind
 | cons c s u=>
   obtain⟨i,j⟩:=h c oh;have d:=λx q=>h x (vn _ q);simp only[aE,Nat.zero_mul,xx,bZ];by_cases f:s=[]
   simp_all[aE,R1];by_cases a:c=48;subst a;rw[ot ⟨f,rfl⟩];exact u d f
   rw[oq (by simp[a]),R0 d (by
    intro e;apply a;apply ya.1
    grind),R1 i j];rfl
theorem R2{n:Nat}{s:Be}(i:aq<=n)(j:s.length<=maxLen):vP n s=some (bZ s):=by
 unfold vP;unfold aq at i;unfold maxLen at j;refine Ws (λt=>t.length) (λt=>bZ t=bZ s/\t.length<=s.length) (λt=>t=bZ s) oh om ?_ ?_;rintro t ⟨a,e⟩;simp only[ai,ap]
 match t,a,e with
 | [],a,e=>right;exact⟨[],oh,a⟩
 | [c],a,e=>grind[bZ]
 | c::d::t,a,e=>
   rw[ot ol,show 0=((0:Nat):Int) by rfl,jL oh,aa];simp only[List.getElem_cons_zero];by_cases f:c=48;left;subst f;rw[ot oc,show 1=((1:Nat):Int) by rfl,Z1 oh oh,aa];grind[bZ];right;have:¬ c.toNat=48:=λh=>f (ya.1 h);simp_all[bZ]
 simp
def cN(x:Qd):Qi:=⟨x.Op,x.I,x.N⟩
def cL(x:Q9):Jz:=⟨x.A0,x.Code.map cN⟩
def cF(x:Qo):Qt:=⟨x.Aw.map cL,x.Ax.map (·.map cN)⟩
theorem kM(x):(cN x).Op=x.Op:=oe
theorem KL(x):(cN x).I=x.I:=oe
theorem B6(x):(cN x).N=x.N:=oe
theorem KM:wrap64 (0+1)=1:=by grind[wrap64]
theorem R3:wrap64 (1 - 1)=0:=by grind[wrap64]
theorem w2m:wrap64 (2 - 1)=1:=by grind[wrap64]
theorem w11:wrap64 (1+1)=2:=by grind[wrap64]
def ar(op:Int):Int:=if 1<=op/\op<=5 then 0 else if op=6\/op=11 then 1 else if 7<=op/\op<=10 then 2 else -1
theorem qk(op:Int):ar op=0\/ar op=1\/ar op=2\/ar op=-1:=by grind[ar]
theorem B7(op:Int):mO op=some (ar op):=by
 unfold mO ar;by_cases i:1<=op/\op<=11;have:op=1\/op=2\/op=3\/op=4\/op=5\/op=6\/op=7\/op=8\/op=9\/op=10\/op=11:=om
 rcases this with rfl | rfl | rfl | rfl | rfl | rfl | rfl | rfl | rfl | rfl | rfl<;>rfl;have a:op≠1:=om
 have d:op≠2:=om
 have e:op≠3:=om
 have f:op≠4:=om
 grind[ai]
theorem KN(op:Int):Yu op=some (ar op):=by unfold Yu ar;simp only[ai,ap];grind
def sL(i:Nat)(x:Qi)(o:Int):Int ⊕ Int:=if ar x.Op<0\/o<ar x.Op then .inr (i:Int) else .inl (o+1 - ar x.Op)
def bU(c:List Qi):Int:=aT sL (λo=>if o=1 then -1 else (c.length:Int)) c 0 0
theorem R4{c:List Qi}(m:c.length<=4611686018427387904):uW c=some (bU c):=by unfold uW bU;refine Fs sL _ (λi o=>0<=o/\o<=i) c (λi x o f a=>?_) oh (λo _=>?_);have hi:=Vh f;have j:=qk x.Op;obtain⟨d,e⟩:=a;simp only[B7,aa,ai,ap,sL];by_cases h:ar x.Op<0\/o<ar x.Op;rw[ot h];grind[iK];rw[oq h];refine⟨?_,ol⟩;rw[oq om];simp(disch:=omega) only[aK,iK];grind;grind
theorem R5{n:Nat}{c:List Qd}(j:aq<=n)(q:c.length<=4611686018427387904):Zw n c=some (bU (c.map cN)):=by unfold Zw bU;unfold aq at j;rw[BT,xf];refine sH (λo i=>(o,(i:Int))) (λi x o=>sL i (cN x) o) (λo=>o) _ (λi o=>0<=o/\o<=i) c 0 (λi x o a d=>?_) oh ol oh om;have hi:=Vh a;have m:=qk x.Op;obtain⟨e,f⟩:=d;simp only[ap,Ku a,aa,KN,ai,sL,kM];simp only[ot (show(i:Int)<(c.length:Int) by omega)];by_cases h:ar x.Op<0\/o<ar x.Op;simp only[ot h];grind[dw];simp only[oq h];refine⟨?_,ol⟩;simp(disch:=omega) only[aK,dw];grind
theorem Q5d{c:List Qi}(a:c.length<=4611686018427387904):zN c=some (decide (bU c<0)):=by grind[zN,R4]
def jW(i:Nat)(x:Qi)(s:List (Int×Nat)):List (Int×Nat):=
 if ar x.Op=1 then match s with
  | (d,f)::r=>(max 0 d+1,f)::r
  | []=>[]
 else if ar x.Op=2 then match s with
  | (d,_)::(e,f)::r=>(max (max 0 d) e+1,f)::r
  | _=>[]
 else (1,i)::s
def fD(c:List Qi):Nat->List (Int×Nat)
 | 0=>[]
 | i+1=>match c[i]? with
   | some x=>jW i x (fD c i)
   | none=>fD c i
def fi(c:List Qi):Int:=if bU c<0 then ((fD c c.length).head?.map (·.1)).getD 0 else 0
def jj(c:List Qi)(i:Nat):Prop:=∀ j,j<i->∀ x,c[j]?=some x->0<=ar x.Op/\ar x.Op<=((fD c j).length:Int)
theorem sM{c:List Qi}{x:Qi}(h:c[i]?=some x):fD c (i+1)=jW i x (fD c i):=by grind[fD]
theorem FG{x:Qi}{s:List (Int×Nat)}(h0:0<=ar x.Op)(h:ar x.Op<=(s.length:Int)):((jW i x s).length:Int)=s.length+1 - ar x.Op:=by
 unfold jW;rcases qk x.Op with a | a | a | a;simp[a];grind;rw[oq om,ot a]
 match s,h with
 | [],h=>grind
 | [_],h=>grind
 | p::q::r,_=>grind
 omega
theorem B8(c:List Qi)(h:bU c<0):jj c c.length/\(fD c c.length).length=1:=by
 have key:∀(ys:List Qi) (i:Nat) (o:Int),c=c.take i++ys->i<=c.length->jj c i->((fD c i).length:Int)=o->aT sL (λo=>if o=1 then -1 else (c.length:Int)) ys i o<0 ->
  jj c c.length/\(fD c c.length).length=1:=by
  intro ys
  induction ys with
  | nil=>
    intro i o d hi e u h;have:i=c.length:=ol
    grind[aT]
  | cons y ys A=>
    intro i o d hi e u h;have f:c[i]?=some y:=by rw[d,xw ol];simp[yg hi]
    have m:=Vh f;simp only[aT,sL] at h;by_cases v:ar y.Op<0\/o<ar y.Op;grind;rw[oq v] at h;simp only[] at h;refine A (i+1) _ ?_ om ?_ ?_ h;grind;intro j q x w;by_cases a:j<i;exact e j a x w;grind;rw[sM f,FG om om];omega
 exact key c 0 0 oh oh (λj q=>by omega) rfl h
theorem wT{c:List Qi}:∀(i:Nat),i<=c.length->jj c i->∀ d f r,fD c i=(d,f)::r->f<i/\fD c f=r/\1<=d/\d<=i:=by
 intro i
 induction i using Nat.strongRecOn with
 | _ i C=>
   intro hi B d f r h;cases i with
   | zero=>grind[fD]
   | succ i=>
     have A:i<c.length:=om
     have H:c[i]?=some c[i]:=xm A;rw[sM H] at h;have O:=B i om _ H;have e:jj c i:=λj M=>B j om;unfold jW at h;rcases qk (c[i]).Op with a | a | a | a;grind;rw[ot a] at h;cases m:fD c i with
     | nil=>grind
     | cons p t=>
       obtain⟨u,q⟩:=p;rw[m] at h;simp only[List.cons.injEq,Prod.mk.injEq] at h;obtain⟨⟨v,w⟩,x⟩:=h;subst v w x;obtain⟨I,G,J,K⟩:=C i om om e u q t m;grind
     rw[oq om,ot a] at h
     match m:fD c i with
     | []=>grind
     | [_]=>grind
     | (u,q)::(E,F)::t=>
       rw[m] at h;simp only[List.cons.injEq,Prod.mk.injEq] at h;obtain⟨⟨v,w⟩,x⟩:=h;subst v w x;obtain⟨I,G,J,K⟩:=C i om om e u q ((E,F)::t) m;obtain⟨P,g3,g4,Q⟩:=C q om om (λj M=>B j om) E F t G;grind
     omega
def lM(s:List (Int×Nat)):List Int:=(s.map (·.1)).reverse
theorem wU(p:Int×Nat)(s):lM (p::s)=lM s++[p.1]:=by simp[lM]
theorem o9(s):(lM s).length=s.length:=by simp[lM]
theorem Q5e{n:Nat}{c:List Qi}(R:aq<=n)(V:c.length<=1000000000):zO n c=some (fi c):=by
 unfold zO fi;unfold aq at R;rw[Q5d om,aa];by_cases E:bU c<0;rw[ot E];simp only[ou E,ow,ak];obtain⟨q,C⟩:=B8 c E;refine nV (λi s=>i<=c.length/\s=lM (fD c i)) ⟨xu _,rfl⟩ (λi x s F O=>?_) (λs w=>?_);obtain⟨hi,rfl⟩:=O;have B:=Vh F;obtain⟨a0,a1⟩:=q i B x F;have v:(fD c i).length<=i:=by
  have:∀ k,k<=c.length->(fD c k).length<=k:=by
   intro k
   induction k with
   | zero=>intro _;simp[fD]
   | succ k T=>
     intro hk;have A:c[k]?=some c[k]:=xm om;obtain⟨I,J⟩:=q k om _ A;have:=FG (i:=k) I J;rw[sM A];have:=T om;omega
  grind
 refine⟨lM (fD c (i+1)),?_,om,rfl⟩;simp only[B7,aa];rw[sM F];unfold jW;obtain⟨m,rfl⟩:∃ m,n=m+3:=⟨n - 3,om⟩
 have a:∀(l:List Int) (d:Int),l.length<=i->(az 8 l [wrap64 (d+1)]).bind (λG=>some (Lp.go (τ:=Int) G))=some (Lp.go (l++[wrap64 (d+1)])):=by grind[Jv]
 rcases qk x.Op with u | u | u | u;rw[oq om,oq om,u];rw[Jp (t:=(lM (fD c i),0)) (by simp[]) om,aa,a _ _ (by grind[o9]),wU,aK om om];rfl;rw[ot u,u];cases w:fD c i with
 | nil=>grind
 | cons p r=>
   obtain⟨d,f⟩:=p;obtain⟨_,_,g1,M⟩:=wT i hi (λj H=>q j om) d f r w;rw[w] at v;have P:r.length<=i:=ol
   rw[wU];rw[V0 (s':=(lM r,max 0 d,1)) (by simp only[ap];rw[ot oc,wJ (by grind[o9]),aa,JS (by grind[o9]),aa,KM])];rw[Jp (t:=(lM r,max 0 d)) (by simp[]) om,aa,a _ _ (by grind[o9]),wU,aK om om]
 rw[oq om,ot u,u]
 match w:fD c i with
 | []=>grind
 | [_]=>grind
 | (d,f)::(e,K)::r=>
   obtain⟨W,U,g1,M⟩:=wT i hi (λj H=>q j om) d f _ w;obtain⟨_,_,g3,g4⟩:=wT f om (λj H=>q j om) e K r U;rw[w] at v;have P:r.length<=i:=ol
   have Q:r.length<9223372036854775807:=om
   rw[wU,wU];rw[V0 (s':=(lM r++[e],max 0 d,1)) (by simp only[ap];rw[ot oc,wJ (by grind[o9]),aa,JS (by grind[o9]),aa,KM])];rw[V0 (s':=(lM r,max (max 0 d) e,2)) (by simp only[ap];rw[ot oc,wJ (by grind[o9]),aa,JS (by grind[o9]),aa,w11])];rw[Jp (t:=(lM r,max (max 0 d) e)) (by simp[]) om,aa,a _ _ (by grind[o9]),wU,aK om om]
 omega;obtain⟨_,rfl⟩:=w
 match h:fD c c.length,C with
 | [p],_=>
   rfl
 grind
theorem R6{c:List Qi}:∀ i,jj c i->i<=c.length->(fD c i).length<=i:=by
 intro k
 induction k with
 | zero=>grind[fD]
 | succ k m=>
   intro d hk;have a:c[k]?=some c[k]:=xm om;obtain⟨e,f⟩:=d k om _ a;have:=FG (i:=k) e f;rw[sM a];have:=m (λj q=>d j om) om;omega
theorem Q5f{c:List Qd}(P:c.length<=1000000000)(w:jj (c.map cN) (c.map cN).length):∀(i:Nat) (n:Nat),i<c.length->i+10<=n ->
 ∀ d f r,fD (c.map cN) (i+1)=(d,f)::r->Y7 n c (i:Int)=some (d,(f:Int)):=by
 intro i
 induction i using Nat.strongRecOn with
 | _ i F=>
   intro n hi R d f r e;obtain⟨m,rfl⟩:∃ m,n=m+4:=⟨n - 4,om⟩
   rw[show m+4=(m+3)+1 by rfl];unfold Y7;have O:c[i]?=some c[i]:=xm hi;have x:(c.map cN)[i]?=some (cN c[i]):=ol
   have M:(c.map cN).length=c.length:=oh
   simp only[Ku O,aa,KN];rw[sM x] at e;obtain⟨a0,a1⟩:=w i om _ x;rw[kM] at a0 a1;unfold jW at e;rw[kM] at e;have K:∀ k,k<=i->jj (c.map cN) k:=λk hk j Q=>w j om;rcases qk (c[i]).Op with v | v | v | v;rw[oq om,oq om] at e;simp only[List.cons.injEq,Prod.mk.injEq] at e;obtain⟨⟨B,C⟩,G⟩:=e;rw[v,Jp (t:=(0,(i:Int))) (by simp[]) om,aa,<-B,<-C,KM];rw[ot v] at e;cases a:fD (c.map cN) i with
   | nil=>grind
   | cons p t=>
     obtain⟨u,q⟩:=p;rw[a] at e;simp only[List.cons.injEq,Prod.mk.injEq] at e;obtain⟨⟨B,C⟩,G⟩:=e;obtain⟨g1,H,g3,g4⟩:=wT i om ol u q t a;have J:0<i:=om
     have hd:=F (i - 1) om (m+3) om om u q t (by rw[show i - 1+1=i by omega];exact a);rw[show((i - 1:Nat):Int)=(i:Int) - 1 by omega] at hd;rw[v];rw[V0 (s':=(max 0 u,(q:Int),0)) (by simp only[ap];rw[ot oc,aK om om,hd,aa,R3])];grind[Jp,aK]
   rw[oq om,ot v] at e
   match a:fD (c.map cN) i with
   | []=>grind
   | [_]=>grind
   | (u,q)::(A,E)::t=>
     rw[a] at e;simp only[List.cons.injEq,Prod.mk.injEq] at e;obtain⟨⟨B,C⟩,G⟩:=e;obtain⟨g1,H,g3,g4⟩:=wT i om ol u q _ a;obtain⟨T,U,V,W⟩:=wT q om ol A E t H;have hd:=F (i - 1) om (m+3) om om u q _ (by rw[show i - 1+1=i by omega];exact a);rw[show((i - 1:Nat):Int)=(i:Int) - 1 by omega] at hd;have I:=F (q - 1) om (m+3) om om A E t ol;rw[show((q - 1:Nat):Int)=(q:Int) - 1 by omega] at I;rw[v];rw[V0 (s':=(max 0 u,(q:Int),1)) (by simp only[ap];rw[ot oc,aK om om,hd,aa,w2m])];rw[V0 (s':=(max (max 0 u) A,(E:Int),0)) (by simp only[ap];rw[ot oc,aK om om,I,aa,R3])];rw[Jp (t:=(max (max 0 u) A,(E:Int))) (by simp[]) om,aa,aK om om,<-B,<-C]
   omega
theorem Q2w{n:Nat}{c:List Qd}(i:aq<=n)(q:c.length<=1000000000):Bv n c=some (fi (c.map cN)):=by
 unfold Bv fi;rw[R5 i om,aa];unfold aq at i;by_cases m:bU (c.map cN)<0;rw[ot m,ap,oq om];obtain⟨a,e⟩:=B8 _ m;have u:(c.map cN).length=c.length:=oh
 match h:fD (c.map cN) (c.map cN).length,e with
 | [(d,f)],_=>
   have j:0<c.length:=by grind[fD]
   rw[aK om om,show((c.length:Int) - 1)=((c.length - 1:Nat):Int) by omega,Q5f q a (c.length - 1) n om om d f [] ol];rfl
 grind
theorem Q2x{c:List Qi}(f:c.length<=1000000000)(a:∀ x∈c,x.N.length<=1000000000):rT c=some c:=by
 unfold rT;refine nV (λi s=>i<=c.length/\s=c.take i) oh (λi x s d e=>?_) (λs m=>?_);obtain⟨_,rfl⟩:=e;have hi:=Vh d;have j:(c.take i).length=i:=oj
 refine⟨c.take (i+1),?_,om,rfl⟩;have a:=a x (mt d);rw[Jv oj oj,aa,Jv oj oj,aa,Kd hi];simp_all;grind[Vp]
def aQ(f:Qt):List (List Qi):=f.Aw.map (·.Code)++f.Ax
def jk(f:Qt):Int:=(aQ f).foldl (λn c=>n+(c.length:Int)) 0
def FB(f:Qt):Prop:=f.Aw.length<=1000/\f.Ax.length<=1000/\∀ c∈aQ f,c.length<=100000/\∀ x∈c,x.N.length<=100000/\Wd x.N
theorem Q5g{f:Qt}(h:FB f):zD f=some (aQ f):=by
 unfold zD;obtain⟨m,q,u⟩:=h;have j:∀ c∈aQ f,rT c=some c:=by grind[Q2x]
 refine nV (λi s=>i<=f.Aw.length/\s=(f.Aw.take i).map (·.Code)) oh (λi x s e a=>?_) (λs d=>?_);obtain⟨_,rfl⟩:=a;have hi:=Vh e;refine⟨(f.Aw.take (i+1)).map (·.Code),?_,om,rfl⟩;rw[j _ (List.mem_append_left _ ol),aa,Jv ol ol,aa,Kd hi];grind;rw[d.2,Vp,yp];refine nV (λi s=>i<=f.Ax.length/\s=f.Aw.map (·.Code)++f.Ax.take i) oh (λi x s e a=>?_) (λs d=>?_);obtain⟨_,rfl⟩:=a;have hi:=Vh e;refine⟨f.Aw.map (·.Code)++f.Ax.take (i+1),?_,om,rfl⟩;rw[j _ (List.mem_append_right _ ol),aa,Jv ol ol,aa,Kd hi];grind;rw[d.2,Vp,yp];rfl
theorem Jci{l:List (List Qi)}:∀ {a:Int},(∀ c∈l,c.length<=100000)->l.foldl (λn c=>n+(c.length:Int)) a<=a+100000*l.length/\a<=l.foldl (λn c=>n+(c.length:Int)) a:=by
 induction l with
 | nil=>simp
 | cons c l d=>
   grind
theorem R7{l:List (List Qi)}{x}(h:l[i]?=some x)(a:Int):(l.take (i+1)).foldl (λn c=>n+(c.length:Int)) a=(l.take i).foldl (λn c=>n+(c.length:Int)) a+x.length:=by grind[Kd]
theorem Jgg{f:Qt}(h:FB f):(aQ f).length<=2000:=by unfold aQ;simp;have:=h.1;have:=h.2.1;omega
theorem Q7l{f:Qt}(h:FB f):zE f=some (jk f):=by
 unfold zE;rw[Q5g h,aa];have u:=Jgg h;refine nV (λi s=>i<=(aQ f).length/\s=((aQ f).take i).foldl (λn c=>n+(c.length:Int)) 0) oh (λi x s a d=>?_) (λs m=>?_);obtain⟨_,rfl⟩:=d;have hi:=Vh a;have e:=@Jci ((aQ f).take (i+1)) 0 (λc q=>(h.2.2 c ol).1);rw[R7 a] at e;have j:((aQ f).take (i+1)).length<=2000:=ol
 refine⟨((aQ f).take (i+1)).foldl (λn c=>n+(c.length:Int)) 0,?_,om,rfl⟩;grind[R7,aK];rw[m.2,Vp,yp];rfl
theorem FH(f:Qo):aQ (cF f)=(f.Aw.map (·.Code)++f.Ax).map (·.map cN):=by simp[aQ,cF,cL]
theorem R8{n:Nat}{f:Qo}(d:aq<=n)(e:f.Aw.length<=1000)(j:f.Ax.length<=1000):Wi n f=some (f.Aw.map (·.Code)++f.Ax):=by unfold Wi;unfold aq at d;refine wH (λs i=>(s,(i:Int))) (λi (x:Q9) s=>.inl (s++[x.Code])) (λs=>s) (λi s=>s.length=i) f.Aw [] (λi x s a m=>?_) oh rfl om ?_;have hi:=Vh a;refine⟨?_,ol⟩;simp only[ap,ot (show(i:Int)<(f.Aw.length:Int) by omega),Ku a,aa];rw[Jv ol ol,aa,w1 om];rfl;rw[qd (λ(x:Q9) s=>s++[x.Code]),wI,xi,Jv ol ol,aa]
theorem Q5h{n:Nat}{f:Qo}(j:aq<=n)(h:FB (cF f)):Bq n f=some (jk (cF f)):=by
 unfold Bq;have m:f.Aw.length<=1000:=by have:=h.1;simpa [cF] using this
 have q:f.Ax.length<=1000:=by have:=h.2.1;simpa [cF] using this
 rw[R8 j m q,aa];unfold aq at j;unfold jk;rw[FH,List.foldl_map];generalize e:f.Aw.map (·.Code)++f.Ax=l;have v:l.length<=2000:=by rw[<-e];simp;omega
 have a:∀ c∈l,c.length<=100000:=λc B=>by
  have:=(h.2.2 (c.map cN) (by rw[FH,e];exact by grind)).1
  simpa using this
 refine wH (λ(s:Int) i=>(s,(i:Int))) (λi (x:List Qd) s=>.inl (s+x.length)) (λs=>s) (λi s=>0<=s/\s<=100000*i) l 0 (λi x s d u=>?_) oh oh om ?_;have hi:=Vh d;have w:=a x (mt d);obtain⟨g1,A⟩:=u;refine⟨?_,ol⟩;simp only[ap,ot (show(i:Int)<(l.length:Int) by omega),Ku d,aa];rw[aK om om,w1 om];rfl;simp[qd]
def gI(c:Nat):Bool:=decide (48<=c/\c<=57)
def jl(c:Nat):Bool:=decide (97<=c/\c<=122\/65<=c/\c<=90\/c=95)
def jm:Be:=[43,45,42,47,94,40,41,91,93,44,59,61]
def lO(c:Nat):Bool:=jm.any (λx=>x.toNat=c)
def aD(c:Nat):Int:=if gI c then 1 else if jl c then 2 else if lO c then 3 else 0
def gm(k:Int)(c:Nat):Bool:=(decide (k=1) && gI c) || (decide (k=2) && (jl c || gI c))
def bm(k:Int):Nat:=if k=1 then 60 else if k=2 then 12 else 1
def dp(k:Int):Be->Bool
 | []=>false
 | c::r=>decide (k≠0) && (decide (aD c.toNat=k) && (r.all (λb=>gm k b.toNat) && decide (r.length+1<=bm k)))
theorem R9(c:Nat):pU c=some (gI c):=by unfold pU gI;simp only[ai,ap];grind
theorem Sa(c:Nat):rN c=some (jl c):=by unfold rN jl;simp only[ai,ap];grind
theorem Jgh{s:Be}{p:Nat}{c:UInt8}(h:s[p]?=some c)(d:c.toNat<128):ig s p=c.toNat/\iY s p=1:=by
 have a:((⟨s.toArray⟩:ByteArray).get! (p+0)).toNat=c.toNat:=by
  have e:=Vh h;have:((⟨s.toArray⟩:ByteArray).get! (p+0))=c:=by show s.toArray[p+0]! = c;simp[h]
  rw[this]
 simp_all[ig,iY,Utf8.decode]
theorem Q9w{n:Nat}(v:aq<=n):za n c=some (lO c):=by
 unfold za;unfold aq at v;have e:lO c=aT (τ:=Bool) (λ_ (x:UInt8) (_:Unit)=>if x.toNat=c then .inr true else .inl ()) (λ_=>false) jm 0 ():=by
  unfold lO;have:∀(l:Be) (i:Nat),l.any (λx=>decide (x.toNat=c))=aT (τ:=Bool) (λ_ (x:UInt8) (_:Unit)=>if x.toNat=c then .inr true else .inl ()) (λ_=>false) l i ():=by
   intro l
   induction l with
   | nil=>intro i;rfl
   | cons x l w=>
     intro i;simp only[wq,aT];grind
  grind
 rw[e];refine sH (λ_ i=>i) (λ_ (x:UInt8) (_:Unit)=>if x.toNat=c then .inr true else .inl ()) (λ_=>()) _ (λ_ _=>True) jm () (λi x b m _=>⟨?_,oh⟩) (λb _=>by rfl) oh trivial (by simp[jm];omega);have hi:=Vh m;have j:x.toNat<128:=by
  have:∀ y∈jm,y.toNat<128:=oc
  grind
 obtain⟨q,u⟩:=Jgh m j;have a:ig [43,45,42,47,94,40,41,91,93,44,59,61] i=x.toNat:=q;have d:iY [43,45,42,47,94,40,41,91,93,44,59,61] i=1:=u;have f:i<([43,45,42,47,94,40,41,91,93,44,59,61]:Be).length:=hi;simp only[ap,ot f,aa,a,d];rw[show Int.toNat ((x.toNat:Int)%256)=x.toNat by omega];by_cases h:x.toNat=c;rw[ot h,ot h];rfl;rw[oq h,oq h];rfl
theorem FI{n:Nat}(a:aq<=n):uO n c=some (aD c):=by
 unfold uO aD;rw[R9,aa];cases gI c with
 | true=>rfl
 | false=>
   rw[ak,Sa,aa];cases jl c with
   | true=>rfl
   | false=>rw[ak,Q9w a,aa];grind
theorem Q9x(k:Int)(c:Nat):ze k c=some (gm k c):=by unfold ze gm;simp only[ai,R9,Sa,aa,ap];grind
theorem KO(k:Int):rP k=some (bm k:Int):=by grind[rP,bm]
def hC(k:Int)(s:Be):Nat:=1+((s.drop 1).takeWhile (λc=>gm k c.toNat)).length
theorem B9(p:α->Bool)(l:List α):(l.takeWhile p)=l.take (l.takeWhile p).length:=by
 induction l with
 | nil=>rfl
 | cons x l a=>
   grind[List.takeWhile_cons]
theorem KP{α:Type}{p:α->Bool}:∀ {l:List α}{i:Nat},i<(l.takeWhile p).length->∃ x,l[i]?=some x/\p x=true
 | [],i,h=>by simp at h
 | y::l,0,h=>by
   cases a:p y with
   | true=>grind
   | false=>simp_all
 | y::l,i+1,h=>by
   rw[xj] at h;cases a:p y with
   | true=>simp_all[KP]
   | false=>grind
theorem FJ{α:Type}{p:α->Bool}:∀ {l:List α}{x:α},l[(l.takeWhile p).length]?=some x->p x=false
 | [],x,h=>by simp at h
 | y::l,x,h=>by
   rw[xj] at h;cases a:p y with
   | true=>rw[a] at h;simp only[yt,xd,List.getElem?_cons_succ] at h;exact FJ h
   | false=>grind
theorem n4(p:α->Bool)(l:List α):(l.takeWhile p).length<=l.length:=by grind[List.takeWhile_sublist]
theorem Sb{n:Nat}{s:Be}{k:Int}(v:aq<=n)(C:s.length<=4611686018427387904):rO n s k=some (hC k s:Int):=by
 unfold rO;unfold aq at v;generalize B:(λc:UInt8=>gm k c.toNat)=p;have w:∀ c:UInt8,gm k c.toNat=p c:=ol
 have f:((s.drop 1).takeWhile p).length<=s.length:=by grind[Nat.le_trans,n4]
 have m:hC k s=1+((s.drop 1).takeWhile p).length:=by grind[hC]
 rw[m];refine Ws (λs':Int=>s.length+2 - s'.toNat) (λs'=>∃ j:Nat,s'=((1+j:Nat):Int)/\j<=((s.drop 1).takeWhile p).length) (λt=>t=((1+((s.drop 1).takeWhile p).length:Nat):Int)) ⟨0,rfl,xu _⟩ om (λs' q=>?_) oh;obtain⟨j,rfl,A⟩:=q;simp only[ai,ap];by_cases u:1+j<s.length;rw[ot om,jL u,aa,Q9x,aa];have e:(s.drop 1)[j]?=some s[1+j]:=ol
 by_cases a:j<((s.drop 1).takeWhile p).length;obtain⟨x,d,i⟩:=KP a;rw[e] at d;cases d;left;refine⟨((1+(j+1):Nat):Int),?_,⟨j+1,rfl,om⟩,om⟩;have:gm k (s[1+j]).toNat=true:=ol
 rw[this,aj,w1 om];rfl;right;obtain rfl:j=((s.drop 1).takeWhile p).length:=om
 have i:=FJ e;simp_all;right;rw[oq om];refine⟨_,rfl,?_⟩;grind[n4]
theorem FK{α:Type}{p:α->Bool}:∀ {l:List α},(l.takeWhile p).length=l.length↔l.all p=true
 | []=>oh
 | x::l=>by
   rw[xj];cases a:p x with
   | true=>simp[a,FK]
   | false=>simp[a]
theorem FL{n:Nat}{w:Qm}(d:aq<=n)(f:w.Av.length<=4611686018427387904):pV n w=some (dp w.Az w.Av):=by
 unfold pV;simp only[ai,Sb d f,aa,KO,ap];cases i:w.Av with
 | nil=>rfl
 | cons c r=>
   rw[oq oh];by_cases h0:w.Az=0;simp_all[dp];rw[oq h0,show bv (c::r) 0=some c.toNat by rfl,aa,FI d,aa];by_cases hk:aD c.toNat=w.Az;simp only[ou hk,ow,ak];have e:(hC w.Az (c::r):Int)=((c::r).length:Int)↔r.all (λb=>gm w.Az b.toNat)=true:=by grind[FK,hC]
   by_cases a:r.all (λb=>gm w.Az b.toNat)=true;rw[ot (e.2 a)];simp only[dp,a,hk];simp;grind;rw[oq ol];have:r.all (λb=>gm w.Az b.toNat)=false:=ol
   simp only[dp,this,Bool.false_and,Bool.and_false];simp_all[dp]
theorem Sc(c:Nat):Xu c=some (gI c):=by unfold Xu gI;simp only[ai,ap];grind
theorem Sd(c:Nat):Yf c=some (jl c):=by unfold Yf jl;simp only[ai,ap];grind
theorem Q5i(k:Int)(c:Nat):AX k c=some (gm k c):=by unfold AX gm;simp only[ai,Sc,Sd,aa,ap];grind
theorem Q5j(k:Int):AZ k=some (bm k:Int):=by grind[AZ,bm]
theorem Q5k{n:Nat}(j:aq<=n):AY n c=some (aD c):=by
 unfold AY aD;rw[Sc,aa];cases gI c with
 | true=>rfl
 | false=>
   rw[ak,Sd,aa];cases jl c with
   | true=>rfl
   | false=>
     rw[ak];unfold aq at j;have e:(if lO c=true then 3 else 0)=aT (τ:=Int) (λ_ (x:UInt8) (_:Unit)=>if x.toNat=c then .inr 3 else .inl ()) (λ_=>0) jm 0 ():=by
      unfold lO;have:∀(l:Be) (i:Nat),(if l.any (λx=>decide (x.toNat=c))=true then 3 else 0)=aT (τ:=Int) (λ_ (x:UInt8) (_:Unit)=>if x.toNat=c then .inr 3 else .inl ()) (λ_=>0) l i ():=by
       intro l
       induction l with
       | nil=>intro i;rfl
       | cons x l m=>
         intro i;simp only[wq,aT];grind
      grind
     simp only[Bool.false_eq_true,if_false];rw[e];refine sH (λ_ i=>(i:Int)) (λ_ (x:UInt8) (_:Unit)=>if x.toNat=c then .inr 3 else .inl ()) (λ_=>()) _ (λ_ _=>True) jm () (λi x b d _=>⟨?_,oh⟩) (λb _=>by rfl) oh trivial (by simp[jm];omega);have hi:=Vh d;have a:i<([43,45,42,47,94,40,41,91,93,44,59,61]:Be).length:=hi;have f:bv [43,45,42,47,94,40,41,91,93,44,59,61] (i:Int)=some x.toNat:=by
      rw[Yr];have:([43,45,42,47,94,40,41,91,93,44,59,61]:Be)[i]?=some x:=d;grind
     simp only[ap,aa,ot (show(i:Int)<(([43,45,42,47,94,40,41,91,93,44,59,61]:Be).length:Int) by omega),f];by_cases h:x.toNat=c;rw[ot h,ot h];rfl;rw[oq h,oq h,w1 (by simp at a;omega)];rfl
structure Jom(n k:Nat)(t:Jq):Prop where
 r:iy t
 h:vJ n t=some true
 w:∀ c∈t.Code,Fk k c.N
def cz(l:List Rat):Rat:=l.foldl (λo x=>o+x) 0
theorem wV{k:Nat}:∀ {l:List Rat}{b:Nat}{z:Rat},QR k l->qw z<=b->qw (l.foldl (λo x=>o+x) z)<=b+l.length*(k+1)
 | [],b,z,_,h=>ol
 | x::l,b,z,a,h=>by rw[vw];have:=wV (l:=l) (λq d=>a q (.tail _ d)) (Jod h (a x (.head _)));grind[Nat.succ_mul]
theorem Se{n k:Nat}{a:List Qb}(e:aq<=n)(j:1<=k)(hk:k<1048576)(d:FR k a)(w:a.length<=1000):p9 n a=some (ce (cz (rv a))):=by
 unfold p9;rw[sJ e,aa,wK (λi=>ce ((rv (a.take i)).foldl (λo x=>o+x) 0)) a,Vp,yp];rfl;intro i x m;have hi:=Vh m;have q:a.take (i+1)=a.take i++[x]:=by grind[List.take_add_one]
 have f:rv (a.take (i+1))=rv (a.take i)++[fv x]:=by grind[rv]
 have u:=wV (l:=rv (a.take i)) (b:=1) (z:=0) (mX (λy A=>d y ol) j) (by simp[qe]);have v:(rv (a.take i)).length*(k+1)<=1000*1048576:=uo (by grind[KE]) om;rw[Q9o (k:=2000000000) e om om (by grind[lF]) (mu (d x ol) om),aa,f,List.foldl_append,nX];rfl;rfl
def ba(x:Qb):Prop:=x=ce (fv x)/\qz (fv x)<=190
theorem Sf{n k:Nat}{x:Qb}(f:aq<=n)(hk:k<1048576)(i:Fk k x):
 ((mQ n x).bind λa=>bif !a then some true else (mr n x).bind λd=>some (decide (190<d)))=some (!dP (ba x)):=by
 rw[Rg f (by grind[mW]),aa,@mZ _ (Classical.propDecidable _),fC];unfold ba;by_cases h:x=ce (fv x)
 . have j:qw (fv x)<1099511627776:=by
    rcases wt k with h0 | h0
    . subst h0
      have:=jh (mu i (show 0<=1 by omega)) oh;omega
    . have:=jh i h0;omega
   have e:mr n x=some (qz (fv x):Int):=by
    conv=>lhs;rw[h]
    exact Q45 f j
   rw[ot h,e,aa];grind[cq,aL]
 simp_all[aL]
theorem Sg{n k:Nat}{l:List (List Qb)}(d:aq<=n)(hk:k<1048576)(a:∀ r∈l,FR k r):vB n l=some (dP (∀ r∈l,∀ x∈r,ba x)):=by
 unfold vB;rw[o7 (λ_ (r:List Qb)=>∀ x∈r,ba x) (r:=false)];rw[B2];by_cases h:∀ r∈l,∀ x∈r,ba x;rw[ot h,cq h];rw[oq h,aL h];intro i r f;rw[show(ao _ r 0 ()).bind _=@ite _ (∀ x∈r,ba x) (Classical.propDecidable _) (some (Lp.go ())) (some (Lp.out (σ:=Unit) (τ:=Bool) false)) from ?_];grind;rw[o7 (λ_ (x:Qb)=>ba x) (r:=Lp.out false),B2];intro j x m;have e:=Sf d hk (a r ol x ol);rw[ai];revert e;cases mQ n x with
 | none=>intro e;cases e
 | some b=>
   cases b<;>cases mr n x<;>grind[cq,aL]
def cA(s:Q5):Prop:=(1<=s.B.length/\s.B.length<=8)/\s.C.length=s.B.length/\s.A.length=s.B.length/\(s.E.length=s.B.length\/s.E.length=0)/\∀(i:Nat) r,s.A[i]?=some r->r.length=i
theorem Q1l(s:Q5):AC s=some (dP (cA s)):=by
 unfold AC cA;simp only[ai,ap,bB];by_cases c1:(s.B.length:Int)<1
 . rw[ot c1,aj,aL om]
 rw[oq c1];by_cases c2:8<(s.B.length:Int)
 . rw[ot c2,aj,aL om]
 rw[oq c2];by_cases c3:(s.C.length:Int)=(s.B.length:Int)
 case neg=>rw[oq c3,aj,aL om]
 rw[ot c3];by_cases c4:(s.A.length:Int)=(s.B.length:Int)
 case neg=>rw[oq c4,aj,aL om]
 rw[ot c4];have q:=o7 (f:=λ(a:Nat) (d:List Qb) (_:Unit)=>bif !decide ((d.length:Int)=(a:Int)) then some (Lp.out false) else some (Lp.go ())) (K:=λ_=>some true) (r:=false) (λi (r:List Qb)=>r.length=i) s.A ol;have e:(ao (λ(a:Nat) (d:List Qb) (_:Unit)=>if (d.length:Int)=(a:Int) then some (Lp.go ()) else some (Lp.out false)) s.A 0 ()).bind (aS λ_=>some true)=(ao (λ(a:Nat) (d:List Qb) (_:Unit)=>bif !decide ((d.length:Int)=(a:Int)) then some (Lp.out false) else some (Lp.go ())) s.A 0 ()).bind (aS λ_=>some true):=ol
 have eG:(s.E.length=s.B.length\/s.E.length=0)->(ao (λ(a:Nat) (d:List Qb) (_:Unit)=>if (d.length:Int)=(a:Int) then some (Lp.go ()) else some (Lp.out false)) s.A 0 ()).bind (aS λ_=>some true)=some (dP ((1<=s.B.length/\s.B.length<=8)/\s.C.length=s.B.length/\s.A.length=s.B.length/\(s.E.length=s.B.length\/s.E.length=0)/\∀(i:Nat) r,s.A[i]?=some r->r.length=i)):=by
  intro m;rw[e,q];by_cases h:∀(i:Nat) r,s.A[i]?=some r->r.length=i
  . rw[ot h,cq ⟨om,om,om,m,h⟩]
  simp_all[aL]
 by_cases c5:(s.E.length:Int)=(s.B.length:Int)
 . grind
 . rw[oq c5]
   by_cases j:(s.E.length:Int)=0
   . grind
   . rw[oq j,aL om]
structure hH(k:Nat)(s:Q5):Prop where
 a:∀ r∈s.A,FR k r
 b:FR k s.B
 c:FR k s.C
 e:FR k s.E
 n:s.A0.length<=4611686018427387904
def fj(s:Q5):Prop:=∀(i:Nat) r,s.A[i]?=some r->cz (rv r)=fv (s.C.getD i ⟨⟨false,[]⟩,[]⟩)
theorem Q2y{n k:Nat}{s:Q5}(j:aq<=n)(e:1<=k)(hk:k<1048576)(q:hH k s)(d:cA s):AK n s=some (dP (fj s)):=by
 unfold AK;obtain⟨⟨g1,A⟩,g3,g4,B,u⟩:=d;rw[o7 (λi (r:List Qb)=>cz (rv r)=fv (s.C.getD i ⟨⟨false,[]⟩,[]⟩)) (r:=false)];unfold fj;by_cases h:∀(i:Nat) r,s.A[i]?=some r->cz (rv r)=fv (s.C.getD i ⟨⟨false,[]⟩,[]⟩);rw[ot h,cq h];rw[oq h,aL h];intro i r m;have hi:=Vh m;have f:s.C[i]?=some (s.C.getD i ⟨⟨false,[]⟩,[]⟩):=ol
 have a:=q.a r ol;have x:=u i r m;have w:=q.c _ (mt f);have C:=wV (l:=rv r) (b:=1) (z:=0) (mX a e) (by simp_all[qe]);have v:(rv r).length*(k+1)<=8*1048576:=uo (by grind[KE]) om;rw[Se j e hk a om,aa,Ku f,aa,JW (k:=10000000) j om om (by grind[lF,cz]) (by grind[mu]),aa,nX];grind
def iL(s:Q5):Prop:=dp 2 s.A0=true/\cA s/\((∀ r∈s.A,∀ x∈r,ba x)/\∀ r∈[s.B,s.C,s.E],∀ x∈r,ba x)/\fj s/\cz (rv s.B)=1/\(s.E≠[]->cz (rv s.E)=1)
theorem Sh{n k:Nat}{a:List Qb}(j:aq<=n)(e:1<=k)(hk:k<1048576)(i:FR k a)(v:a.length<=8)(f:Bool->Option β):
 ((p9 n a).bind λd=>(oU n d (ce 1)).bind f)=f (decide (cz (rv a)=1)):=by
 have u:=wV (l:=rv a) (b:=1) (z:=0) (mX i e) (by simp[qe]);have m:(rv a).length*(k+1)<=8*1048576:=uo (by grind[KE]) om;have q:qw 1<=10000000:=by simp[qw,sI]
 rw[Se j e hk i om,aa,JW (k:=10000000) j om om (by grind[lF,cz]) (lF q),aa,nX,nX]
noncomputable def gJ(s:Q5):Int:=bif !(dp 2 s.A0) then 1 else bif !dP (cA s) then 2 else bif !dP ((∀ r∈s.A,∀ x∈r,ba x)/\∀ r∈[s.B,s.C,s.E],∀ x∈r,ba x) then 3 else bif !dP (fj s) then 4 else bif !dP (cz (rv s.B)=1) then 5 else bif !dP (s.E≠[]->cz (rv s.E)=1) then 6 else 0
section
variable {s:Q5}
theorem KQ(h:dp 2 s.A0=false):gJ s=1:=by grind[gJ]
theorem FN(a:dp 2 s.A0=true)(h:¬ cA s):gJ s=2:=by grind[gJ,aL]
theorem Ca(a:dp 2 s.A0=true)(d:cA s)(h:¬((∀ r∈s.A,∀ x∈r,ba x)/\∀ r∈[s.B,s.C,s.E],∀ x∈r,ba x)):gJ s=3:=by grind[gJ,cq,aL]
theorem KR(a:dp 2 s.A0=true)(d:cA s)(e:(∀ r∈s.A,∀ x∈r,ba x)/\∀ r∈[s.B,s.C,s.E],∀ x∈r,ba x)(h:¬ fj s):gJ s=4:=by grind[gJ,cq,aL]
theorem KS(a:dp 2 s.A0=true)(d:cA s)(e:(∀ r∈s.A,∀ x∈r,ba x)/\∀ r∈[s.B,s.C,s.E],∀ x∈r,ba x)(f:fj s)(h:¬ cz (rv s.B)=1):gJ s=5:=by grind[gJ,cq,aL]
theorem KT(a:dp 2 s.A0=true)(d:cA s)(e:(∀ r∈s.A,∀ x∈r,ba x)/\∀ r∈[s.B,s.C,s.E],∀ x∈r,ba x)(f:fj s)(i:cz (rv s.B)=1)(h:¬(s.E≠[]->cz (rv s.E)=1)):gJ s=6:=by grind[gJ,cq,aL]
theorem FP(h:iL s):gJ s=0:=by obtain⟨a,d,e,f,i,j⟩:=h;grind[gJ,cq]
theorem Si:gJ s=0↔iL s:=by
 refine⟨λh=>?_,FP⟩;cases j:dp 2 s.A0
 . grind[KQ]
 by_cases a:cA s
 case neg=>grind[FN]
 by_cases d:(∀ r∈s.A,∀ x∈r,ba x)/\∀ r∈[s.B,s.C,s.E],∀ x∈r,ba x
 case neg=>grind[Ca]
 by_cases e:fj s
 case neg=>grind[KR]
 by_cases f:cz (rv s.B)=1
 case neg=>grind[KS]
 by_cases i:s.E≠[]->cz (rv s.E)=1
 case neg=>grind[KT]
 exact⟨j,a,d,e,f,i⟩
end
theorem Sj{n k:Nat}{s:Q5}(e:aq<=n)(u:1<=k)(hk:k<1048576)(d:hH k s):si n s=some (gJ s):=by
 unfold si;rw[JU e,aa,FL (w:=⟨2,s.A0,0⟩) e d.n,aa];simp only[];cases E:dp 2 s.A0
 . grind[KQ]
 rw[ow,ak,Q1l,aa,fC];by_cases a:cA s
 case neg=>simp_all[FN]
 rw[ot a];have F:=a;obtain⟨⟨g1,G⟩,g3,g4,H,I⟩:=F;simp only[ai];rw[Sg e hk d.a,aa,fC]
 have B:∀ r∈[s.B,s.C,s.E],FR k r:=λr f=>by
  rcases xk.1 f with rfl | f
  . exact d.b
  rcases xk.1 f with rfl | f
  . exact d.c
  rcases xk.1 f with rfl | f
  . exact d.e
  cases f
 by_cases j:∀ r∈s.A,∀ x∈r,ba x
 case neg=>rw[oq j,aj];grind[Ca]
 rw[ot j,Sg e hk B,aa,fC];by_cases m:∀ r∈[s.B,s.C,s.E],∀ x∈r,ba x
 case neg=>rw[oq m];grind[Ca]
 rw[ot m,Q2y e u hk d a,aa,fC];by_cases q:fj s
 case neg=>rw[oq q];grind[KR]
 rw[ot q,Sh e u hk d.b om,bB];by_cases i:cz (rv s.B)=1
 case neg=>rw[oq i];grind[KS]
 rw[ot i,ap];by_cases C:0<(s.E.length:Int)
 . have A:s.E≠[]:=ol
   rw[ot C,Sh e u hk d.e om,bB];by_cases v:cz (rv s.E)=1
   . rw[ot v];rw[FP ⟨E,a,⟨j,m⟩,q,i,λ_=>v⟩]
   . rw[oq v];grind[KT]
 . have A:s.E=[]:=ol
   rw[oq C,ak];rw[FP ⟨E,a,⟨j,m⟩,q,i,ol⟩]
theorem Q1m{n k:Nat}{s:Q5}(d:aq<=n)(a:1<=k)(hk:k<1048576)(e:hH k s):∃ v,si n s=some v/\(v=0↔iL s):=⟨_,Sj d a hk e,Si⟩
theorem Q1n{n k:Nat}{s:Q5}(d:aq<=n)(a:1<=k)(hk:k<1048576)(e:hH k s):AS n s=some (dP (iL s)):=by grind[Q1m,AS,m3]
section
variable {n k:Nat}{p:Jw}{t h:Qb}{y:List Qb}{g:Q85}{ys ks:List (List Qb)}{nx er:List Qb}
structure Cb(n k:Nat)(p:Jw)(t h:Qb)(y:List Qb):Prop where
 tp:Jom n k p.Tape
 sw:hH k p.A3
 sr:iL p.A3
 pk:FR k p.P
 pl:(p.P.length:Int)=p.Tape.Par
 tk:Fk k t
 hk:Fk k h
 yk:FR k y
 yl:(y.length:Int)=p.Tape.Bc
end
section
variable {n k:Nat}{p:Jw}{t h:Qb}{y:List Qb}
theorem Q5l(a:aq<=n)(d:1<=k)(hk:k<1048576)(f:TW p.Tape)(hd:-9223372036854775808<=p.Tape.Bc/\p.Tape.Bc<=9223372036854775807)(e:hH k p.A3):
 vK n p=some (dP (iy p.Tape/\iL p.A3/\(p.P.length:Int)=p.Tape.Par)):=by
 unfold vK;simp only[ai];rw[RQ a f hd,aa,lI];by_cases c1:iy p.Tape;rw[ot c1,Q1n a d hk e,aa,lI];by_cases c2:iL p.A3;rw[ot c2];exact by grind[m3]
 simp_all[aL];simp_all[aL]
end
structure iM(k:Nat)(p:Jw):Prop where
 t:∀ c∈p.Tape.Code,Fk k c.N
 d:-9223372036854775808<=p.Tape.Bc/\p.Tape.Bc<=9223372036854775807
 s:hH k p.A3
 p:FR k p.P
def jX(p:Jw):Prop:=iy p.Tape/\iL p.A3/\(p.P.length:Int)=p.Tape.Par
theorem iM.tw{k:Nat}{p:Jw}(h:iM k p)(hk:k<1048576):TW p.Tape:=λc a=>mW (h.t c a) om
theorem Jgi{n k:Nat}{p:Jw}(d:aq<=n)(h0:129<=k)(hk:k<8000)(a:iM k p):vK n p=some (dP (jX p)):=
 Q5l d om om (a.tw om) a.d a.s
theorem iM.ok{n k:Nat}{p:Jw}{t h:Qb}{y:List Qb}(a:iM k p)(i:aq<=n)(hk:k<8000)(d:jX p)(j:Fk k t)(e:Fk k h)(m:FR k y)(f:(y.length:Int)=p.Tape.Bc):Cb n k p t h y:=
 ⟨⟨d.1,by rw[RQ i (a.tw om) a.d,cq d.1],a.t⟩,a.s,d.2.1,a.p,d.2.2,j,e,m,f⟩
def cW(c:Nat):Bool:=decide (c=32\/c=9\/c=10\/c=13)
theorem pb{α:Type}(p:α->Bool):∀(l:List α),(l.dropWhile p).length<=l.length
 | []=>xe _
 | x::l=>by
   rw[vp];split
   all_goals simp_all[Nat.le_succ_of_le,pb]
def hO(w:Qf):List Qf ⊕ Nat->List Qf ⊕ Nat
 | .inl l=>.inl (w::l)
 | .inr p=>.inr p
def bh(k:Int)(r:Be):Be:=r.takeWhile (λb=>gm k b.toNat)
def bt:Be->Nat->List Qf ⊕ Nat
 | [],_=>.inl []
 | c::r,i=>
   if cW c.toNat then bt r (i+1)
   else if c.toNat=35 then bt (r.dropWhile (λb=>b.toNat≠10)) (i+1+(r.takeWhile (λb=>b.toNat≠10)).length)
   else if aD c.toNat=0 then .inr i
   else if bm (aD c.toNat)<1+(bh (aD c.toNat) r).length then .inr (i+bm (aD c.toNat))
   else hO ⟨aD c.toNat,c::bh (aD c.toNat) r,i⟩ (bt (r.drop (bh (aD c.toNat) r).length) (i+1+(bh (aD c.toNat) r).length))
termination_by s=>s.length
decreasing_by
 all_goals grind[pb]
theorem ql(i:Nat):bt [] i=.inl []:=by rw[bt]
theorem pc(c:UInt8)(r:Be)(i:Nat):bt (c::r) i =
 if cW c.toNat then bt r (i+1)
 else if c.toNat=35 then bt (r.dropWhile (λb=>b.toNat≠10)) (i+1+(r.takeWhile (λb=>b.toNat≠10)).length)
 else if aD c.toNat=0 then .inr i
 else if bm (aD c.toNat)<1+(bh (aD c.toNat) r).length then .inr (i+bm (aD c.toNat))
 else hO ⟨aD c.toNat,c::bh (aD c.toNat) r,i⟩ (bt (r.drop (bh (aD c.toNat) r).length) (i+1+(bh (aD c.toNat) r).length)):=by rw[bt]
def bI(i:Nat)(c:UInt8)(b:List Qf×Bool):(List Qf×Bool) ⊕ (List Qf×Int):=
 let note:=if c.toNat=35 then true else if c.toNat=10 then false else b.2
 if note || cW c.toNat then .inl (b.1,note)
 else match b.1.getLast? with
  | some w=>if w.At+w.Av.length=i/\gm w.Az c.toNat=true then
   (if w.Az=0\/bm w.Az<w.Av.length+1 then .inr ([],(i:Int)) else .inl (b.1.dropLast++[⟨w.Az,w.Av++[c],w.At⟩],note))
    else if aD c.toNat=0 then .inr ([],(i:Int)) else .inl (b.1++[⟨aD c.toNat,[c],i⟩],note)
  | none=>if aD c.toNat=0 then .inr ([],(i:Int)) else .inl (b.1++[⟨aD c.toNat,[c],i⟩],note)
def ew(s:Be)(i:Nat)(b:List Qf×Bool):List Qf×Int:=aT bI (λb=>(b.1,(-1))) s i b
theorem Cc(k:Int):1<=bm k/\bm k<=60:=by grind[bm]
theorem Jl2{s:List α}{x:α}(h:s[i]?=some x)(a:s.length<=4611686018427387904):sub s (i:Int) (wrap64 ((i:Int)+1))=some [x]:=by have hi:=Vh h;rw[w1 om,Z1 om om,Kd hi];grind
theorem Q5m{n:Nat}{s:Be}(F:aq<=n):Y4 n s=some (if 4000<s.length then ([],4000) else ew s 0 ([],false)):=by
 unfold Y4;simp only[ap];by_cases P:4000<s.length;grind;rw[oq om,oq P];have A:=F;unfold aq at F;unfold ew;refine sH (λb i=>(b.1,b.2,(i:Int))) bI (λb=>b.1) _ (λi b=>b.1.length<=i/\∀ w∈b.1,0<=w.At/\w.At+w.Av.length<=i) s ([],false) (λi c b H J=>?_) oh oh oh om;obtain⟨x,f⟩:=J;have hi:=Vh H;have u:=Jl2 H om;have M:bv s (i:Int)=some c.toNat:=by grind[Yr]
 obtain⟨out,note⟩:=b;simp only at x f;simp only[ot (show(i:Int)<(s.length:Int) by omega),ai,M,aa,u,Q5k A,Q5i,Q5j];have v:wrap64 ((i:Int)+1)=((i+1:Nat):Int):=w1 om;have hkeep:∀ Q:Bool,bI i c (out,note)=.inl (out,Q)->∀ a:List Qf×Bool,bI i c (out,note)=.inl a->a.1.length<=i+1/\∀ w∈a.1,0<=w.At/\w.At+w.Av.length<=((i+1:Nat):Int):=ol
 by_cases e:c.toNat=35;grind[bI,dw];by_cases d:c.toNat=10;grind[bI,cW,dw];cases note with
 | true=>
   grind[bI,dw]
 | false=>
   by_cases K:cW c.toNat=true;have B:bI i c (out,false)=.inl (out,false):=by grind[bI]
   refine⟨?_,ol⟩;rw[B];simp only[cW,yq,d,false_or] at K;grind[dw];have m:cW c.toNat=false:=ol
   have g1:c.toNat≠32:=by grind[cW]
   have I:c.toNat≠9:=by grind[cW]
   have g3:c.toNat≠13:=by grind[cW]
   simp only[oq e,oq d,oq g1,oq I,ak,ov g3]
   have G:((az 32 out [(⟨aD c.toNat,[c],(i:Int)⟩:Qf)]).bind λy596=>
    (ah y596 (wrap64 ((y596.length:Int) - 1))).bind λy598=>
     if y598.Az=0 then bif true then some (Lp.out (Lp.out (([]:List Qf),(i:Int)))) else some (Lp.go (y596,false,wrap64 ((i:Int)+1)))
     else bif decide ((bm y598.Az:Int)<(y598.Av.length:Int)) then some (.out (.out (([]:List Qf),(i:Int)))) else some (.go (y596,false,wrap64 ((i:Int)+1)))) =
    some (dw (τ0:=List Qf) (λ(b:List Qf×Bool) i=>(b.1,b.2,(i:Int))) i (if aD c.toNat=0 then .inr ([],(i:Int)) else .inl (out++[⟨aD c.toNat,[c],i⟩],false))):=by
    rw[Jv ol ol,aa,wJ om,aa];by_cases h0:aD c.toNat=0;simp_all[dw];simp only[oq h0];rw[ov (by grind[Cc]),v];rfl
   have C:∀ a:List Qf×Bool,(if aD c.toNat=0 then (.inr ([],(i:Int)):(List Qf×Bool) ⊕ (List Qf×Int)) else .inl (out++[⟨aD c.toNat,[c],i⟩],false))=.inl a ->
    a.1.length<=i+1/\∀ w∈a.1,0<=w.At/\w.At+w.Av.length<=((i+1:Nat):Int):=by
    grind
   rcases wm out with rfl | ⟨l,w,rfl⟩;grind[bI];rw[List.concat_eq_append] at *;have R:=f w oh;have O:l.length+1<=i:=ol
   have hlast:ah (l++[w]) (wrap64 (((l++[w]).length:Int) - 1))=some w:=wJ om
   have B:bI i c (l++[w],false)=(if w.At+w.Av.length=i/\gm w.Az c.toNat=true then
    (if w.Az=0\/bm w.Az<w.Av.length+1 then .inr ([],(i:Int)) else .inl (l++[⟨w.Az,w.Av++[c],w.At⟩],false))
    else if aD c.toNat=0 then .inr ([],(i:Int)) else .inl (l++[w]++[⟨aD c.toNat,[c],i⟩],false)):=by simp[bI,d,e,m]
   rw[B];rw[ot oh];simp only[hlast,aa];rw[aK om om];by_cases j:w.At+w.Av.length=i;rw[ot j];by_cases q:gm w.Az c.toNat=true;rw[ot ⟨j,q⟩];simp only[q,aj];rw[Fe ol,aa,Jhs om,wJ om,aa];by_cases h0:w.Az=0;simp only[h0,yt,true_or,dw];simp;by_cases E:bm w.Az<w.Av.length+1;have hd:decide ((bm w.Az:Int)<((w.Av++[c]).length:Int))=true:=ol
   simp only[h0,if_false,hd,aj,false_or,ot E];exact⟨rfl,oh⟩;have hd:decide ((bm w.Az:Int)<((w.Av++[c]).length:Int))=false:=ol
   simp only[h0,if_false,hd,ak,false_or,oq E,v];refine⟨rfl,λa m=>?_⟩;grind;rw[oq ol];grind;grind
def pd(out:List Qf):List Qf ⊕ Nat->List Qf×Int
 | .inl ws=>(out++ws,-1)
 | .inr p=>([],(p:Int))
theorem Sk(out ws):pd out (.inl ws)=(out++ws,-1):=oe
theorem Sl(i b):ew [] i b=(b.1,(-1)):=oe
theorem wW{c r i b a}(h:bI i c b=.inl a):ew (c::r) i b=ew r (i+1) a:=by grind[ew,aT]
theorem Sm{c r i b t}(h:bI i c b=.inr t):ew (c::r) i b=t:=by grind[ew,aT]
theorem Sn(h:aD c≠0):cW c=false/\c≠35:=by
 constructor;cases a:cW c with
 | false=>rfl
 | true=>
   exfalso;apply h;simp only[cW,yq] at a;rcases a with rfl | rfl | rfl | rfl<;>decide
 rintro rfl;exact h oc
theorem Jl3{k:Int}(h:gm k c=true):aD c≠0:=by grind[gm,aD]
theorem Cd:cW 10=true:=oc
theorem So:∀(s:Be) (i:Nat) (out),ew s i (out,true)=ew (s.dropWhile (λb=>b.toNat≠10)) (i+(s.takeWhile (λb=>b.toNat≠10)).length) (out,true)
 | [],i,out=>rfl
 | c::s,i,out=>by
   rw[vp,xj];by_cases h:c.toNat=10;simp[h];simp only[ne_eq,h,not_false_eq_true,yf,yt,xd];have a:bI i c (out,true)=.inl (out,true):=by simp_all[bI]
   rw[wW a,So s (i+1) out];grind
theorem Jh8(l:List Qf)(w):(l++[w]).getLast?=some w:=oh
theorem Jgj{c:UInt8}{l}{k:Int}{t:Be}(d:gm k c.toNat=true)(e:a+t.length=i)(hk:k≠0):
 bI i c (l++[⟨k,t,a⟩],false)=if bm k<t.length+1 then .inr ([],(i:Int)) else .inl (l++[⟨k,t++[c],a⟩],false):=by
 grind[Sn,Jl3,bI]
theorem Sp:∀(p s:Be) (i:Nat) (l:List Qf) (k:Int) (t:Be) (a:Nat),(∀ b∈p,gm k b.toNat=true)->a+t.length=i->k≠0->t.length<=bm k ->
 ew (p++s) i (l++[⟨k,t,a⟩],false)=if bm k<t.length+p.length then ([],((a+bm k:Nat):Int)) else ew s (i+p.length) (l++[⟨k,t++p,a⟩],false)
 | [],s,i,l,k,t,a,_,_,_,q=>ol
 | c::p,s,i,l,k,t,a,f,j,hk,q=>by have d:=Jgj (l:=l) (f c (.head _)) j hk;rw[yr];by_cases e:bm k<t.length+1;rw[ot e] at d;rw[Sm d,ot ol];grind;rw[oq e] at d;rw[wW d,Sp p s (i+1) l k (t++[c]) a (λb m=>f b (.tail _ m)) oj hk oj];simp only[xo,xd,ye,vg,yn];rw[show t.length+(0+1)+p.length=t.length+(p.length+1) by omega,show i+1+p.length=i+(p.length+1) by omega]
def fresh(out:List Qf)(i:Nat)(s:Be):Prop:=∀ w,out.getLast?=some w->w.At+w.Av.length<=i/\∀ c r,s=c::r->w.At+w.Av.length=(i:Int)->gm w.Az c.toNat=false
theorem Sr{out:List Qf}{s s'}(h:fresh out i s)(e:i<j):fresh out j s':=λw a=>by obtain⟨d,_⟩:=h w a;grind
theorem Jea{c:UInt8}{r out}(hf:fresh out i (c::r))(a:cW c.toNat=false)(d:c.toNat≠35):
 bI i c (out,false)=if aD c.toNat=0 then .inr ([],(i:Int)) else .inl (out++[⟨aD c.toNat,[c],i⟩],false):=by
 have g3:c.toNat≠10:=by grind[Cd]
 unfold bI;simp only[oq d,oq g3,a,Bool.or_self,Bool.false_eq_true,if_false];cases e:out.getLast? with
 | none=>rfl
 | some w=>
   obtain⟨f,j⟩:=hf w e;grind
theorem Jh9(out w x):pd out (hO w x)=pd (out++[w]) x:=by grind[pd,hO]
theorem FQ:∀(m:Nat) (s:Be) (i:Nat) (out),s.length<=m->fresh out i s->ew s i (out,false)=pd out (bt s i)
 | _,[],i,out,_,_=>by grind[Sl,ql,pd]
 | 0,_::_,_,_,h,_=>by simp at h
 | m+1,c::r,i,out,J,hf=>by
   rw[pc];have C:r.length<=m:=ol
   by_cases v:cW c.toNat=true;rw[ot v];have a:c.toNat≠35:=λh=>by rw[h] at v;exact absurd v oc
   have u:bI i c (out,false)=.inl (out,false):=by unfold bI;simp only[oq a,v,Bool.or_true,yt];split<;>rfl
   rw[wW u];exact FQ m r (i+1) out C (Sr hf om);rw[oq v];have B:cW c.toNat=false:=ol
   by_cases a:c.toNat=35;rw[ot a];have u:bI i c (out,false)=.inl (out,true):=by simp_all[bI]
   rw[wW u,So];have hd:=pb (λb:UInt8=>decide (b.toNat≠10)) r;generalize I:i+1+(r.takeWhile (λb=>decide (b.toNat≠10))).length=j;have H:i<j:=om
   cases F:r.dropWhile (λb=>decide (b.toNat≠10)) with
   | nil=>grind[Sl,ql,pd]
   | cons d q=>
     have A:d.toNat=10:=by grind[List.head?_dropWhile_not]
     have E:bI j d (out,true)=.inl (out,false):=by grind[bI,cW]
     rw[wW E,pc,ot (by rw[A];decide)];rw[F] at hd;exact FQ m q (j+1) out ol (by grind[Sr])
   rw[oq a];have u:=Jea hf B a;by_cases h0:aD c.toNat=0;rw[ot h0] at u |-;rw[Sm u];rfl;rw[oq h0] at u |-;rw[wW u];generalize hk:aD c.toNat=k at *
   have x:∀ b∈bh k r,gm k b.toNat=true:=λb v=>by have:=List.all_takeWhile (p:=λb:UInt8=>gm k b.toNat) (l:=r);exact(uv.1 this) b v
   have hsplit:r=bh k r++r.drop (bh k r).length:=by grind[B9,bh,List.take_append_drop]
   have f:=Sp (bh k r) (r.drop (bh k r).length) (i+1) out k [c] i x oh h0 (Cc k).1;rw[<-hsplit] at f;rw[f];simp only[ug,vg];by_cases e:bm k<1+(bh k r).length;rw[ot e,ot e];rfl;rw[oq e,oq e,Jh9];refine FQ m _ _ _ ol ?_;intro w G;rw[Jh8] at G;cases G;refine⟨ol,λd q F _=>?_⟩;have:r[(bh k r).length]?=some d:=by
    grind
   exact FJ (p:=λb:UInt8=>gm k b.toNat) this
theorem Ss{n:Nat}{s:Be}(a:aq<=n):Y4 n s=some (if 4000<s.length then ([],4000) else pd [] (bt s 0)):=by rw[Q5m a,FQ s.length s 0 [] oh (λw h=>by cases h)]
theorem Ce:∀(m:Nat) (s:Be) (i:Nat) (ws),s.length<=m->bt s i=.inl ws->∀ w∈ws,w.Av.length<=s.length
 | _,[],i,ws,_,h=>by grind[ql]
 | 0,_::_,_,_,h,_=>by simp at h
 | m+1,c::r,i,ws,v,h=>by
   have f:r.length<=m:=ol
   rw[pc] at h;intro w j;rw[xd];by_cases q:cW c.toNat=true;rw[ot q] at h;have:=Ce m r _ ws f h w j;omega;rw[oq q] at h;by_cases a:c.toNat=35;rw[ot a] at h;have hd:=pb (λb:UInt8=>decide (b.toNat≠10)) r;have:=Ce m _ _ ws om h w j;omega;rw[oq a] at h;by_cases h0:aD c.toNat=0;grind;rw[oq h0] at h;by_cases d:bm (aD c.toNat)<1+(bh (aD c.toNat) r).length;grind;rw[oq d] at h;cases e:bt (r.drop (bh (aD c.toNat) r).length) (i+1+(bh (aD c.toNat) r).length) with
   | inr p=>rw[e] at h;cases h
   | inl l=>
     rw[e] at h;cases h;rcases xk.1 j with rfl | u;grind[bh,n4];have:=Ce m _ _ l ol e w u;grind
theorem sN(k:Int)(c:UInt8)(r:Be):dp k (c::r)=true↔k≠0/\aD c.toNat=k/\r.all (λb=>gm k b.toNat)=true/\r.length+1<=bm k:=by simp[dp]
theorem Jia{k:Int}{r:Be}(h:r.all (λb=>gm k b.toNat)=true):bh k r=r:=by grind[FK,B9,bh]
theorem Jj8{k:Int}{t:Be}(h:dp k t=true)(i:Nat):bt t i=.inl [⟨k,t,i⟩]:=by
 cases t with
 | nil=>cases h
 | cons c r=>
   obtain⟨d,e,f,j⟩:=(sN k c r).1 h;obtain⟨g1,a⟩:=Sn (c:=c.toNat) om;rw[pc,oq ol,oq a,e,oq d,Jia f,oq om,List.drop_length,ql];rfl
theorem FS{n:Nat}{w:Qf}(A:aq<=n):Xv n w=some (dp w.Az w.Av):=by
 unfold Xv;rw[Ss A,aa];by_cases q:4000<w.Av.length;rw[ot q];have:dp w.Az w.Av=false:=by
  cases m:w.Av with
  | nil=>rfl
  | cons c r=>
    grind[sN,Cc]
 rw[this];rfl;rw[oq q];cases i:dp w.Az w.Av with
 | true=>rw[Jj8 i];simp[pd,ai,ah]
 | false=>
   cases a:bt w.Av 0 with
   | inr p=>rfl
   | inl ws=>
     rw[Sk,xi];simp only[ai,ap];rw[ot oc]
     match ws,a with
     | [],_=>rfl
     | [v],a=>
       simp only[show(([v].length:Nat):Int)=1 by rfl,yt,show ah [v] 0=some v by rfl,aa];by_cases hk:v.Az=w.Az;rw[ot hk];by_cases j:v.Av=w.Av;exfalso;cases m:w.Av with
       | nil=>rw[m,ql] at a;cases a
       | cons c r=>
         rw[m] at a i j;rw[pc] at a;by_cases g1:cW c.toNat=true;rw[ot g1] at a;have:=Ce r.length r _ _ oh a v oh;rw[j] at this;simp at this;omega;rw[oq g1] at a;by_cases e:c.toNat=35;rw[ot e] at a;have hd:=pb (λb:UInt8=>decide (b.toNat≠10)) r;have:=Ce _ _ _ _ (xe _) a v oh;rw[j] at this;simp at this;simp at hd;omega;rw[oq e] at a;by_cases h0:aD c.toNat=0;rw[ot h0] at a;cases a;rw[oq h0] at a;by_cases d:bm (aD c.toNat)<1+(bh (aD c.toNat) r).length;rw[ot d] at a;cases a;rw[oq d] at a;cases x:bt (r.drop (bh (aD c.toNat) r).length) (0+1+(bh (aD c.toNat) r).length) with
         | inr p=>rw[x] at a;cases a
         | inl l=>
           rw[x] at a;simp only[hO,Sum.inl.injEq,List.cons.injEq] at a;obtain⟨rfl,_⟩:=a;simp only at j hk;have f:bh (aD c.toNat) r=r:=ol
           have:dp w.Az (c::r)=true:=by rw[sN,<-hk];refine⟨h0,rfl,?_,by rw[f] at d;omega⟩;exact FK.1 (by have:=yj List.length f;exact this)
           rw[this] at i;cases i
       grind;grind
     | v::u::l,_=>rfl
theorem KU{f:Int->Option (Lp Int (Lp Unit R))}{K:Unit->Option R}{n:Nat}(P:Nat->Prop)(r:Nat->R)(N:Nat)
 (u:∀ i,i<N->(P i->f (i:Int)=some (.go ((i+1:Nat):Int)))/\(¬ P i->f (i:Int)=some (.out (.out (r i))))) (A:f (N:Int)=some (.out (.go ()))) (a:N<n) :
 ((∀ i,i<N->P i)/\(ae f n 0).bind (aS K)=K ())\/(¬(∀ i,i<N->P i)/\∃ j,(ae f n 0).bind (aS K)=some (r j)):=by
 have key:∀(m k n:Nat),k+m=N->m<n->((∀ i,k<=i->i<N->P i)/\(ae f n (k:Int)).bind (aS K)=K ())\/(¬(∀ i,k<=i->i<N->P i)/\∃ j,(ae f n (k:Int)).bind (aS K)=some (r j)):=by
  intro m
  induction m with
  | zero=>
    intro k n hk a;obtain rfl:k=N:=om
    exact .inl ⟨om,by simp_all[Jp,Vp]⟩
  | succ m w=>
    intro k n hk a;obtain⟨d,rfl⟩:∃ d,n=d+1:=⟨n - 1,om⟩
    obtain⟨q,x⟩:=u k om;by_cases v:P k;rw[V0 (q v)];rcases w (k+1) d om om with ⟨g1,e⟩ | ⟨g1,e⟩;grind;exact .inr ⟨ol,e⟩;exact .inr ⟨ol,k,by simp_all[Jp,Yy]⟩
 have:=key N 0 n om a;simp_all
theorem St(x a b:Int):Ki x a b=some (decide (a<=x/\x<=b)):=by unfold Ki;simp only[ai,ap];grind
theorem Jon{a b:Qa}(h:tF a=tF b):a=b:=by obtain⟨s,x,d⟩:=a;simp_all[tF]
theorem Joo(q:Rat):tF (rF q)=ce q:=rfl
theorem FT:rF (fr f)=f↔tF f=ce (fv (tF f)):=by grind[kK,Joo,Jon]
theorem gC{k:Nat}(h:Fk k (tF f)):Wd f.N/\Wd f.D/\f.N.length<=k/\f.D.length<=k:=⟨h.1,h.2.2.1,h.2.1,h.2.2.2⟩
theorem KV{n k:Nat}(g:Bool->Option β)(a:aq<=n)(hk:k<274877906944)(d:1<=k)(h:Fk k (tF f)):((J9 n f).bind λr=>(Jx n r f).bind g)=g (dP (tF f=ce (fv (tF f)))):=by obtain⟨w1,w2,j,m⟩:=gC h;have e:=gZ (gC h) d;have i:=RN e;rw[o8 a w1 w2 om om,aa,KF a om om,aa,@mZ _ (Classical.propDecidable _),B3 FT]
theorem Q7m{n k:Nat}{t:Qr}{x:Qw}(B:aq<=n)(hk:k<274877906944)(v:1<=k)(E:Fk k (tF x.N))(hi:i<1000000)
 (hd:-9223372036854775807<=t.Bc) (A:t.Bc<=9223372036854775807) (H:-9223372036854775807<=t.Par) (C:t.Par<=9223372036854775807):v6 n x (i:Int) t.Bc t.Par=some (dP (ji (tT t) i (tI x))):=by
 unfold v6 ji;have eN:(tI x).N=tF x.N:=rfl;have eO:(tI x).Op=x.Op:=rfl;have eA:(tI x).A=x.A:=rfl;have eB:(tI x).B=x.B:=rfl;have eD:(tT t).Bc=t.Bc:=rfl;have eP:(tT t).Par=t.Par:=rfl;simp only[eN,eO,eA,eB,eD,eP];rw[ap];by_cases c1:x.Op=1;rw[ot c1];simp only[ot c1,ai,ap];by_cases a:x.A=0;rw[ot a];by_cases b:x.B=0;rw[ot b,KV (λr=>some r) B hk v E];exact by grind
 simp_all[aL];simp_all[aL];rw[oq c1];simp only[oq c1,ai];have G:dy (tF x.N)↔x.N.A8=false/\x.N.N.length=0/\x.N.D.length=0:=by simp[dy,tF]
 by_cases F:x.N.A8=true;simp_all[aL];have e:x.N.A8=false:=ol
 rw[e,ak];simp only[ap];by_cases m:0<(x.N.N.length:Int);rw[ot m,aj,aL ol];rw[oq m];by_cases q:0<(x.N.D.length:Int);rw[ot q,aL ol];rw[oq q];have w:dy (tF x.N):=ol
 simp only[St,aa,ap];have eR:lH (tI x)=if x.Op=6\/x.Op=11 then [x.A] else if x.Op=7\/x.Op=8\/x.Op=9\/x.Op=10 then [x.A,x.B] else []:=rfl
 have w1:wrap64 (t.Bc - 1)=t.Bc - 1:=by grind[aK]
 have w2:wrap64 (t.Par - 1)=t.Par - 1:=by grind[aK]
 have u:wrap64 ((i:Int) - 1)=(i:Int) - 1:=by grind[aK]
 rw[eR,w1,w2,u];clear w1 w2 u;by_cases c2:x.Op=2;simp only[ot c2];rw[oq (show ¬(x.Op=6\/x.Op=11) by omega),oq (show ¬(x.Op=7\/x.Op=8\/x.Op=9\/x.Op=10) by omega)];exact nZ ol;simp only[oq c2];by_cases c3:x.Op=3;simp only[ot c3];rw[oq (show ¬(x.Op=6\/x.Op=11) by omega),oq (show ¬(x.Op=7\/x.Op=8\/x.Op=9\/x.Op=10) by omega)];exact nZ ol;simp only[oq c3];by_cases c4:x.Op=4;simp only[ot c4];rw[oq (show ¬(x.Op=6\/x.Op=11) by omega),oq (show ¬(x.Op=7\/x.Op=8\/x.Op=9\/x.Op=10) by omega)];exact nZ ol;simp only[oq c4];by_cases f:x.Op=6;simp only[ot f];rw[ot (show x.Op=6\/x.Op=11 by omega)];exact nZ ol;simp only[oq f];by_cases d:x.Op=11;simp only[ot d];rw[ot (show x.Op=6\/x.Op=11 by omega)];exact nZ ol;simp only[oq d];rw[oq (show ¬(x.Op=6\/x.Op=11) by omega)];by_cases j:7<=x.Op/\x.Op<=10;rw[ot j,ot (show x.Op=7\/x.Op=8\/x.Op=9\/x.Op=10 by omega)];exact nZ ol;rw[oq j,oq om,aL oh]
theorem FU(f:α->β){l:List α}{x:α}(h:l[i]?=some x):(l.map f)[i]?=some (f x):=ol
theorem Q21{n k:Nat}{t:Qr}(I:aq<=n)(hk:k<274877906944)(H:1<=k)(C:∀ x∈t.Code,Fk k (tF x.N))(_:t.Ax.length<=1000000):
 ∃ v,Bx n t=some v/\(v=-1↔iy (tT t)):=by
 unfold Bx;simp only[ai,St,aa,bB];have w:fK (tT t)↔((1<=t.Bc/\t.Bc<=6)/\(0<=t.Par/\t.Par<=6)/\(t.Ax.length:Int)=t.Bc/\t.Code.length<=300):=by grind[fK,tT]
 by_cases c1:1<=t.Bc/\t.Bc<=6
 case neg=>rw[oq c1];exact⟨-2,rfl,oh,λh=>absurd (w.1 h.1).1 c1⟩
 rw[ot c1];by_cases c2:0<=t.Par/\t.Par<=6
 case neg=>rw[oq c2];exact⟨-2,rfl,oh,λh=>absurd (w.1 h.1).2.1 c2⟩
 rw[ot c2];by_cases c3:(t.Ax.length:Int)=t.Bc
 case neg=>rw[oq c3];exact⟨-2,rfl,oh,λh=>absurd (w.1 h.1).2.2.1 c3⟩
 rw[ot c3];by_cases c4:300<(t.Code.length:Int)
 . rw[ou c4,aj];exact⟨-2,rfl,oh,λh=>by have:=(w.1 h.1).2.2.2;omega⟩
 rw[ov c4,ak];have B:fK (tT t):=ol
 rcases KU (f:=λ(d:Int)=>
  bif decide (d<(t.Code.length:Int)) then ((ah t.Code d).bind λF=>(v6 n F d t.Bc t.Par).bind λE=>bif !E then (some (.out (.out (d)))) else (some (.go (wrap64 (d+1))))) else (
   some (Lp.out (Lp.go ())))) (n:=n) (K:=λ(_:Unit)=>
  (ae (λ(a:Int)=>
   bif decide (a<(t.Ax.length:Int)) then ((ah t.Ax a).bind λe=>
    if (0<=e/\e<=(wrap64 ((t.Code.length:Int) - 1))) then (
     some (.go (wrap64 (a+1)))) else (some (.out (.out ((t.Code.length:Int)))))) else (some (.out (.go ())))) n 0).bind (aS λ(_:Unit)=>
  some (-1))) (λi=>∀ x,t.Code[i]?=some x->ji (tT t) i (tI x)) (λi=>(i:Int)) t.Code.length (λi hi=>by
  have q:t.Code[i]?=some t.Code[i]:=xm hi;have u:=C t.Code[i] (uz hi);generalize t.Code[i]=x at q u;rw[ou om,aj,Ku q,aa,Q7m I hk H u om om om om om,aa,w1 om]
  grind[cq,aL]) oh (by grind[aq]) with ⟨g1,A⟩ | ⟨g1,j,A⟩
 . have m:∀(i:Nat) x,(tT t).Code[i]?=some x->ji (tT t) i x:=by
    grind[tT]
   rw[A]
   rcases KU (f:=λ(a:Int)=>
    bif decide (a<(t.Ax.length:Int)) then ((ah t.Ax a).bind λe=>
     if (0<=e/\e<=(wrap64 ((t.Code.length:Int) - 1))) then (
      some (.go (wrap64 (a+1)))) else (some (.out (.out ((t.Code.length:Int)))))) else (
     some (Lp.out (Lp.go ())))) (n:=n) (K:=λ(_:Unit)=>some (-1)) (λi=>∀ o,t.Ax[i]?=some o->0<=o/\o<(t.Code.length:Int)) (λ_=>(t.Code.length:Int)) t.Ax.length (λi hi=>by
    have q:t.Ax[i]?=some t.Ax[i]:=xm hi;generalize t.Ax[i]=x at q;rw[ou om,aj,Ku q,aa,w1 om,aK om om]
    grind) oh (by grind[aq]) with ⟨g3,g4⟩ | ⟨g3,j,g4⟩
   . refine⟨-1,g4,λ_=>⟨B,m,λo G=>?_⟩,λ_=>rfl⟩
     grind[List.getElem?_of_mem,tT]
   . refine⟨_,g4,oh,λh=>absurd (λi hi o G=>?_) g3⟩
     have:=h.2.2 o (mt G);grind[tT]
 . refine⟨_,A,oh,λh=>absurd (λi hi x C=>?_) g1⟩
   exact h.2.1 i (tI x) (FU tI C)
def n5(k:Nat)(l:List Qa):Prop:=∀ f∈l,Fk k (tF f)
theorem pf(h:ba (tF f)):rF (fr f)=f:=FT.2 h.1
theorem FV{n k:Nat}{l:List Qa}(d:aq<=n)(hk:k<274877906944)(a:1<=k)(h:n5 k l)(w:l.length<=1000000):Ym n l=some (!dP (∀ f∈l,ba (tF f))):=by
 unfold Ym;rw[Ft (λi=>∀ f,l[i]?=some f->ba (tF f)) l.length (r:=true)]
 . have e:(∀ i,i<l.length->∀ f,l[i]?=some f->ba (tF f))↔∀ f∈l,ba (tF f):=by
    constructor
    . intro g f hf
      obtain⟨i,hi⟩:=wf hf;exact by grind
    . intro g i _ f hf;exact by grind
   by_cases g:∀ f∈l,ba (tF f)
   all_goals simp_all[cq,aL]
 . intro i hi
   have j:l[i]?=some l[i]:=xm hi;have hf:=h l[i] oh;generalize l[i]=f at j hf;have u:(∀ g,l[i]?=some g->ba (tF g))↔ba (tF f):=ol
   rw[u,ou om,aj];simp only[ai,Ku j,aa];rw[KV _ d hk a hf,fC];unfold ba;by_cases c:tF f=ce (fv (tF f))
   . rw[ot c]
     have v:rF (fr f)=f:=FT.2 c;have m:=RJ (q:=fr f) d hk (gZ (gC hf) a);rw[v] at m;rw[m,aa,kK,w1 om];by_cases c2:qz (fr f)<=190
     . exact⟨ol,λg=>absurd ⟨c,c2⟩ g⟩
     . exact by grind
   grind
 all_goals grind[aq]
theorem Q7n{n k:Nat}{a:List Rat}(f:aq<=n)(u:1<=k)(hk:k<1048576)(d:QR k a)(A:a.length<=1000):Yo n (rR a)=some (rF (cz a)):=by
 unfold Yo;rw[B0 f,aa];rw[jg (λi=>(rF (cz (a.take i)),(i:Int))) a.length (rF (cz a))];intro i hi;have j:a[i]?=some a[i]:=xm hi;have m:=d a[i] oh;generalize a[i]=x at j m;have e:cz (a.take (i+1))=cz (a.take i)+x:=by simp_all[Jh1,cz]
 have v:=wV (l:=a.take i) (b:=1) (z:=0) (λq B=>d q ol) (by simp[qe]);have w:(a.take i).length*(k+1)<=1000*1048576:=uo ol om;rw[mY,ou om,aj,Ku (Jof j),aa,RG (k:=2000000000) f om (by grind[cz]) om,aa,e,w1 om];simp[mY];grind[aq];rfl
theorem Jib{l:List Qa}(h:∀ f∈l,ba (tF f)):rR (iZ l)=l:=by
 unfold rR iZ;rw[va]
 conv=>rhs;rw[<-List.map_id l]
 grind[List.map_congr_left,pf]
theorem KW{n k:Nat}{l:List Qa}{q:Rat}(g:Bool->Option β)(i:aq<=n)(d:1<=k)(hk:k<1048576)(h:n5 k l)(w:l.length<=8)(m:∀ f∈l,ba (tF f)):
 ((Yo n l).bind λr=>(Jx n r (rF q)).bind g)=g (decide (cz (iZ l)=q)):=by
 have j:QR k (iZ l):=Joh (λf hf=>gC (h f hf)) d;have u:=wV (l:=iZ l) (b:=1) (z:=0) j (by simp[qe]);have v:(iZ l).length*(k+1)<=8*1048576:=uo (by grind[RM]) om;have e:=Q7n (a:=iZ l) i d hk j (by grind[RM]);rw[Jib m] at e;rw[e,aa,FA (k:=10000000) i om (by grind[cz]),aa]
structure gD(k:Nat)(s:Ql):Prop where
 a:∀ r∈s.A,n5 k r
 al:∀ r∈s.A,r.length<=1000000
 b:n5 k s.B
 bl:s.B.length<=1000000
 c:n5 k s.C
 cl:s.C.length<=1000000
 e:n5 k s.E
 el:s.E.length<=1000000
 nl:s.A0.length<=1000000
theorem Jl4{l:List Qa}:(∀ x∈l.map tF,ba x)↔∀ f∈l,ba (tF f):=
 by simp
theorem KX{σ ρ:Type}{A:(σ->Option ρ)->Option ρ}{k:σ->Option ρ}{Q:ρ->Prop}(b:σ)(d:∀ a,A a=a b)(hk:∃ v,k b=some v/\Q v):∃ v,jn A k=some v/\Q v:=by grind[ai]
theorem KY{f:Int->Option (Lp Int (Lp Unit R))}{K:Unit->Option R}{n:Nat}{Q:R->Prop}(P:Nat->Prop)(r:R)(N:Nat)
 (d:∀ i,i<N->(P i->f (i:Int)=some (.go ((i+1:Nat):Int)))/\(¬ P i->f (i:Int)=some (.out (.out r)))) (e:f (N:Int)=some (.out (.go ()))) (m:N<n)
 (q:(∀ i,i<N->P i)->∃ v,K ()=some v/\Q v) (u:¬(∀ i,i<N->P i)->Q r):∃ v,(ae f n 0).bind (aS K)=some v/\Q v:=by
 rcases KU (K:=K) P (λ_=>r) N d e m with ⟨g1,a⟩ | ⟨g1,j,a⟩
 all_goals grind
theorem iN{ρ:Type}{b:Bool}{x:ρ}{y:Option ρ}{Q:ρ->Prop}(a:b=false->Q x)(d:b=true->∃ v,y=some v/\Q v):∃ v,(bif !b then some x else y)=some v/\Q v:=ol
theorem KZ{s:Ql}:cA (tS s)↔((1<=s.B.length/\s.B.length<=8)/\s.C.length=s.B.length/\s.A.length=s.B.length/\(s.E.length=s.B.length\/s.E.length=0))/\∀ i,i<s.B.length->∀ r,s.A[i]?=some r->r.length=i:=by have eB:(tS s).B=s.B.map tF:=rfl;have eC:(tS s).C=s.C.map tF:=rfl;have eE:(tS s).E=s.E.map tF:=rfl;have eA:(tS s).A=s.A.map (·.map tF):=rfl;unfold cA;rw[eB,eC,eE,eA];simp only[xf];refine⟨λh=>⟨⟨h.1,h.2.1,h.2.2.1,h.2.2.2.1⟩,λi _ r a=>?_⟩,λh=>⟨h.1.1,h.1.2.1,h.1.2.2.1,h.1.2.2.2,λi r a=>?_⟩⟩;have:=h.2.2.2.2 i (r.map tF) ol;grind;grind
theorem La{n k:Nat}{s:Ql}(j:aq<=n)(u:1<=k)(hk:k<1048576)(d:gD k s):∃ v,Ys n s=some v/\v=gJ (tS s):=by
 unfold Ys;rw[FS j,aa];simp only[];have eNm:(tS s).A0=s.A0:=rfl;have eB:(tS s).B=s.B.map tF:=rfl;have eC:(tS s).C=s.C.map tF:=rfl;have eE:(tS s).E=s.E.map tF:=rfl;have eA:(tS s).A=s.A.map (·.map tF):=rfl;have eNs:∀ b,dp 2 s.A0=b->dp 2 (tS s).A0=b:=λb h=>h;refine iN (by grind[KQ]) λI=>?_;have I:=eNs _ I;refine KX (!decide ((1<=s.B.length/\s.B.length<=8)/\s.C.length=s.B.length/\s.A.length=s.B.length/\(s.E.length=s.B.length\/s.E.length=0))) (λQ=>?_) ?_
 . simp only[ap,bB]
   grind[decide_eq_false]
 refine iN (by grind[FN,absurd,KZ,of_decide_eq_false]) λB=>?_;have B:=wd B;obtain⟨⟨b1,b2⟩,b3,b4,b5⟩:=B;have A:∀ i,i<s.B.length->∃ r,s.A[i]?=some r/\r∈s.A:=λi hi=>⟨s.A[i]' om,xm om,oh⟩
 have F:∀ i,i<s.B.length->∃ r,s.C[i]?=some r/\r∈s.C:=λi hi=>⟨s.C[i]' om,xm om,oh⟩
 have w:s.B.length<n:=by grind[aq]
 refine KY (λi=>∀ r,s.A[i]?=some r->r.length=i) 2 s.B.length (λi hi=>?_) ?_ w (λP=>?_) (by grind[FN,absurd,KZ])
 . obtain⟨r,a,_⟩:=A i hi
   rw[ou om,aj,Ku a,aa,w1 om];grind
 . simp
 have hShape:cA (tS s):=by grind[KZ]
 refine KY (λi=>∀ r,s.A[i]?=some r->∀ f∈r,ba (tF f)) 3 s.B.length (λi hi=>?_) ?_ w (λm=>?_) (λm=>(Ca I hShape (λh=>absurd (λi hi r a=>Jl4.1 ol) m)).symm)
 . obtain⟨r,a,G⟩:=A i hi
   rw[ou om,aj,Ku a,aa,FV j om u (d.a r G) (d.al r G),aa,w1 om];grind[cq,aL]
 . simp
 refine KX (!dP ((∀ f∈s.B,ba (tF f))/\(∀ f∈s.C,ba (tF f))/\∀ f∈s.E,ba (tF f))) (λQ=>?_) ?_
 . rw[FV j om u d.b d.bl,aa]
   by_cases R:∀ f∈s.B,ba (tF f)
   case neg=>grind[aL]
   rw[cq R,ow,ak,FV j om u d.c d.cl,aa];by_cases T:∀ f∈s.C,ba (tF f)
   case neg=>grind[aL]
   rw[cq T,ow,ak,FV j om u d.e d.el,aa];grind
 have U:∀ r∈s.A,∀ f∈r,ba (tF f):=λr a=>by grind[List.getElem?_of_mem]
 have V:∀ r∈(tS s).A,∀ x∈r,ba x:=ol
 refine iN (λJ=>(Ca I hShape (λh=>?_)).symm) λJ=>?_
 . simp_all[cq]
 have J:=RP.1 J;obtain⟨Y,Z,n3⟩:=J;have W:∀ r∈[(tS s).B,(tS s).C,(tS s).E],∀ x∈r,ba x:=ol
 have eRows:fj (tS s)↔∀ i,i<s.B.length->∀ r c,s.A[i]?=some r->s.C[i]?=some c->cz (iZ r)=fr c:=by
  unfold fj;rw[eA,eC];constructor
  . intro h i _ r c a C
    have:=h i (r.map tF) (FU _ a);rw[FD,wn,FU _ C] at this;exact this
  . intro h i r a
    rw[uq] at a;cases C:s.A[i]? with
    | none=>grind
    | some y=>
      rw[C] at a;cases a;obtain⟨c,E,_⟩:=F i ol;rw[FD,wn,FU _ E];exact h i ol y c C E
 refine KY (λi=>∀ r c,s.A[i]?=some r->s.C[i]?=some c->cz (iZ r)=fr c) 4 s.B.length (λi hi=>?_) ?_ w (λH=>?_) (by grind[KR,absurd])
 . obtain⟨r,a,G⟩:=A i hi
   obtain⟨c,C,K⟩:=F i hi;have M:=pf (Z c K);have e:=λ(g:Bool->Option (Lp Int (Lp Unit Int)))=>KW (q:=fr c) g j u hk (d.a r G) ol (U r G);rw[M] at e;rw[ou om,aj,Ku a,aa];simp only[Ku C,aa];rw[e,w1 om];grind
 . simp
 have hRows:=eRows.2 H;rw[KG j,aa,KW _ j u hk d.b om Y];have rB:rv (tS s).B=iZ s.B:=by rw[eB,FD]
 have rE:rv (tS s).E=iZ s.E:=by rw[eE,FD]
 have eE0:(tS s).E≠[]↔s.E≠[]:=oo
 refine iN (by grind[KS,absurd,of_decide_eq_false]) λO=>?_;have O:=wd O;refine KX (!dP (s.E≠[]->cz (iZ s.E)=1)) (λQ=>?_) ?_
 . by_cases X:s.E=[]
   . grind
   . have:s.E.length≠0:=ol
     rw[ou om,aj,KW _ j u hk d.e om n3];grind[decide_eq_false,aL]
 cases X:dP (s.E≠[]->cz (iZ s.E)=1)
 . rw[xn,aj]
   exact⟨6,rfl,by grind[KT]⟩
 . rw[ow,ak]
   exact⟨0,rfl,(FP ⟨I,hShape,ol,hRows,ol,by grind[RP]⟩).symm⟩
theorem Q23{n k:Nat}{s:Ql}(d:aq<=n)(a:1<=k)(hk:k<1048576)(f:gD k s):∃ v,Ys n s=some v/\(v=0↔iL (tS s)):=by obtain⟨v,e,rfl⟩:=La d a hk f;grind[Si]
structure jo(k:Nat)(p:Qs):Prop where
 t:∀ x∈p.Tape.Code,Fk k (tF x.N)
 o:p.Tape.Ax.length<=1000000
 s:gD k p.A3
 pk:n5 k p.P
 pl:p.P.length<=1000000
theorem Q24{n k:Nat}{p:Qs}(e:aq<=n)(d:1<=k)(hk:k<1048576)(a:jo k p):By n p=some (dP (jX (tP p))):=by
 unfold By jX;simp only[ai];obtain⟨v,f,j⟩:=Q21 e om d a.t a.o;obtain⟨u,i,m⟩:=Q23 e d hk a.s;have eT:(tP p).Tape=tT p.Tape:=rfl;have eS:(tP p).A3=tS p.A3:=rfl;have eP:((tP p).P.length:Int)=(p.P.length:Int):=by grind[tP]
 have eR:(tT p.Tape).Par=p.Tape.Par:=rfl;rw[f,aa,eT,eS,eP,eR,ap];by_cases c1:v=-1;rw[ot c1,i,aa,ap];by_cases c2:u=0;rw[ot c2];exact by grind[m3]
 simp_all[aL];simp_all[aL]
theorem Lb:qw 1=1:=by simp[qw,sI]
set_option maxRecDepth 100000
theorem iM.mono{k:Nat}{p:Jw}(h:iM j p)(hk:j<=k):iM k p:=
 ⟨λc a=>mu (h.t c a) hk,h.d,⟨λr d=>nY (h.s.a r d) hk,nY h.s.b hk,nY h.s.c hk,nY h.s.e hk,h.s.n⟩,nY h.p hk⟩
set_option maxRecDepth 100000
theorem jo.mono{k:Nat}{p:Qs}(h:jo j p)(hk:j<=k):jo k p:=
 ⟨λx d=>mu (h.t x d) hk,h.o,⟨λr a f hf=>mu (h.s.a r a f hf) hk,h.s.al,λf hf=>mu (h.s.b f hf) hk,h.s.bl,λf hf=>mu (h.s.c f hf) hk,h.s.cl,λf hf=>mu (h.s.e f hf) hk,h.s.el,h.s.nl⟩,λf hf=>mu (h.pk f hf) hk,h.pl⟩
set_option maxRecDepth 100000
theorem FW{n:Nat}{w:Qg}{d:Bf}(a:aq<=n)(f:Ww w)(hd:Wd d)(e:d.length<4398046511104)(h0:val d≠0):mP n w d=some (ce (mkRat (wv w) (val d)),true):=by unfold mP;rw[wB a om hd,aa,ov h0,ak,Fr a f hd e h0,aa]
theorem Su{u:Nat}(h:u<10):fQ u=[UInt8.ofNat (48+u)]:=by by_cases h0:u=0;subst h0;rfl;grind[wO,mw,lJ,dg]
def tW(p:Q1):Qn:=⟨p.A0,p.Av⟩
def iz(p:Qn):Q1:=⟨p.A0,p.Av⟩
theorem Sv{n:Nat}{s:Be}(a:aq<=n)(d:s.length<=4611686018427387904):uP n s=some (dp 2 s):=by grind[uP,FL]
theorem Sw{n:Nat}{s:Be}(a:aq<=n):Zt n s=some (dp 2 s):=by grind[Zt,FS]
def sO(l:List Qn)(i:Nat)(p:Qn):Prop:=dp 2 p.A0=true/\p.Av.length<=20000/\∀(j:Nat) (q:Qn),(l.take i)[j]?=some q->q.A0≠p.A0
def iO(l:List Qn):Prop:=l.length<=30/\∀ i p,l[i]?=some p->sO l i p
open Classical in
theorem Q9y{n:Nat}{l:List Qn}(u:aq<=n)(m:∀ p∈l,p.A0.length<=4611686018427387904):uS n l=some (decide (iO l)):=by unfold uS;rw[o7 (sO l) l (r:=false)];by_cases h:∀ i p,l[i]?=some p->sO l i p;rw[ot h];by_cases a:l.length<=30;rw[ou (show iO l from⟨a,h⟩),ou om];rw[ov (show ¬ iO l from λg=>a g.1),ov om];rw[oq h,ov (show ¬ iO l from λg=>h g.2)];intro i p f;simp only[ai,Sv u (m p (mt f)),aa,qa (Nat.le_of_lt (Vh f))];cases e:dp 2 p.A0;refine⟨λh=>?_,λ_=>rfl⟩;exact absurd h.1 (by rw[e];decide);simp only[ow,ak,ap];by_cases a:20000<(p.Av.length:Int);rw[ot a];exact⟨λh=>absurd h.2.1 om,λ_=>rfl⟩;rw[oq a,o7 (λ_ (q:Qn)=>q.A0≠p.A0) (l.take i) (r:=Lp.out false)];refine⟨λh=>by rw[ot h.2.2],λh=>?_⟩;rw[oq λg=>h ⟨e,om,g⟩];intro j q _;by_cases d:q.A0=p.A0;rw[ot d];exact⟨λh=>absurd d h,λ_=>rfl⟩;rw[oq d];exact⟨λ_=>rfl,λh=>absurd d h⟩
open Classical in
theorem Q7o{n:Nat}{l:List Q1}(v:aq<=n):Bg n l=some (decide (iO (l.map tW))):=by
 unfold Bg;rw[ap];by_cases h0:30<(l.length:Int);rw[ot h0,ov];intro h;have:=h.1;simp at this;omega;rw[oq h0,Ft (λi=>∀ p,l[i]?=some p->sO (l.map tW) i (tW p)) l.length (r:=false)];by_cases h:∀ i,i<l.length->∀ p,l[i]?=some p->sO (l.map tW) i (tW p);rw[ot h,ou];refine⟨oj,λi p d=>?_⟩;rw[uq] at d;cases a:l[i]? with
 | none=>rw[a] at d;cases d
 | some q=>rw[a] at d;cases d;exact h i (Vh a) q a
 rw[oq h,ov];intro g;exact h λi _ p d=>g.2 i (tW p) (by rw[uq,d];rfl);intro i hi;have d:l[i]?=some l[i]:=xm hi;generalize l[i]=p at d;have e:(∀ q,l[i]?=some q->sO (l.map tW) i (tW q))↔sO (l.map tW) i (tW p):=⟨λh=>h p d,λh q a=>by rw[d] at a;cases a;exact h⟩
 rw[e];simp only[ai,ap,Ku d,Sw v,aa];rw[ot om];cases x:dp 2 p.A0;refine⟨λh=>?_,λ_=>rfl⟩;exact absurd h.1 (by show ¬ dp 2 p.A0=true;rw[x];decide);simp only[ow,ak];by_cases A:20000<(p.Av.length:Int);rw[ot A];exact⟨λh=>absurd h.2.1 (by show ¬ p.Av.length<=20000;omega),λ_=>rfl⟩;have B:l.length<9223372036854775807:=om
 rw[oq A,Ft (λj=>∀ q:Q1,l[j]?=some q->q.A0≠p.A0) i (r:=Lp.out (Lp.out false))];have w:(∀ j:Nat,j<i->∀ q:Q1,l[j]?=some q->q.A0≠p.A0)↔∀(j:Nat) (q:Qn),((l.map tW).take i)[j]?=some q->q.A0≠(tW p).A0:=by
  constructor;intro h j q a;rw[vf] at a;split at a;rename_i u;rw[uq] at a;cases f:l[j]? with
  | none=>rw[f] at a;cases a
  | some r=>rw[f] at a;cases a;exact h j u r f
  cases a;intro h j u q a;exact h j (tW q) (by rw[vf,ot u,uq,a];rfl)
 refine⟨λh=>?_,λh=>?_⟩;rw[ot (w.2 h.2.2),w1 om];rw[oq λg=>h ⟨x,by show p.Av.length<=20000;omega,w.1 g⟩];intro j u;have a:l[j]?=some l[j]:=xm om;generalize l[j]=q at a;rw[ot om,Ku a,aa];by_cases m:q.A0=p.A0;rw[ot m];exact⟨λh=>absurd m (h q a),λ_=>rfl⟩;rw[oq m,w1 om];exact⟨λ_=>rfl,λh=>absurd (λr f=>by rw[a] at f;cases f;exact m) h⟩;rw[oq om];unfold aq at v;omega;simp only[ap];rw[oq om];unfold aq at v;omega
theorem tp5:tp 5=100000:=oe
def cX(p:Qn):Be:=p.A0++61::(fQ p.Av.length++58::(p.Av++[59]))
def fE(l:List Qn):Be:=(l.map cX).flatten
theorem Sy{s:Be}(h:dp 2 s=true):s.length<=12:=by
 cases s with
 | nil=>simp
 | cons c r=>grind[sN,bm]
theorem Jgk(l:List Qn)(p:Qn):fE (l++[p])=fE l++cX p:=by grind[fE]
theorem Jgl{l:List α}{x:α}(a:l[i]?=some x):l.take (i+1)=l.take i++[x]:=by have h:=BV (λy:α=>y) a;simp_all
def cD(t:Be):Int:=if aw t<0/\t.length<=5/\bZ t=t then (aE t 0:Int) else -1
theorem FX{t:Be}(a:fR t)(h:t.length<=5):aE t 0<100000:=by have d:=wQ a 0 0 (by grind[jM]);have e:=fh (show 0+t.length<=5 by omega);grind[tp5]
theorem Sz(t:Be):cD t<100000/\-1<=cD t:=by grind[cD,FX,lK]
theorem Q25{n:Nat}{t:Be}(d:aq<=n)(q:t.length<=maxLen):zm n t=some (cD t):=by
 unfold zm;rw[B5 d q,aa];by_cases m:0<=aw t;rw[ot m];have e:Ji (⟨1,0,0,aw t⟩:Qc) ⟨0,0,0,0⟩=false:=by simp[Ji]
 simp only[ai,e,xn,aj];grind[cD];rw[oq m];obtain⟨a,f,u⟩:=lK (show aw t<0 by omega);have v:=lL a;simp only[ai,RX,ow,ak,ap];by_cases i:5<(t.length:Int);rw[ot i,aj];grind[cD];rw[oq i,KJ d om (Jh _),aa,Q6,wS a f];have w:=FX a om;by_cases j:bZ t=t;rw[ou j];simp only[ow,ak];rw[BK d om (Jh _),aa,Q6,ot om];unfold cD;rw[ot ⟨om,om,j⟩];grind[aK];simp_all[cD]
theorem Jic{t:Be}(h:0<=cD t):t=fQ (cD t).toNat/\fR t/\t.length<=5:=by grind[cD,lK,wS]
theorem SA(c:UInt8){s:Be}(h:s.length<4294967281):Yv s [c]=some (cJ c.toNat s):=by simp_all[Yv]
theorem Jl5(p:α->Bool)(l:List α):l.takeWhile p=l.take (l.takeWhile p).length:=B9 p l
theorem wX{α:Type}(p:α->Bool):∀(l:List α),l.dropWhile p=l.drop (l.takeWhile p).length
 | []=>rfl
 | a::l=>by rw[vp,xj];cases p a;rfl;simp[wX p l]
theorem FY(c:Nat):∀(l:Be),(l.any λb=>!bw c b)=true↔(l.takeWhile (bw c)).length<l.length
 | []=>oh
 | a::l=>by
   rw[wq,xj];cases h:bw c a
   all_goals simp[FY]
theorem m4{l:Be}(h:(l.takeWhile (bw c)).length<l.length):∃ x,l[(l.takeWhile (bw c)).length]?=some x/\x.toNat=c:=by refine⟨l[(l.takeWhile (bw c)).length],xm h,?_⟩;have:=FJ (xm h);grind[bw]
theorem SB{l:List α}{x:α}(h:l[i]?=some x):l.drop i=x::l.drop (i+1):=by grind[List.drop_eq_getElem_cons]
theorem SC(a b:Nat)(h:a+b<9223372036854775807):wrap64 ((a:Int)+wrap64 ((b:Int)+1))=((a+b+1:Nat):Int):=by grind[aK]
theorem sQ(x y:Nat)(h:x+y<9223372036854775808):wrap64 ((x:Int)+(y:Int))=((x+y:Nat):Int):=by grind[aK]
theorem SD{l:Be}{x:UInt8}(h:l[(l.takeWhile (bw c)).length]?=some x):l=l.takeWhile (bw c)++x::(l.dropWhile (bw c)).drop 1:=by
 have e:l.dropWhile (bw c)=x::(l.dropWhile (bw c)).drop 1:=by rw[wX,SB h];rfl
 exact(List.takeWhile_append_dropWhile (p:=bw c) (l:=l)).symm.trans ol
theorem FZ:UInt8.toNat 61=61:=oc
theorem wY:UInt8.toNat 58=58:=oc
def eH(r:Be):Be:=r.takeWhile (bw 61)
def gK(r:Be):Be:=(r.dropWhile (bw 61)).drop 1
def dQ(r:Be):Be:=(gK r).takeWhile (bw 58)
def gq(r:Be):Be:=((gK r).dropWhile (bw 58)).drop 1
theorem Cf(r:Be):cJ (UInt8.toNat 61) r=(eH r,gK r,r.any λb=>!bw 61 b):=oe
theorem Cg(r:Be):cJ (UInt8.toNat 58) (gK r)=(dQ r,gq r,(gK r).any λb=>!bw 58 b):=oe
def fk(L a:Nat)(r:Be):(Qn×Nat) ⊕ Nat:=
 if dp 2 (eH r)=false then .inr a
 else if (r.any λb=>!bw 61 b)=false then .inr L
 else if cD (dQ r)<0\/((gK r).any λb=>!bw 58 b)=false then .inr (a+(eH r).length+1)
 else if (gq r).length<(cD (dQ r)).toNat+1 then .inr L
 else if (gq r)[(cD (dQ r)).toNat]?≠some 59 then .inr (a+(eH r).length+1+(dQ r).length+1+(cD (dQ r)).toNat)
 else .inl (⟨eH r,(gq r).take (cD (dQ r)).toNat⟩,a+(eH r).length+1+(dQ r).length+1+(cD (dQ r)).toNat+1)
theorem SE(r:Be):(eH r).length<=r.length:=n4 _ _
theorem Jl6(r:Be):(gK r).length=r.length - ((eH r).length+1):=by grind[gK,eH,wX]
theorem SF(r:Be):(dQ r).length<=(gK r).length:=n4 _ _
theorem Jl7(r:Be):(gq r).length=(gK r).length - ((dQ r).length+1):=by grind[gq,dQ,wX]
def sR(a:Kk):(Qn×Nat) ⊕ Nat->Qn×Qc×Kk
 | .inl (p,_)=>(p,⟨0,0,0,0⟩,a)
 | .inr f=>(⟨[],[]⟩,⟨1,0,0,f⟩,a)
theorem SG{n:Nat}{s:Be}(w:aq<=n)(U:s.length<=1000000)(q:a<=s.length):
 ∃ A,zn n ⟨s,(a:Int)⟩=some (sR A (fk s.length a (s.drop a)))/\∀ p j,fk s.length a (s.drop a)=.inl (p,j)->A=⟨s,(j:Int)⟩:=by
 have B:(s.drop a).length<=s.length:=oh
 have F:=SE (s.drop a);have G:=Jl6 (s.drop a);have H:=SF (s.drop a);have I:=Jl7 (s.drop a);have J:=Sz (dQ (s.drop a));unfold zn;simp only[];rw[Z1 q oh,yp,aa,SA 61 om,aa,Cf];unfold fk;generalize s.drop a=r at *;simp only[];rw[Sv w om,aa];cases Q:dp 2 (eH r);rw[ot rfl];exact⟨_,rfl,oh⟩;rw[oq oc];simp only[ow,ak];cases R:r.any λb=>!bw 61 b;rw[ot rfl];exact⟨_,rfl,oh⟩;rw[oq oc];simp only[ow,ak];rw[SA 58 om,aa,Cg];simp only[];rw[Q25 w (by grind[maxLen]),aa];have O:(dQ r).length<=1000000:=om
 have M:(eH r).length<=1000000:=om
 have K:a<=1000000:=om
 clear F G H I B q;generalize cD (dQ r)=d at *;simp only[ai,ap,aa];rw[SC a (eH r).length om,SC (a+(eH r).length+1) (dQ r).length om];by_cases e:d<0;rw[ot e,ot (show d<0\/((gK r).any λb=>!bw 58 b)=false from .inl e),aj];exact⟨_,rfl,oh⟩;rw[oq e];cases T:(gK r).any λb=>!bw 58 b;rw[ot (show d<0\/false=false from .inr rfl)];exact⟨_,rfl,oh⟩;rw[oq (show ¬(d<0\/true=false) by grind)];simp only[ow,ak];obtain⟨v,C⟩:∃ v:Nat,d=(v:Int):=⟨_,(Int.toNat_of_nonneg om).symm⟩
 rw[C,ur];have E:v<100000:=om
 have P:a+(eH r).length+1+(dQ r).length+1+v<10000000:=om
 clear J;rw[w1 (i:=v) om,sQ (a+(eH r).length+1+(dQ r).length+1) v om];by_cases m:(gq r).length<v+1;rw[ot m,ot om];exact⟨_,rfl,oh⟩;rw[oq m,oq om];have u:(gq r)[v]?=some (gq r)[v]:=xm om;generalize (gq r)[v]=x at u;rw[Yr,u,yd,aa,bB];by_cases f:x.toNat=59;have V:x=59:=ya.1 f;rw[ot f,oq ol,qa om,aa,w1 (i:=a+(eH r).length+1+(dQ r).length+1+v) om];exact⟨_,rfl,oh⟩;rw[oq f,ot (by intro h;simp_all),pW,aa];exact⟨_,rfl,oh⟩
theorem SH{L:Nat}{r:Be}{p:Qn}(h:fk L a r=.inl (p,i)):
 dp 2 p.A0=true/\p.Av.length<=r.length/\p.Av.length<100000/\r=cX p++r.drop (cX p).length/\i=a+(cX p).length/\(cX p).length<=r.length/\0<(cX p).length:=by
 unfold fk at h;split at h;cases h;rename_i R;split at h;cases h;rename_i T;split at h;cases h;rename_i q;split at h;cases h;rename_i A;split at h;cases h;rename_i B;simp only[Sum.inl.injEq,Prod.mk.injEq] at h;obtain⟨rfl,rfl⟩:=h;obtain⟨u,w⟩:=not_or.1 q;obtain⟨j,K,M⟩:=Jic (t:=dQ r) om;have X:=Sz (dQ r);have I:=(FY 61 r).1 ol;have J:=(FY 58 (gK r)).1 ol;obtain⟨x,G,e⟩:=m4 I;obtain⟨y,H,f⟩:=m4 J;have ex:x=61:=ya.1 e;have m:y=58:=ya.1 f;subst ex;subst m;have O:r=eH r++61::gK r:=SD G;have P:gK r=dQ r++58::gq r:=SD H;obtain⟨v,F⟩:∃ v:Nat,cD (dQ r)=(v:Int):=ol
 rw[F,ur] at A B j |-;have C:(gq r)[v]?=some 59:=ol
 have Q:gq r=(gq r).take v++59::(gq r).drop (v+1):=by grind[List.take_append_drop,SB]
 have W:((gq r).take v).length=v:=ol
 have V:cX ⟨eH r,(gq r).take v⟩=eH r++61::(dQ r++58::((gq r).take v++[59])):=by grind[cX]
 have E:r=cX ⟨eH r,(gq r).take v⟩++(gq r).drop (v+1):=ol
 have U:(cX ⟨eH r,(gq r).take v⟩).length=(eH r).length+1+(dQ r).length+1+v+1:=ol
 have d:=yj List.length E;rw[xo] at d;refine⟨ol,ol,ol,?_,om,om,om⟩;grind
def pg(s:Be):Nat->Nat->List Qn->List Qn ⊕ Nat
 | 0,_,_=>.inr 0
 | m+1,a,out=>if a<s.length then (match fk s.length a (s.drop a) with
   | .inl (p,d)=>pg s m d (out++[p])
   | .inr f=>.inr f) else .inl out
theorem Lc{s:Be}:∀(m a:Nat) (out l:List Qn),pg s m a out=.inl l->a<=s.length->s.take a=fE out->(∀ p∈out,dp 2 p.A0=true/\p.Av.length<=s.length) ->
 s=fE l/\∀ p∈l,dp 2 p.A0=true/\p.Av.length<=s.length
 | 0,_,_,_,h,_,_,_=>by cases h
 | m+1,a,out,l,h,x,j,f=>by
   unfold pg at h;split at h;rename_i w;split at h;rename_i p e i;obtain⟨g1,u,_,g3,g4,v,_⟩:=SH i;have A:(s.drop a).length=s.length - a:=oh
   refine Lc m e (out++[p]) l h om ?_ ?_;rw[Jgk,<-j,g4,List.take_add,g3,List.take_left'];rfl;intro q d;rcases yz.1 d with d | d;exact f q d;rw[uw.1 d];exact⟨g1,om⟩;cases h;grind
theorem Ld{σ τ R:Type}{s:Be}{f:σ->Option (Lp σ (Lp τ R))}{K:τ->Option R}(mk:List Qn->Nat->σ)(d:Nat->R)(done:List Qn->τ)
 (u:∀ out a p e,a<s.length->out.length<=a->fk s.length a (s.drop a)=.inl (p,e)->f (mk out a)=some (.go (mk (out++[p]) e)))
 (w:∀ out a x,a<s.length->out.length<=a->fk s.length a (s.drop a)=.inr x->f (mk out a)=some (.out (.out (d x))))
 (A:∀ out,f (mk out s.length)=some (.out (.go (done out)))):∀(m a:Nat) (out:List Qn) (n:Nat) (s0:σ),a<=s.length->out.length<=a->s.length - a<m->m<=n->s0=mk out a ->
 (ae f n s0).bind (aS K)=match pg s m a out with
  | .inl l=>K (done l)
  | .inr x=>some (d x)
 | 0,_,_,_,_,_,_,h,_,_=>om
 | m+1,a,out,n,s0,E,B,F,G,h0=>by
   obtain⟨k,rfl⟩:∃ k,n=k+1:=⟨n - 1,om⟩
   subst h0;unfold pg;by_cases j:a<s.length
   . rw[ot j]
     cases i:fk s.length a (s.drop a) with
     | inr x=>simp_all[Jp,Yy]
     | inl q=>
       obtain⟨p,e⟩:=q;obtain⟨_,_,_,_,g4,v,C⟩:=SH i;rw[yh] at v;simp only[];rw[V0 (u out a p e j B i)];exact Ld mk d done u w A m e (out++[p]) k _ om ol om om rfl
   . rw[oq j]
     obtain rfl:a=s.length:=om
     simp_all[Jp,Vp]
open Classical in
noncomputable def dR(s:Be):List Qn×Int×Nat:=match pg s (s.length+1) 0 [] with
 | .inl l=>if iO l then (l,0,0) else ([],2,0)
 | .inr x=>([],1,x)
theorem Jj9{k x:Int}(h:k≠0):Ji (⟨k,0,0,x⟩:Qc) ⟨0,0,0,0⟩=false:=by simp[Ji,h]
open Classical in
theorem Q28{n:Nat}{s:Be}(f:aq<=n)(m:s.length<=1000000):zo n s=some ((dR s).1,⟨(dR s).2.1,0,0,(dR s).2.2⟩):=by
 unfold zo;rw[Ld (s:=s) (λout a=>(out,(⟨s,(a:Int)⟩:Kk))) (λx=>([],⟨1,0,0,(x:Int)⟩)) (λl=>l) ?_ ?_ ?_ (s.length+1) 0 [] n ([],(⟨s,0⟩:Kk)) om oh om (by unfold aq at f;omega) rfl];unfold dR;cases hi:pg s (s.length+1) 0 [] with
 | inr x=>rfl
 | inl l=>
   obtain⟨g1,u⟩:=Lc _ _ _ _ hi om rfl (λ_ h=>by cases h);simp only[];rw[Q9y f (λp v=>by have:=Sy (u p v).1;omega),aa];by_cases h:iO l;rw[ot h,ou h];rfl;rw[oq h,ov h];rfl
 intro out a p q i A d;obtain⟨w,e,j⟩:=SG f m (Nat.le_of_lt i);rw[d] at e;rw[j p q d] at e;simp only[sR] at e;simp only[ap];rw[ot om,e,aa];simp only[RX,ow,ak];rw[Jv oj oj,aa];intro out a x i _ d;obtain⟨w,e,j⟩:=SG f m (Nat.le_of_lt i);rw[d] at e;simp only[sR] at e;simp only[ap];rw[ot om,e,aa];simp only[Jj9 (show(1:Int)≠0 by decide),xn,aj];intro out;simp only[ap];rw[oq om]
theorem SI{n:Nat}{s:Be}(q:aq<=n)(m:a<=s.length)(u:s.length<=1000000):vO n s (a:Int) c=some ((a+((s.drop a).takeWhile (bw c)).length:Nat):Int):=by
 have f:=n4 (bw c) (s.drop a);rw[yh] at f;unfold vO;rw[jg (λi=>((a+i:Nat):Int)) ((s.drop a).takeWhile (bw c)).length ((a+((s.drop a).takeWhile (bw c)).length:Nat):Int)]
 . intro i hi
   obtain⟨x,e,j⟩:=KP hi;rw[List.getElem?_drop] at e;have d:x.toNat≠c:=by grind[bw]
   simp only[ai,ap];rw[ot om,Yr,e,yd,aa,ov d];simp only[xn,aj];rw[w1 om];rfl
 . simp only[ai,ap]
   by_cases h:a+((s.drop a).takeWhile (bw c)).length=s.length
   . grind
   . rw[ot om]
     obtain⟨x,e,j⟩:=m4 (c:=c) (l:=s.drop a) (by rw[yh];omega);grind[Yr]
 all_goals grind[aq]
theorem SJ{s:Be}(p:UInt8->Bool)(e:a<=s.length):sub s (a:Int) ((a+((s.drop a).takeWhile p).length:Nat):Int)=some ((s.drop a).takeWhile p):=by have d:=n4 p (s.drop a);rw[yh] at d;rw[Z1 om om,List.drop_take,ud,<-Jl5]
theorem SK(s:Be)(a:Nat):gK (s.drop a)=s.drop (a+(eH (s.drop a)).length+1):=by grind[gK,eH,wX,List.drop_drop]
theorem Jka(s:Be)(a:Nat):gq (s.drop a)=s.drop (a+(eH (s.drop a)).length+1+(dQ (s.drop a)).length+1):=by grind[SK,gq,dQ,wX,List.drop_drop]
theorem Le(v c:Nat)(e:v<100000)(a:48<=c)(d:c<=57):wrap64 (wrap64 (wrap64 (10*(v:Int))+(c:Int)) - 48)=((v*10+(c - 48):Nat):Int):=by grind[aK]
theorem Jig{t:Be}{x:UInt8}(a:t[i]?=some x):aE (t.take (i+1)) 0=aE (t.take i) 0*10+(x.toNat - 48):=by rw[Jgl a,wP]
theorem w2(x:Nat)(h:x<9223372036854775806):wrap64 ((x:Int)+2)=((x+2:Nat):Int):=by grind[aK]
theorem SL{l:Be}:(l.any λb=>!bw c b)=false↔(l.takeWhile (bw c)).length=l.length:=by have a:=FY c l;grind[n4]
theorem Jkb{n:Nat}{t:Be}{K:Int->Option R}(j:aq<=n)(d:fR t)(f:t.length<=5):
 (ae (τ:=Int) (λ(s134:Int×Int)=>
  if s134.2<(t.length:Int) then
   (bv t s134.2).bind λy135=>some (.go (wrap64 ((wrap64 ((wrap64 (10*s134.1))+(y135:Int))) - 48),wrap64 (s134.2+1)))
  else some (Lp.out s134.1)) n (0,0)).bind K=K (aE t 0:Int):=by
 rw[jg (λi=>((aE (t.take i) 0:Int),(i:Int))) t.length (aE t 0:Int)];intro i hi;have a:t[i]?=some t[i]:=xm hi;have hd:=d t[i] oh;generalize t[i]=x at a hd;have e:=FX (wR (k:=i) d) ol;simp only[];rw[ot om,Yr,a,yd,aa,Le _ _ e hd.1 hd.2,Jig a,w1 om];simp;grind[aq];rfl
theorem F4{t:Be}:cD t<0↔¬(t.length<=5/\aw t<0/\bZ t=t):=by grind[cD]
theorem Jl8{t:Be}(h:¬ cD t<0):cD t=(aE t 0:Int)/\t.length<=5/\aw t<0/\bZ t=t:=by grind[cD]
def sS(out:List Q1):(Qn×Nat) ⊕ Nat->Lp (List Q1×Int) (Lp (List Q1) (List Q1×Kt))
 | .inl (p,a)=>.go (out++[iz p],(a:Int))
 | .inr x=>.out (.out ([],⟨1,(x:Int)⟩))
open Classical in
theorem Q1o{n:Nat}{s:Be}(d:aq<=n)(P:s.length<=1000000):Bh n s=some ((dR s).1.map iz,⟨(dR s).2.1,((dR s).2.2:Int)⟩):=by
 unfold Bh;refine ww λf hf=>?_;have step:∀(out:List Q1) (a:Nat),a<s.length->out.length<=a->f (out,(a:Int))=some (sS out (fk s.length a (s.drop a))):=by
  intro out a C E;subst hf;have X:=SE (s.drop a);have u:=SK s a;have F:=Jka s a;rw[yh] at X;simp only[ap];rw[ot om,SI d om P,aa,show(s.drop a).takeWhile (bw 61)=eH (s.drop a) from rfl];have s1:sub s (a:Int) ((a+(eH (s.drop a)).length:Nat):Int)=some (eH (s.drop a)):=SJ _ om;simp only[ai,s1,aa,Sw d];have a1:=SL (c:=61) (l:=s.drop a);rw[show(s.drop a).takeWhile (bw 61)=eH (s.drop a) from rfl,yh] at a1;have a2:=SL (c:=58) (l:=gK (s.drop a));rw[show(gK (s.drop a)).takeWhile (bw 58)=dQ (s.drop a) from rfl] at a2;have Z:=SF (s.drop a);have G:=yj List.length u;rw[yh] at G;have H:=yj List.length F;rw[yh] at H;unfold fk;rw[show wrap64 (((a+(eH (s.drop a)).length:Nat):Int) - (a:Int))=(((eH (s.drop a)).length:Nat):Int) by rw[aK om om];omega];by_cases m:12<((eH (s.drop a)).length:Int);rw[ot m,aj];cases I:dp 2 (eH (s.drop a));rw[ot rfl];rfl;have:=Sy I;omega;rw[oq m];cases I:dp 2 (eH (s.drop a));rw[ot rfl];rfl;rw[oq (show ¬ true=false by decide)];simp only[ow,ak];by_cases T:(a+(eH (s.drop a)).length)=s.length;rw[ot om,ot (a1.2 om)];rfl;rw[oq om,oq (λh=>T (by have:=a1.1 h;omega)),w1 om,SI d om P,<-u,aa,show(gK (s.drop a)).takeWhile (bw 58)=dQ (s.drop a) from rfl];have R:sub s ((a+(eH (s.drop a)).length+1:Nat):Int) ((a+(eH (s.drop a)).length+1+(dQ (s.drop a)).length:Nat):Int)=some (dQ (s.drop a)):=by
   have:=SJ (s:=s) (a:=a+(eH (s.drop a)).length+1) (bw 58) om;rw[<-u] at this;exact this
  rw[R,aa];clear R u;by_cases U:a+(eH (s.drop a)).length+1+(dQ (s.drop a)).length=s.length;rw[ot om,aj,ot (show cD (dQ (s.drop a))<0\/((gK (s.drop a)).any λb=>!bw 58 b)=false from .inr (a2.2 om))];rfl;rw[oq om];by_cases J:5<((dQ (s.drop a)).length:Int);rw[ot J,aj,ot (show cD (dQ (s.drop a))<0\/((gK (s.drop a)).any λb=>!bw 58 b)=false from .inl (F4.2 λg=>by omega))];rfl;rw[oq J,FF d (by unfold maxLen;omega),aa];by_cases K:0<=aw (dQ (s.drop a));rw[ot K,aj,ot (show cD (dQ (s.drop a))<0\/((gK (s.drop a)).any λb=>!bw 58 b)=false from .inl (F4.2 λg=>by omega))];rfl;rw[oq K,R2 d (by unfold maxLen;omega),aa];by_cases w:bZ (dQ (s.drop a))=dQ (s.drop a);rw[ou w];have e:¬ cD (dQ (s.drop a))<0:=λh=>F4.1 h ⟨om,om,w⟩;obtain⟨Q,_,_,_⟩:=Jl8 e;obtain⟨O,_,_⟩:=lK (show aw (dQ (s.drop a))<0 by omega);have V:=FX O om
  rw[oq (show ¬(cD (dQ (s.drop a))<0\/((gK (s.drop a)).any λb=>!bw 58 b)=false) by
   rintro(h | h);exact e h
   exact U (by have:=a2.1 h;omega))]
  simp only[ow,ak];rw[Jkb d O om,Q,ur];clear Q e;generalize aE (dQ (s.drop a)) 0=v at *;rw[w1 (i:=a+(eH (s.drop a)).length+1+(dQ (s.drop a)).length) om,sQ _ v om,w1 om,ap];by_cases M:(gq (s.drop a)).length<v+1;rw[ot M,ot om];rfl;rw[oq M,oq om];have B:(gq (s.drop a))[v]?=some (gq (s.drop a))[v]:=xm om;generalize (gq (s.drop a))[v]=x at B;have q:=B;rw[F,List.getElem?_drop] at q;rw[Yr,q,yd,aa,bB];by_cases A:x.toNat=59;have W:x=59:=ya.1 A;rw[ot A,oq (by rw[B,W];simp),Z1 om om,aa,Jv oj oj,aa,sQ _ v om,w2 _ om,List.drop_take,ud,<-F];simp only[sS,iz];congr 4;omega;rw[oq A,ot (by rw[B];intro h;cases h;exact A rfl)];rfl;rw[ov w,ot (show cD (dQ (s.drop a))<0\/((gK (s.drop a)).any λb=>!bw 58 b)=false from .inl (F4.2 λg=>w g.2.2))];simp only[xn,aj];rfl
 rw[Ld (s:=s) (λout a=>(out.map iz,(a:Int))) (λx=>([],⟨1,(x:Int)⟩)) (λl=>l.map iz) ?_ ?_ ?_ (s.length+1) 0 [] n ([],(0:Int)) om oh om (by unfold aq at d;omega) rfl];unfold dR;cases hi:pg s (s.length+1) 0 [] with
 | inr x=>rfl
 | inl l=>
   simp only[];rw[Q7o d,aa,va,show tW ∘ iz=id from rfl,List.map_id];by_cases h:iO l;rw[ot h,ou h];rfl;rw[oq h,ov h];rfl
 intro out a p Y C E j;rw[step (out.map iz) a C (by simpa using E),j];simp[sS];intro out a x C E j;rw[step (out.map iz) a C (by simpa using E),j];rfl;intro out;rw[hf];simp only[ap];rw[oq om]
theorem Jkc{s:Be}:(dR s).1.length<=30:=by unfold dR;split;split;rename_i h;exact h.1;simp;simp
theorem Jgm(s:Be):(∃ l,dR s=(l,0,0)/\iO l/\s=fE l/\∀ p∈l,dp 2 p.A0=true)\/(∃ k x,k≠0/\dR s=([],k,x)):=by
 unfold dR;cases hi:pg s (s.length+1) 0 [] with
 | inr x=>simp
 | inl l=>
   simp only[];obtain⟨g1,a⟩:=Lc _ _ _ _ hi om rfl oh;grind
theorem ph(c:Nat):∀ s,aF c s≠[]
 | []=>by simp[aF]
 | x::s=>by grind[aF]
def bj(x:UInt8):List Be->Be
 | []=>[]
 | [w]=>w
 | w::v::r=>w++x::bj x (v::r)
theorem qm{x:UInt8}:∀(s:Be),bj x (aF x.toNat s)=s
 | []=>rfl
 | y::s=>by
   have d:=qm (x:=x) s;have e:=ph x.toNat s;unfold aF;cases h:bw x.toNat y;have f:y=x:=by grind[UInt8.toNat_inj,bw]
   rw[oq oc];cases a:aF x.toNat s with
   | nil=>grind
   | cons w r=>grind[bj]
   rw[ot rfl];cases a:aF x.toNat s with
   | nil=>grind
   | cons w r=>
     rw[a] at d;simp only[];cases r with
     | nil=>grind[bj]
     | cons v r=>grind[bj]
theorem wZ{c:Nat}:∀ {s w:Be},w∈aF c s->∀ b∈w,b.toNat≠c
 | [],w,h,b,a=>by grind[aF]
 | y::s,w,h,b,a=>by
   unfold aF at h;cases e:bw c y;rw[e,oq oc] at h;rcases xk.1 h with rfl | h;cases a;exact wZ h b a;rw[e,ot rfl] at h;cases d:aF c s with
   | nil=>grind[ph]
   | cons v r=>
     rw[d] at h;simp only[] at h;have f:y.toNat≠c:=by simpa [bw] using e
     rcases xk.1 h with rfl | h;rcases xk.1 a with rfl | a;exact f;exact wZ (d ▸ List.Mem.head _) b a;exact wZ (d ▸ List.Mem.tail _ h) b a
theorem Lf:∀(k:Nat) {v:Nat},1<=k->v<tp k->(fQ v).length<=k
 | 0,_,h,_=>om
 | 1,v,_,h=>by grind[kL,jM,Su]
 | k+2,v,_,h=>by
   by_cases f:v<10;grind[Su];have d:v / 10<tp (k+1):=by rw[kL] at h;omega
   have q:=Lf (k+1) (v:=v / 10) om d;have m:v%10<10:=yo _ om;have a:(UInt8.ofNat (48+v%10)).toNat=48+v%10:=by rw[UInt8.toNat_ofNat'];omega
   have j:fR [UInt8.ofNat (48+v%10)]:=λc i=>by rw[uw.1 i,a];omega
   have e:aE [UInt8.ofNat (48+v%10)] (v / 10)=v:=by simp only[aE];rw[a];omega
   grind[R0]
theorem SM{z:Int}{k:Nat}(h:(ay z.natAbs).length<=k)(hk:k<4398046511104):Ww (fu z):=⟨Jh _,by show(ay z.natAbs).length<_;omega⟩
theorem SN(w p:Be)(_:w.length<=9223372036854775807):u9 w p=some (decide (w.take p.length=p)):=by
 unfold u9 Xd;simp only[ai];by_cases h:p.length<=w.length;simp_all[qa];rw[ov om,ak,aa];have:¬ w.take p.length=p:=ol
 grind
theorem SO(w p:Be)(d:w.length<=9223372036854775807):uZ w p=some (if w.take p.length=p then (w.drop p.length,true) else (w,false)):=by
 have h:=SN w p d;unfold u9 at h;have a:Xd w p=some (decide (w.take p.length=p)):=ol
 unfold uZ Z3;rw[a,aa];by_cases c:w.take p.length=p;have e:p.length<=w.length:=by have:=yj List.length c;simp at this;omega
 simp_all[Z1];grind
def aV(w:Be):Be:=if w.take 1=[45] then w.drop 1 else w
def fa(w:Be):Int:=if w.take 1=[45] then -(aE (aV w) 0:Int) else (aE (aV w) 0:Int)
theorem jp:Ji (⟨0,0,0,0⟩:Qc) (⟨0,0,0,0⟩:Qc)=true:=oc
theorem jq{k a:Int}(h:k≠0)(b c:Int):Ji (⟨k,b,c,a⟩:Qc) (⟨0,0,0,0⟩:Qc)=false:=by grind[Ji]
theorem sT(s:Be):aw s<=s.length/\-1<=aw s:=by
 unfold aw;cases a:bi s 0 with
 | none=>grind
 | some j=>have:=Jge a;grind
theorem Q5q{n:Nat}(a:aq<=n)(i:w.length<=1000000):
 zQ n w=some (if 0<=aw (aV w) then ((⟨false,[]⟩:Qg),(⟨1,0,0,aw (aV w)+((w.length:Int) - (aV w).length)⟩:Qc)) else (fu (fa w),⟨0,0,0,0⟩)):=by
 have j:∀ t:Be,t.length<=1000000->t.length<=maxLen:=λt h=>xz h oc;have f:(aV w).length<=w.length:=by grind[aV]
 have e:(if w.take 1=[45] then (w.drop 1,true) else (w,false))=(aV w,decide (w.take 1=[45])):=by unfold aV;grind
 unfold zQ;rw[SO w [45] om,aa,show([45]:Be).length=1 from rfl,e,B5 a ol,aa];have d:=sT (aV w);by_cases h:0<=aw (aV w);rw[ot h,ot h,jq oc,xn,aj];grind[aK];simp_all[oq,jp,Ze,fa]
theorem Jkd(c:UInt8){s:Be}(h:s.length<4294967281):uK s [c]=some (aF c.toNat s):=by simp_all[uK]
def qn(c:UInt8):Bool:=!([47,46]:Be).contains c
def be(s:Be):Nat:=(s.takeWhile qn).length
theorem F5(s:Be):be s<=s.length:=by grind[be,n4]
theorem Ch:∀ {s:Be},be s<s.length->∃ c,s[be s]?=some c/\(c=47\/c=46)
 | [],h=>ol
 | x::s,h=>by
   by_cases f:qn x=true;have e:be (x::s)=be s+1:=by unfold be;rw[xj,ot f];rfl
   rw[e] at h |-;obtain⟨c,a,d⟩:=Ch (s:=s) (by simpa using h);exact⟨c,by simpa using a,d⟩;have e:be (x::s)=0:=by simp_all[be]
   rw[e];refine⟨x,rfl,?_⟩;grind[qn]
theorem Lg:∀ {s:Be}{j:Nat}{c:UInt8},j<be s->s[j]?=some c->c≠47/\c≠46:=by
 intro s j c h a;have d:c∈s.takeWhile qn:=by
  have:(s.takeWhile qn)[j]?=some c:=by
   rw[<-a];have e:=B9 qn s
   conv=>lhs;rw[e]
   rw[vf];unfold be at h;rw[ot h]
  grind
 have:=uv.1 (List.all_takeWhile (p:=qn) (l:=s)) c d;grind[qn]
theorem Jii(s:Be):Lib.indexAny s [47,46]=if be s<s.length then (be s:Int) else -1:=by by_cases h:be s<s.length;rw[ot h];obtain⟨c,a,f⟩:=Ch h;refine Lib.indexAny_hit (x:=c) (λj b e d=>?_) a ol;grind[Lg];rw[oq h];have i:=F5 s;refine Lib.indexAny_none λj b e d=>?_;grind[Lg]
theorem Q29{n:Nat}(f:aq<=n)(x:w.length<=1000000):
 Bk n w=some (if 0<=aw (aV w) then ((⟨false,[]⟩:Jf),aw (aV w)+((w.length:Int) - (aV w).length)) else (rW (fa w),-1)):=by
 have K:∀ t:Be,t.length<=1000000->t.length<=maxLen:=λt h=>xz h oc
 have tail:∀(b:Bool) (k:Nat),k<=w.length->aV w=w.drop k->(b=decide (w.take 1=[45])) ->
  ((sub w (k:Int) (w.length:Int)).bind λm=>(Xa n m).bind λa=>bif decide (0<=a) then (
   some ((⟨false,[]⟩:Jf),wrap64 ((k:Int)+a)))
  else ((sub w (k:Int) (w.length:Int)).bind λq=>(X7 n q).bind λi=>(Vt n (⟨b,i⟩:Jf)).bind λj=>
   some (j,(-1))))=some (if 0<=aw (aV w) then ((⟨false,[]⟩:Jf),aw (aV w)+((w.length:Int) - (aV w).length)) else (rW (fa w),-1)):=by
  intro b k hk J B;have C:(aV w).length=w.length - k:=ol
  have G:sub w (k:Int) (w.length:Int)=some (aV w):=by simp_all[Z1]
  have H:=sT (aV w);rw[G,aa,FF f ol,aa,ap];by_cases h:0<=aw (aV w);rw[ot h,ot h,aK om om];grind;obtain⟨u,E,A⟩:=lK (show aw (aV w)<0 by omega);have F:=lL u;rw[oq h,oq h,aa,KK f u om,aa,Fy f (Jh _) ol,aa];grind[wy,fa,Q6]
 unfold Bk;simp only[ai]
 match w,x,tail with
 | [],_,tail=>
   exact tail false 0 oh rfl oc
 | c::t,x,tail=>
   rw[ou oh,aj,show bv (c::t) 0=some c.toNat from rfl,aa];by_cases v:c=45;subst v;exact tail true 1 oh rfl oh;have d:¬ c.toNat=45:=λe=>v (ya.1 e);have I:¬(c::t).take 1=[45]:=ol
   rw[ov d,ak];exact tail false 0 oh (by grind[aV]) ol
def aA(s:Be):Be:=s.drop (be s+1)
def cK(s:Be):Be:=s.take (be s)
def kF(s:Be):Int×Int:=
 if 0<=aw (aV (cK s)) then (1,aw (aV (cK s))+((cK s).length - (aV (cK s)).length))
 else if be s=s.length then (0,0) else if 0<=aw (aA s) then (1,(be s:Int)+1+aw (aA s)) else if s[be s]?=some 46 then (0,0) else if aE (aA s) 0=0 then (2,(be s:Int)+1) else (0,0)
def qF(s:Be):Rat:=
 if be s=s.length then (fa (cK s):Rat)
 else if s[be s]?=some 46 then mkRat (if s.take 1=[45] then -(((fa (cK s)).natAbs*tp (aA s).length+aE (aA s) 0:Nat):Int) else (((fa (cK s)).natAbs*tp (aA s).length+aE (aA s) 0:Nat):Int)) (tp (aA s).length)
 else mkRat (fa (cK s)) (aE (aA s) 0)
def bC(n:Nat):Prop:=∀ k:Nat,1<=k->k<=60->AA n (k:Int)=some (ay (tp k))/\Y5 n (k:Int)=some (ay (tp k))
theorem F6(h:aw (aV w)<0):(ay (fa w).natAbs).length<=60:=by grind[lK,lL,fa]
theorem SP(neg:Bool)(v:Nat):wv (⟨neg,ay v⟩:Qg)=if neg then -(v:Int) else (v:Int):=by grind[wv,Q6]
theorem Lh{n:Nat}{s:Be}(a:aq<=n)(hl:s.length<=4000)(U:uL s [47,46]=some (Lib.indexAny s [47,46]))(V:bC n):
 ∃ x,p8 n s=some (x,⟨(kF s).1,0,0,(kF s).2⟩)/\((kF s).1=0->x=ce (qF s)):=by
 have X:=F5 s;have wl:(cK s).length=be s:=by grind[cK]
 have B:(aV (cK s)).length<=(cK s).length:=by grind[aV]
 unfold p8;rw[U,aa,Jii];simp only[ai];have hread:=Q5q (n:=n) (w:=cK s) a om
 have one:∀ z:Int,(ay z.natAbs).length<=60->mP n (fu z) (ay 1)=some (ce (z:Rat),true):=λz M=>by rw[FW a (by grind[SM]) (Jh _) (by have:=Wn (n:=1) (k:=1) (by grind[bp]);omega) (by grind[Q6]),jV,Q6,Rat.mkRat_one]
 by_cases C:be s<s.length;have P:sub s 0 (be s:Int)=some (cK s):=qa om;obtain⟨c,Y,E⟩:=Ch C;rw[ot C,ou om,aj,P,aa,hread,aa];by_cases j:0<=aw (aV (cK s));simp_all[kF,jq,sJ];have M:=F6 (w:=cK s) om;have m:¬ be s=s.length:=om
 have O:bv s (be s:Int)=some c.toNat:=by grind[Yr]
 have er:sub s ((be s+1:Nat):Int) (s.length:Int)=some (aA s):=by rw[Z1 om oh,yp];rfl
 have rl:(aA s).length=s.length - (be s+1):=by grind[aA]
 have hwr:=sT (aA s);rw[oq j,jp,ow,ak,ov om,ak,O,aa,w1 om];have i:u7 n s ((be s+1:Nat):Int)=some (if 0<=aw (aA s) then (([]:Bf),(⟨1,0,0,(be s:Int)+1+aw (aA s)⟩:Qc)) else (ay (aE (aA s) 0),⟨0,0,0,0⟩)):=by unfold u7;rw[er,aa,B5 a (xz (by omega:(aA s).length<=4000) oc),aa,ai];by_cases e:0<=aw (aA s);rw[ot e,ot e,jq oc,xn,aj];grind[aK];simp_all[oq,jp]
 rcases E with rfl | rfl;have n46:¬ s[be s]?=some 46:=ol
 rw[show(47:UInt8).toNat=47 from rfl,ou rfl,aj];unfold EZ;rw[i,aa];by_cases e:0<=aw (aA s);simp_all[kF,oq,jq,sJ];obtain⟨A,q,d⟩:=lK (show aw (aA s)<0 by omega);have G:=lL A;rw[oq e,jp,ow,ak];by_cases T:aE (aA s) 0=0;have f:kF s=(2,(be s:Int)+1):=by simp_all[kF,oq]
 have K:mP n (fu (fa (cK s))) (ay (aE (aA s) 0))=some (ce 0,false):=by unfold mP;rw[wB a om (Jh _),aa,Q6,ou T,aj,sJ a,aa]
 simp_all;have f:kF s=(0,0):=by simp_all[kF,oq]
 have eq:qF s=mkRat (fa (cK s)) (aE (aA s) 0):=by simp_all[qF]
 simp only[];rw[FW a (by grind[SM]) (Jh _) om (by grind[Q6]),aa,ow,ak,aa,jV,Q6,f];grind;have J:s[be s]?=some 46:=Y;rw[show(46:UInt8).toNat=46 from rfl,ov oc,ak,SN s [45] om,aa];unfold E0;rw[i,aa];by_cases e:0<=aw (aA s);have f:kF s=(1,(be s:Int)+1+aw (aA s)):=by unfold kF;rw[oq j,oq m,ot e]
 rw[ot e,jq oc,xn,aj,sJ a,aa,aa,f];exact⟨_,rfl,oh⟩;obtain⟨A,q,d⟩:=lK (show aw (aA s)<0 by omega);have H:1<=(aA s).length:=ol
 have G:=lL A;have f:kF s=(0,0):=by unfold kF;rw[oq j,oq m,oq e,ot J]
 have Q:wrap64 ((s.length:Int) - ((be s+1:Nat):Int))=((aA s).length:Int):=by rw[aK om om];omega
 have I:(ay (tp (aA s).length)).length<=60:=by have:=Wn (n:=tp (aA s).length) (k:=60) (xh (fh d) (by unfold tp bp;decide));omega
 have F:(ay ((fa (cK s)).natAbs*tp (aA s).length)).length<=120:=by
  refine Wn ?_;have a1:(fa (cK s)).natAbs<bp 60:=by have:=V9 (Jh (fa (cK s)).natAbs);rw[Q6] at this;exact xr this (cB M)
  have a2:tp (aA s).length<bp 60:=by have:=V9 (Jh (tp (aA s).length));rw[Q6] at this;exact xr this (cB I)
  rw[show(120:Nat)=60+60 from rfl,BI];exact Nat.mul_lt_mul'' a1 a2
 have Z:(ay ((fa (cK s)).natAbs*tp (aA s).length+aE (aA s) 0)).length<=121:=by refine Wn ?_;have u:=V9 (Jh ((fa (cK s)).natAbs*tp (aA s).length));rw[Q6] at u;have v:=V9 (Jh (aE (aA s) 0));rw[Q6] at v;have u:=xr u (cB F);have v:=xr v (cB (show(ay (aE (aA s) 0)).length<=120 by omega));have:bp 121=bp 120*4294967296:=W8 120;omega
 rw[oq e,jp,ow,ak,Q,(V _ H d).1,aa,show(fu (fa (cK s))).A7=ay (fa (cK s)).natAbs from rfl];simp only[]
 rw[Fm a om om (Jh _) (Jh _),aa,Q6,Q6,QH a om om (Jh _) (Jh _),aa,Q6,Q6,
  FW a ⟨Jh _,by show(ay _).length<_;omega⟩ (Jh _) om (by rw[Q6];exact Nat.ne_of_gt (RT _)),aa,aa,SP,Q6,f]
 simp_all[qF];have W:be s=s.length:=om
 have R:cK s=s:=by grind[cK]
 rw[oq C,ov oc,ak];rw[R] at hread B;rw[hread,aa];by_cases j:0<=aw (aV s);simp_all[kF,jq,sJ];have f:kF s=(0,0):=by simp_all[kF]
 have eq:qF s=(fa s:Rat):=by simp_all[qF]
 rw[oq j,jp,ow,ak,ou oc,aj,sA a oc,aa,one _ (by grind[F6]),aa,f];grind
theorem Ci{n:Nat}{z:Int}(d:aq<=n)(i:(ay z.natAbs).length<=60):J9 n (⟨(rW z).A8,(rW z).A7,([1]:Bf)⟩:Qa)=some (rF (z:Rat)):=by
 have a:Wd [1]:=λy f=>ol
 rw[o8 d (Jh _) a (by show(ay z.natAbs).length<_;omega) oh];have:fr (⟨(rW z).A8,(rW z).A7,([1]:Bf)⟩:Qa)=(z:Rat):=by have e:=qh z;simp_all[wy,fr,val,Rat.mkRat_one]
 rw[this]
theorem F7{n:Nat}{s:Be}(d:aq<=n)(hl:s.length<=4000)(R:bC n):
 ∃ y,X9 n s=some (y,(kF s).1,(kF s).2)/\((kF s).1=0->y=rF (qF s)):=by
 have F:=F5 s;have wl:(cK s).length=be s:=by grind[cK]
 have T:(aV (cK s)).length<=(cK s).length:=by grind[aV]
 unfold X9;rw[show ae _ n (0:Int)=some ((be s:Nat):Int) from BU (λi=>(i:Int)) (be s) 0 n ?_ ?_ (by grind[Nat.lt_of_lt_of_le,aq]),aa,qa F,aa]
 rotate_left
 . intro i hi
   rw[xx];simp only[ai];have u:i<s.length:=om
   have q:=Lg hi (xm u);have C:¬(s[i]).toNat=47:=λe=>q.1 (ya.1 e);have B:¬(s[i]).toNat=46:=λe=>q.2 (ya.1 e);rw[ou om,aj,jL u,aa,ov C,xn,aj,aa,ov B,xn,aj,w1 om]
 . rw[xx];simp only[ai]
   by_cases E:be s<s.length
   . obtain⟨c,q,m⟩:=Ch E
     have A:bv s (be s:Int)=some c.toNat:=by rw[Yr,q];rfl
     rw[ou om,aj,A,aa];rcases m with rfl | rfl
     all_goals rfl
   grind
 rw[show s.take (be s)=cK s from rfl,Q29 d om,aa];have hwb:=sT (aV (cK s));by_cases J:0<=aw (aV (cK s))
 . have j:kF s=(1,aw (aV (cK s))+((cK s).length - (aV (cK s)).length)):=by simp_all[kF]
   rw[ot J,ou om,aj,B0 d,aa,j];simp
 rw[oq J,ov oh,ak];have hz:=F6 (w:=cK s) om;by_cases E:be s<s.length
 case neg=>
  have U:be s=s.length:=om
  simp_all[kF,oq,qF,Ci]
 obtain⟨c,q,m⟩:=Ch E;have V:¬ be s=s.length:=om
 have A:bv s (be s:Int)=some c.toNat:=by grind[Yr]
 have er:sub s ((be s+1:Nat):Int) (s.length:Int)=some (aA s):=by rw[Z1 om oh,yp];rfl
 have rl:(aA s).length=s.length - (be s+1):=by grind[aA]
 have hwr:=sT (aA s);rw[ov om,ak,w1 om,er,aa,FF d (xz (by omega:(aA s).length<=4000) oc),aa];by_cases K:0<=aw (aA s)
 . have j:kF s=(1,(be s:Int)+1+aw (aA s)):=by simp_all[kF,oq]
   rw[ou K,aj,B0 d,aa,aK om om,j,show((be s+1:Nat):Int)+aw (aA s)=(be s:Int)+1+aw (aA s) by omega];simp
 obtain⟨M,O,f⟩:=lK (show aw (aA s)<0 by omega);have H:1<=(aA s).length:=ol
 have W:=lL M;rw[ov K,ak,KK d M om,aa,A,aa];rcases m with rfl | rfl
 . have n46:¬ s[be s]?=some 46:=ol
   rw[show(47:UInt8).toNat=47 from rfl,ov oc,ak];by_cases h3:aE (aA s) 0=0
   . simp_all[kF,oq,W3,B0]
   . have j:kF s=(0,0):=by simp_all[kF,oq]
     have eq:qF s=mkRat (fa (cK s)) (aE (aA s) 0):=by simp_all[qF]
     have X:¬((ay (aE (aA s) 0)).length:Int)=0:=by grind[iJ]
     rw[ov X,ak,o8 d (Jh _) (Jh _) (by show(ay (fa (cK s)).natAbs).length<_;omega) ol,aa,j];refine⟨_,rfl,λ_=>?_⟩;grind[qh,wy,fr,Q6]
 . have y46:s[be s]?=some 46:=q
   have j:kF s=(0,0):=by simp_all[kF,oq]
   have I:(ay (tp (aA s).length)).length<=60:=by have:=Wn (n:=tp (aA s).length) (k:=60) (xh (fh f) (by grind[tp,bp]));omega
   have G:(ay ((fa (cK s)).natAbs*tp (aA s).length)).length<=120:=by
    refine Wn ?_;have a1:(fa (cK s)).natAbs<bp 60:=by have:=V9 (Jh (fa (cK s)).natAbs);rw[Q6] at this;exact xr this (cB hz)
    have a2:tp (aA s).length<bp 60:=by have:=V9 (Jh (tp (aA s).length));rw[Q6] at this;exact xr this (cB I)
    rw[show(120:Nat)=60+60 from rfl,BI];exact Nat.mul_lt_mul'' a1 a2
   have Z:(ay ((fa (cK s)).natAbs*tp (aA s).length+aE (aA s) 0)).length<=121:=by refine Wn ?_;have v:=V9 (Jh ((fa (cK s)).natAbs*tp (aA s).length));rw[Q6] at v;have x:=V9 (Jh (aE (aA s) 0));rw[Q6] at x;have v:=xr v (cB G);have x:=xr x (cB (show(ay (aE (aA s) 0)).length<=120 by omega));grind[W8]
   have hw0:0<(cK s).length:=by grind[aw,aV]
   have Y:0<s.length:=om
   have P:bv s 0=some (s[0]).toNat:=by grind[jL]
   have Q:decide ((s[0]).toNat=45)=decide (s.take 1=[45]):=by
    cases s with
    | nil=>grind
    | cons a t=>
      rw[vt];constructor
      . intro e;have:a=45:=ya.1 e;subst this;rfl
      simp_all
   rw[show(46:UInt8).toNat=46 from rfl,ou rfl,aj,(R _ H f).2,aa,show(rW (fa (cK s))).A7=ay (fa (cK s)).natAbs from rfl,
    wC d om om (Jh _) (Jh _),aa,Q6,Q6,Fi d om om (Jh _) (Jh _),aa,Q6,Q6,P,aa,aa,Q,
    o8 d (Jh _) (Jh _) ol ol,aa,j]
   simp_all[qF,fr,Q6]
theorem Li{s:Be}(h:(kF s).1=0):qw (qF s)<=121:=by
 have H:¬ 0<=aw (aV (cK s)):=by grind[kF]
 have G:=F6 (w:=cK s) om;have J:(ay 1).length<=1:=Wn (by grind[bp]);unfold qF;by_cases e:be s=s.length;rw[ot e];grind[qw,Rat.num_intCast,Rat.den_intCast];rw[oq e];have I:¬ 0<=aw (aA s):=by grind[kF]
 obtain⟨C,B,i⟩:=lK (show aw (aA s)<0 by omega);have E:=lL C
 have key:∀(neg:Bool) (v d:Nat),(ay v).length<=121->(ay d).length<=121->qw (mkRat (if neg then -(v:Int) else (v:Int)) d)<=121:=λneg v d F hd=>by have:=jh (f:=⟨⟨neg,ay v⟩,ay d⟩) (k:=121) ⟨Jh _,F,Jh _,hd⟩ oc;grind[fv,SP,Q6]
 by_cases a:s[be s]?=some 46;rw[ot a];have x:(ay (tp (aA s).length)).length<=60:=by have:=Wn (n:=tp (aA s).length) (k:=60) (xh (fh i) (by grind[tp,bp]));omega
 have u:(ay ((fa (cK s)).natAbs*tp (aA s).length)).length<=120:=by
  refine Wn ?_;have a1:(fa (cK s)).natAbs<bp 60:=by have:=V9 (Jh (fa (cK s)).natAbs);rw[Q6] at this;exact xr this (cB G)
  have a2:tp (aA s).length<bp 60:=by have:=V9 (Jh (tp (aA s).length));rw[Q6] at this;exact xr this (cB x)
  rw[show(120:Nat)=60+60 from rfl,BI];exact Nat.mul_lt_mul'' a1 a2
 have j:(ay ((fa (cK s)).natAbs*tp (aA s).length+aE (aA s) 0)).length<=121:=by refine Wn ?_;have m:=V9 (Jh ((fa (cK s)).natAbs*tp (aA s).length));rw[Q6] at m;have q:=V9 (Jh (aE (aA s) 0));rw[Q6] at q;have m:=xr m (cB u);have q:=xr q (cB (show(ay (aE (aA s) 0)).length<=120 by omega));grind[W8]
 by_cases A:s.take 1=[45]
 rw[ot A];exact key true _ _ j om;rw[oq A];exact key false _ _ j om;rw[oq a];have:=key (decide (fa (cK s)<0)) (fa (cK s)).natAbs (aE (aA s) 0) om om;grind
def eJ:Prop:=∀ s:Be,s.length<=4000->uL s [47,46]=some (Lib.indexAny s [47,46])
def cr:List Be->Int->Int×Int
 | [],_=>(0,0)
 | w::r,a=>if (kF w).1=0 then cr r (a+(w.length+1)) else ((kF w).1,(kF w).2+a)
def kR(s:Be):Int×Int:=if s=[] then (0,0) else cr (aF 44 s) 0
def lR(s:Be):List Rat:=if s=[] then [] else if (kR s).1=0 then (aF 44 s).map qF else []
def ci:List Be->Nat
 | []=>0
 | w::r=>w.length+1+ci r
theorem Lj(s:Be):(kF s).1=0->(kF s).2=0:=by grind[kF]
theorem sV{s:Be}:0<=(kF s).1/\(kF s).1<=2/\0<=(kF s).2/\(kF s).2<=s.length+1:=by have a:=sT (aV (cK s));have d:=sT (aA s);grind[F5,cK,aA,aV,kF]
theorem Cj:∀(W:List Be) (a:Int),0<=(cr W a).1/\((cr W a).1=0->(cr W a).2=0/\∀ w∈W,(kF w).1=0)
 | [],_=>⟨Int.le_refl _,λ_=>⟨rfl,oh⟩⟩
 | w::r,a=>by unfold cr;by_cases h:(kF w).1=0;rw[ot h];obtain⟨f,i2⟩:=Cj r (a+(w.length+1));refine⟨f,λe=>⟨(i2 e).1,λv d=>?_⟩⟩;rcases xk.1 d with rfl | d;exact h;exact(i2 e).2 v d;simp_all[sV]
theorem SQ{n:Nat}(B:aq<=n)(v:eJ)(A:bC n):∀(W:List Be) (i:Nat) (d:List Rat) (a:Int),0<=a->a+ci W<=4001->d.length+W.length<=5000 ->
 ao (λ(_:Nat) (j:Be) (f:(List Qb)×Int)=>
  (p8 n j).bind λe=>bif !(Ji e.2 (⟨0,0,0,0⟩:Qc)) then (some (.out ((([]:List Qb),(⟨e.2.Az,e.2.Step,e.2.Bd,wrap64 (e.2.At+f.2)⟩:Qc))))) else ((az 56 f.1 ([e.1]:List Qb)).bind λu=>some (.go (u,wrap64 (f.2+(wrap64 ((j.length:Int)+1))))))) W i (dV d,a) = some (if (cr W a).1=0 then .go (dV (d++W.map qF),a+ci W) else .out (([]:List Qb),(⟨(cr W a).1,0,0,(cr W a).2⟩:Qc)))
 | [],i,d,a,_,_,_=>by simp_all[ao,cr,ci]
 | w::r,i,d,a,h0,G,H=>by
   simp only[ci,xd] at G H;obtain⟨I,J,K,M⟩:=sV (s:=w);have C:w.length<=4000:=om
   obtain⟨x,E,F⟩:=Lh (n:=n) B C (v w C) A;simp only[ao];rw[E,yb];simp only[];by_cases hk:(kF w).1=0;have q:=Lj w hk;have m:cr (w::r) a=cr r (a+(w.length+1)):=by rw[cr,ot hk]
   rw[hk,q,jp,ow,ak,Jv (by unfold dV;simp;omega) (by unfold dV;simp;omega),aa,yb];simp only[];rw[w1 om,aK om om,F hk,RS,show a+((w.length+1:Nat):Int)=a+((w.length:Int)+1) by omega,SQ B v A r (i+1) (d++[qF w]) _ om om oj,m];grind[ci];have m:cr (w::r) a=((kF w).1,(kF w).2+a):=by rw[cr,oq hk]
   rw[jq hk,xn,aj,m,oq hk];simp only[yb];grind[aK]
theorem Ck{σ τ:Type}{f:σ->Option (Lp σ τ)}(F:Nat->σ):∀(N k m:Nat),(∀ i,i<N->f (F (k+i))=some (.go (F (k+i+1))))->ae f (N+m) (F k)=ae f m (F (k+N))
 | 0,k,m,_=>oh
 | N+1,k,m,h=>by have h0:=h 0 om;simp only[xg] at h0;rw[show N+1+m=(N+m)+1 by omega,V0 h0,Ck F N (k+1) m (λi hi=>by have:=h (i+1) om;rw[show k+(i+1)=k+1+i by omega] at this;exact this),show k+1+N=k+(N+1) by omega]
theorem w7{x:UInt8}:∀(w:Be) (r:List Be),(bj x (w::r)).length+1=ci (w::r)
 | w,[]=>oe
 | w,v::r=>by have:=w7 (x:=x) v r;simp only[bj,xo,xd,ci] at this |-;omega
theorem F8{n:Nat}(G:aq<=n)(F:bC n){s:Be}(Q:s.length<=4000):Xh n s=some (rR (lR s),(kR s).1,(kR s).2):=by
 unfold Xh kR lR;by_cases h0:s=[]
 rw[ou h0,aj,ot h0,ot h0];rfl;rw[ov h0,ak,oq h0,oq h0];obtain⟨w,r,e⟩:∃ w r,aF 44 s=w::r:=by
  cases h:aF 44 s with
  | nil=>grind[ph]
  | cons w r=>simp
 have A:=qm (x:=44) s;rw[show(44:UInt8).toNat=44 from rfl,e] at A;have q:s.length+2<aq:=by grind[aq]
 unfold kR;rw[oq h0,e];refine ww λf hf=>?_
 have run:∀(r:List Be) (w pre:Be) (a:List Rat) (m:Nat),s=pre++bj 44 (w::r)->(∀ v∈w::r,∀ b∈v,b.toNat≠44)->a.length<=pre.length->s.length+2<m+pre.length ->
  ae f m (rR a,((pre.length:Nat):Int),((pre.length:Nat):Int)) =
  some (if (cr (w::r) (pre.length:Int)).1=0 then Lp.go (rR (a++(w::r).map qF)) else Lp.out (([]:List Qa),(cr (w::r) (pre.length:Int)).1,(cr (w::r) (pre.length:Int)).2)):=by
  clear e A h0 q;subst hf;intro r
  induction r with
  | nil=>
    intro w pre a m e hf M O;have el:s.length=pre.length+w.length:=by grind[bj]
    have C:=hf w (.head _);obtain⟨k,rfl⟩:∃ k,m=w.length+(k+2):=⟨m - w.length - 2,om⟩
    refine(Ck (λi=>(rR a,((pre.length:Nat):Int),((pre.length+i:Nat):Int))) w.length 0 (k+2) (λi hi=>?_)).trans ?_;rw[xx];simp only[ai];have d:s[pre.length+i]?=some w[i]:=by grind[bj]
    rw[ou om,aj,ou om,aj,Yr,d,yd,aa,ov ol,xn,aj,w1 om,show pre.length+i+1=pre.length+(i+1) by omega];rw[xx];obtain⟨y,j,u⟩:=F7 (n:=n) G (s:=w) om F;obtain⟨H,I,J,K⟩:=sV (s:=w);have esub:sub s ((pre.length:Nat):Int) ((pre.length+w.length:Nat):Int)=some w:=by rw[Z1 om om,e];grind[bj]
    by_cases hk:(kF w).1=0;have B:cr [w] (pre.length:Int)=(0,0):=by simp_all[cr]
    refine(V0 (s':=(rR (a++[qF w]),((pre.length+w.length+1:Nat):Int),((pre.length+w.length+1:Nat):Int))) ?_).trans ?_;simp only[ai];rw[ou om,aj,ov om,ak,ak,esub,aa,j,aa,hk,ou rfl,ow,ak,Jv (by grind[rR]) (by grind[rR]),aa,w1 om,u hk,KH];grind[Jp];have B:cr [w] (pre.length:Int)=((kF w).1,(kF w).2+pre.length):=by rw[cr,oq hk]
    refine(Jp (t:=Lp.out (([]:List Qa),(kF w).1,(kF w).2+pre.length)) ?_ om).trans ?_;simp only[ai];rw[ou om,aj,ov om,ak,ak,esub,aa,j,aa,ov hk,xn,aj];grind[aK];grind
  | cons v r P=>
    intro w pre a m e hf M O;have A:bj 44 (w::v::r)=w++44::bj 44 (v::r):=rfl;have el:s.length=pre.length+w.length+1+(bj 44 (v::r)).length:=ol
    have C:=hf w (.head _);obtain⟨k,rfl⟩:∃ k,m=w.length+(k+1):=⟨m - w.length - 1,om⟩
    refine(Ck (λi=>(rR a,((pre.length:Nat):Int),((pre.length+i:Nat):Int))) w.length 0 (k+1) (λi hi=>?_)).trans ?_;rw[xx];simp only[ai];have d:s[pre.length+i]?=some w[i]:=ol
    rw[ou om,aj,ou om,aj,Yr,d,yd,aa,ov ol,xn,aj,w1 om,show pre.length+i+1=pre.length+(i+1) by omega];rw[xx];obtain⟨y,j,u⟩:=F7 (n:=n) G (s:=w) om F;obtain⟨H,I,J,K⟩:=sV (s:=w);have esub:sub s ((pre.length:Nat):Int) ((pre.length+w.length:Nat):Int)=some w:=by grind[Z1,List.take_left]
    have d:s[pre.length+w.length]?=some 44:=ol
    by_cases hk:(kF w).1=0;have B:cr (w::v::r) (pre.length:Int)=cr (v::r) (pre.length+(w.length+1)):=by rw[cr,ot hk]
    refine(V0 (s':=(rR (a++[qF w]),((pre.length+w.length+1:Nat):Int),((pre.length+w.length+1:Nat):Int))) ?_).trans ?_;simp only[ai];rw[ou om,aj,ou om,aj,Yr,d,yd,aa,show(44:UInt8).toNat=44 from rfl,ou rfl,ow,ak,esub,aa,j,aa,hk,ou rfl,ow,ak,Jv (by grind[rR]) (by grind[rR]),aa,w1 om,u hk,KH];have:=P v (pre++w++[44]) (a++[qF w]) k ol ol ol ol;have E:(pre++w++[(44:UInt8)]).length=pre.length+w.length+1:=ol
    rw[E] at this;grind;have B:cr (w::v::r) (pre.length:Int)=((kF w).1,(kF w).2+pre.length):=by rw[cr,oq hk]
    refine(Jp (t:=Lp.out (([]:List Qa),(kF w).1,(kF w).2+pre.length)) ?_ om).trans ?_;simp only[ai];rw[ou om,aj,ou om,aj,Yr,d,yd,aa,show(44:UInt8).toNat=44 from rfl,ou rfl,ow,ak,esub,aa,j,aa,ov hk,xn,aj];grind[aK];grind
 refine je (run r w [] [] n ol (by grind[wZ]) oh om) _ ?_;simp only[yn,xi];have hk:=Cj (w::r) 0;by_cases h:(cr (w::r) 0).1=0;simp_all[Vp];rw[show((0:Nat):Int)=0 from rfl,oq h,oq h,yb,Yy];rfl
theorem Lk{n:Nat}(u:aq<=n)(j:eJ)(m:bC n){s:Be}(v:s.length<=4000):sf n s=some (dV (lR s),(⟨(kR s).1,0,0,(kR s).2⟩:Qc)):=by
 unfold sf kR lR;by_cases h0:s=[]
 rw[ou h0,aj,ot h0,ot h0];rfl;rw[ov h0,ak,oq h0,oq h0];obtain⟨w,r,e⟩:∃ w r,aF 44 s=w::r:=by
  cases h:aF 44 s with
  | nil=>grind[ph]
  | cons w r=>simp
 have i:=qm (x:=44) s;rw[show(44:UInt8).toNat=44 from rfl,e] at i;have d:=w7 (x:=44) w r;rw[i] at d;have f:uK s [44]=some (aF 44 s):=by grind[Jkd]
 have q:(w::r).length<=ci (w::r):=by
  have:∀ W:List Be,W.length<=ci W:=by
   intro W;induction W with
   | nil=>simp
   | cons a W A=>grind[ci]
  grind
 rw[f,aa,e,show((([]:List Qb),0))=(dV [],(0:Int)) from rfl,SQ u j m (w::r) 0 [] 0 oh om ol];have hk:=Cj (w::r) 0;unfold kR;rw[oq h0,e];by_cases h:(cr (w::r) 0).1=0;simp_all[Vp];rw[oq h,oq h,yb,Yy];rfl
def kN(s:Be):Int×Int:=if 0<=aw s then (1,aw s) else if 1000000<aE s 0 then (2,0) else (0,0)
def vN(s:Be):Int:=if 0<=aw s then 0 else if 1000000<aE s 0 then 0 else (aE s 0:Nat)
theorem Jeb{n:Nat}{s:Be}(j:aq<=n)(A:s.length<=4000):AM n s=some (vN s,(⟨(kN s).1,0,0,(kN s).2⟩:Qc)):=by
 unfold AM Z7 kN vN;have i:s.length<=maxLen:=by grind[maxLen]
 rw[B5 j i,aa];by_cases a:0<=aw s;rw[ot a,ot a,ot a];have e:oP n []=some (0,true):=by rw[BK j oh (λx v=>by cases v)];rfl
 simp_all[jq];rw[oq a,oq a,oq a];obtain⟨m,u,w⟩:=lK (show aw s<0 by omega);have q:=lL m;simp only[];rw[BK j om (Jh _),aa,jp,ow,ak,Q6];simp only[ai];by_cases d:aE s 0<18446744073709551616;rw[ot d,ow,ak];by_cases f:1000000<aE s 0;grind;rw[ov f,ak,oq f,oq f,aK om om];grind
theorem Jij{s:Be}(h:fR s)(a:s≠[]):fR (bZ s):=by rw[<-wS h a];exact Jl1
theorem SR{s:Be}(h:fR s)(a:s≠[]):aE (bZ s) 0=aE s 0:=by grind[wS,RY]
theorem Jcw{t:Be}(a:fR t):∀ k,k<=t.length->aE (t.take k) 0<tp k:=λk hk=>by have:=wQ (wR (k:=k) a) 0 0 (by grind[jM]);grind
theorem Jke{s:Be}(h:fR s)(a:s≠[]):(1000000<aE ((bZ s).take 8) 0\/8<(bZ s).length)↔1000000<aE s 0:=by grind[SR,tp,Lf,wS,List.take_of_length_le]
theorem F9{c:Nat}:∀ {w:Be},(∀ b∈w,b.toNat≠c)->cJ c w=(w,[],false)
 | [],_=>rfl
 | x::w,h=>by
   have e:=F9 (c:=c) (w:=w) (λb a=>h b (.tail _ a));have d:bw c x=true:=by simp[bw,h x (.head _)]
   simp_all[cJ]
theorem Ll{c:Nat}{x:UInt8}(d:x.toNat=c)(r:Be):∀ {w:Be},(∀ b∈w,b.toNat≠c)->cJ c (w++x::r)=(w,r,true)
 | [],_=>by grind[bw,cJ,List.takeWhile_cons,List.dropWhile_cons]
 | y::w,h=>by
   have e:=Ll d r (w:=w) (λb a=>h b (.tail _ a));have f:bw c y=true:=by simp[bw,h y (.head _)]
   unfold cJ at e |-;simp_all
theorem Lm(c:UInt8){s:Be}(h:s.length<4294967281):Yv s [c]=some (cJ c.toNat s):=by simp_all[Yv]
theorem GA(l:Be)(c:UInt8):uM l [c]=some (l.contains c):=by grind[uM,Lib.contains_iff_indexByte]
def aU(l:Be):Be:=(cJ 124 l).1
def bK(l:Be):Be:=(cJ 124 l).2.1
abbrev SS:=(Int×Int)×List Be×Int×List Rat×List (List Rat)
def cV:List Be->Int->List Rat->List (List Rat)->SS
 | [],a,c,A=>((0,0),[],a,c,A)
 | l::r,a,c,A=>
   if l.contains 124=false then ((0,0),l::r,a,c,A)
   else if (kF (aU l)).1≠0 then (((kF (aU l)).1,(kF (aU l)).2+a),r,a+(l.length+1),c,A) else if (kR (bK l)).1≠0 then (((kR (bK l)).1,(kR (bK l)).2+(a+(aU l).length+1)),r,a+(l.length+1),c,A)
   else cV r (a+(l.length+1)) (c++[qF (aU l)]) (A++[lR (bK l)])
abbrev ST:=(Int×Int)×List Rat×List Be×Int
def dS(b:UInt8):List Be->Int->ST
 | [],a=>((1,a - 1),[],[],a)
 | l::r,a=>
   if l.take 2=[b,32] then (if (kR (l.drop 2)).1≠0 then ((kR (l.drop 2)).1,(kR (l.drop 2)).2+(a+2)) else (0,0),lR (l.drop 2),r,a+(l.length+1))
   else ((1,a),[],r,a+(l.length+1))
theorem Cl{l:Be}(h:l.contains 124=true):l=aU l++124::bK l/\(∀ b∈aU l,b.toNat≠124)/\cJ 124 l=(aU l,bK l,true):=by
 have a:(124:UInt8)∈l:=ol
 obtain⟨x,y,e,d⟩:=List.eq_append_cons_of_mem a;have f:∀ b∈x,b.toNat≠124:=λb i e=>d (by have:b=124:=ya.1 e;grind);simp_all[Ll,aU,bK]
theorem w8{s:Be}:0<=(kR s).1/\0<=(kR s).2/\(kR s).2<=2*s.length+4/\((kR s).1=0->(kR s).2=0):=by
 unfold kR;by_cases h0:s=[]
 grind;rw[oq h0];have key:∀(W:List Be) (a:Int),0<=a->0<=(cr W a).2/\(cr W a).2<=a+ci W+2:=by
  intro W
  induction W with
  | nil=>grind[cr]
  | cons w r B=>
    intro a A;obtain⟨i,j,m,q⟩:=sV (s:=w);grind[cr,ci]
 obtain⟨w,r,e⟩:∃ w r,aF 44 s=w::r:=by
  cases h:aF 44 s with
  | nil=>grind[ph]
  | cons w r=>simp
 have f:=qm (x:=44) s;rw[show(44:UInt8).toNat=44 from rfl,e] at f;have d:=w7 (x:=44) w r;rw[f] at d;have u:=key (aF 44 s) 0 (Int.le_refl _);have v:=Cj (aF 44 s) 0;grind
def jr:List Be->Int->J6
 | [],a=>⟨[],a - 1,true⟩
 | l::r,a=>⟨bj 10 (l::r),a,false⟩
theorem Ln{l:Be}{r:List Be}{a:Int}(hf:∀ b∈l,b.toNat≠10)(h0:0<=a)(d:a+ci (l::r)<=5000):Xt (jr (l::r) a)=some (l,a,true,jr r (a+(l.length+1))):=by
 have e:=w7 (x:=10) l r;unfold Xt;simp only[jr,ak];rw[Lm 10 om,aa];simp only[ci] at d;cases r with
 | nil=>
   simp only[ci] at d;rw[show bj 10 [l]=l from rfl,F9 (c:=(10:UInt8).toNat) hf,ai];simp only[ak,xn];grind[aK]
 | cons v r=>
   rw[show bj 10 (l::v::r)=l++10::bj 10 (v::r) from rfl,Ll (c:=(10:UInt8).toNat) (x:=10) rfl _ hf,ai];simp only[aj,ow];grind[aK]
theorem Jl9{t pre l:Be}{r:List Be}{R:J6}(e:t=pre++bj 10 (l::r)):Zp R t (pre.length:Int)=some (jr (l::r) (pre.length:Int)):=by unfold Zp jr;rw[Z1 ol oh,yp,e,List.drop_left,aa]
theorem Lq{k at_ b:Int}(h0:k=0->at_=0)(a:0<=at_)(d:at_<=1000000)(e:0<=b)(f:b<=1000000):se (⟨k,0,0,at_⟩:Qc) b=some (if k=0 then ⟨0,0,0,0⟩ else ⟨k,0,0,at_+b⟩):=by unfold se;by_cases hk:k=0;simp_all[ai,jp];rw[ai,jq hk,xn,aj,oq hk];grind[aK]
theorem Jec{n:Nat}{t nm:Be}(K:aq<=n)(I:eJ)(J:bC n)(ht:t.length<=4000):∀(L:List Be) (pre:Be) (c:List Rat) (A:List (List Rat)) (m:Nat),(L≠[]->t=pre++bj 10 L)->(pre.length+ci L<=4001)->(∀ l∈L,∀ b∈l,b.toNat≠10)->L.length<m->c.length<=pre.length->A.length<=pre.length ->
 ae (λ(f:J6×(List Qb)×(List (List Qb)))=>
 (Xt f.1).bind λd=>bif !d.2.2.1 then (some (.out (((⟨0,0,0,0⟩:Qc),d.2.2.2,nm,([]:List Qb),([]:List Qb),f.2.1,f.2.2)))) else ((uM d.1 ([124]:Be)).bind λE=>bif !E then ((Zp d.2.2.2 t d.2.1).bind λF=>some (.out (((⟨0,0,0,0⟩:Qc),F,nm,([]:List Qb),([]:List Qb),f.2.1,f.2.2)))) else ((vA n d.1 d.2.1).bind λj=>bif !(Ji j.2.2 (⟨0,0,0,0⟩:Qc)) then (some (.out ((j.2.2,d.2.2.2,nm,([]:List Qb),([]:List Qb),f.2.1,f.2.2)))) else ((az 56 f.2.1 ([j.1]:List Qb)).bind λG=>(az 24 f.2.2 ([j.2.1]:List (List Qb))).bind λH=>some (.go (d.2.2.2,G,H)))))) m (jr L (pre.length:Int),dV c,A.map dV) =
 some ((⟨(cV L (pre.length:Int) c A).1.1,0,0,(cV L (pre.length:Int) c A).1.2⟩:Qc),jr (cV L (pre.length:Int) c A).2.1 (cV L (pre.length:Int) c A).2.2.1,nm,[],[],dV (cV L (pre.length:Int) c A).2.2.2.1,(cV L (pre.length:Int) c A).2.2.2.2.map dV):=by
 intro L
 induction L with
 | nil=>
   intro pre c A m _ _ _ Q _ _;refine Jp ?_ om;rfl
 | cons l r R=>
   intro pre c A m e P hf Q hc hA;have e:=e oh;obtain⟨k,rfl⟩:∃ k,m=k+1:=⟨m - 1,om⟩
   have i:=Ln (l:=l) (r:=r) (a:=(pre.length:Int)) (hf l (.head _)) om om;simp only[ci] at P;cases w:l.contains 124
   . have u:cV (l::r) (pre.length:Int) c A=((0,0),l::r,(pre.length:Int),c,A):=by rw[cV,ot w]
     refine Jp ?_ om;simp only[];rw[i,aa];simp only[];rw[ow,ak,GA,aa,w,xn,aj,Jl9 e,aa,u]
   obtain⟨s1,s2,T⟩:=Cl w;have sl:l.length=(aU l).length+1+(bK l).length:=ol
   have q:¬ l.contains 124=false:=ol
   obtain⟨x,M,O⟩:=Lh (n:=n) K (s:=aU l) om (I _ om) J;obtain⟨U,V,W,X⟩:=sV (s:=aU l);obtain⟨Y,Z,d3,d4⟩:=w8 (s:=bK l);have B:=Lj (aU l);have hstage:vA n l (pre.length:Int)=some (if (kF (aU l)).1≠0 then (x,[],⟨(kF (aU l)).1,0,0,(kF (aU l)).2+pre.length⟩) else if (kR (bK l)).1≠0 then (x,dV (lR (bK l)),⟨(kR (bK l)).1,0,0,(kR (bK l)).2+(pre.length+(aU l).length+1)⟩) else (x,dV (lR (bK l)),⟨0,0,0,0⟩)):=by
    unfold vA;rw[Lm 124 om,aa,show(124:UInt8).toNat=124 from rfl,T];simp only[];rw[M,aa];simp only[];by_cases h:(kF (aU l)).1=0
    . rw[oq om,h,B h,jp,ow,ak,Lk K I J om,aa]
      grind[aK,Lq]
    . rw[ot h,jq h,xn,aj,Lq om om om om om,aa,oq h]
   by_cases h:(kF (aU l)).1=0
   case neg=>
    have u:cV (l::r) (pre.length:Int) c A=(((kF (aU l)).1,(kF (aU l)).2+(pre.length:Int)),r,(pre.length:Int)+(l.length+1),c,A):=by rw[cV,oq q,ot h]
    refine Jp ?_ om;simp only[];rw[i,aa];simp only[];rw[ow,ak,GA,aa,w,ow,ak,hstage,aa,ot h,u];simp only[];rw[jq h,xn,aj]
   rw[oq om] at hstage;by_cases g:(kR (bK l)).1=0
   case neg=>
    have u:cV (l::r) (pre.length:Int) c A=(((kR (bK l)).1,(kR (bK l)).2+((pre.length:Int)+(aU l).length+1)),r,(pre.length:Int)+(l.length+1),c,A):=by rw[cV,oq q,oq om,ot g]
    refine Jp ?_ om;simp only[];rw[i,aa];simp only[];rw[ow,ak,GA,aa,w,ow,ak,hstage,aa,ot g,u];simp only[];rw[jq g,xn,aj]
   rw[oq om] at hstage;have u:cV (l::r) (pre.length:Int) c A=cV r ((pre.length:Int)+(l.length+1)) (c++[qF (aU l)]) (A++[lR (bK l)]):=by rw[cV,oq q,oq om,oq om]
   refine(V0 (s':=(jr r ((pre.length:Int)+(l.length+1)),dV (c++[qF (aU l)]),(A++[lR (bK l)]).map dV)) ?_).trans ?_
   . simp only[]
     rw[i,aa];simp only[];rw[ow,ak,GA,aa,w,ow,ak,hstage,aa];simp only[];rw[jp,ow,ak,Jv (by grind[dV]) (by grind[dV]),aa,Jv ol ol,aa,O h,RS,vi];rfl
   . have C:(pre++l++[(10:UInt8)]).length=pre.length+l.length+1:=ol
     have hi:=R (pre++l++[10]) (c++[qF (aU l)]) (A++[lR (bK l)]) k (λhr=>by
      cases r with
      | nil=>grind
      | cons v r=>grind[bj]) om ol ol ol ol
     rw[C,show((pre.length+l.length+1:Nat):Int)=(pre.length:Int)+(l.length+1) by omega] at hi;grind
theorem SU{n:Nat}{b:UInt8}(j:aq<=n)(f:eJ)(i:bC n){L:List Be}{a:Int}(h0:0<=a)(e:a+ci L<=4001)(hf:∀ l∈L,∀ b∈l,b.toNat≠10):
 Yw n (jr L a) [b]=some (dV (dS b L a).2.1,(⟨(dS b L a).1.1,0,0,(dS b L a).1.2⟩:Qc),jr (dS b L a).2.2.1 (dS b L a).2.2.2):=by
 unfold Yw;cases L with
 | nil=>
   rfl
 | cons l r=>
   have d:=Ln (l:=l) (r:=r) (a:=a) (hf l (.head _)) h0 om;simp only[ci] at e;rw[d,aa,Fe oh,aa];simp only[yr,xi];rw[SO _ _ om];simp only[xd,yn];by_cases h:l.take 2=[b,32]
   rw[ot h,aa];have hd:(l.drop 2).length<=4000:=oj
   obtain⟨m,q,u,v⟩:=w8 (s:=l.drop 2);simp only[];rw[ow,ak,Lk j f i hd,aa];grind[aK,Lq,dS];rw[oq h,aa];simp only[dS];rw[oq h,xn,aj];rfl
def bu:List Be->Int->List Int
 | [],a=>[a]
 | l::r,a=>a::bu r (a+(l.length+1))
theorem w9:∀(L:List Be) (a:Int),(bu L a).length=L.length+1
 | [],_=>rfl
 | l::r,a=>by simp only[bu,xd,w9 r]
theorem SV(L:List Be)(a:Int):(bu L a)[0]?=some a:=by cases L<;>rfl
def m5(j:Be):((List Int)×Int)->Option (Lp ((List Int)×Int) (List Int)):=λ(a:(List Int)×Int)=>
    bif decide (a.2<(j.length:Int)) then (jn (λd=>(bv j a.2).bind λf=>bif decide (f=10) then ((az 8 a.1 ([wrap64 (a.2+1)]:List Int)).bind λi=>
       d i)
      else (
       d a.1)) (λ(e:(List Int))=>
      some (.go (e,wrap64 (a.2+1))))) else (some (.out a.1))
theorem Jkf{t:Be}(E:t.length<=4000):∀(r:List Be) (l pre:Be) (a:List Int) (m:Nat),t=pre++bj 10 (l::r)->(∀ v∈l::r,∀ b∈v,b.toNat≠10)->a.length<=pre.length->t.length<m+pre.length ->
 ∃ o,ae (m5 t) m (a++[(pre.length:Int)],(pre.length:Int))=some o/\o++[(t.length:Int)+1]=a++bu (l::r) (pre.length:Int)/\o.length<=t.length+1:=by
 intro r
 induction r with
 | nil=>
   intro l pre a m e hf x A;have el:t.length=pre.length+l.length:=by grind[bj]
   have f:=hf l (.head _);obtain⟨k,rfl⟩:∃ k,m=l.length+(k+1):=⟨m - l.length - 1,om⟩
   refine⟨a++[(pre.length:Int)],?_,?_,ol⟩;refine(Ck (λi=>(a++[(pre.length:Int)],((pre.length+i:Nat):Int))) l.length 0 (k+1) (λi hi=>?_)).trans ?_;rw[xx];have d:t[pre.length+i]?=some l[i]:=by rw[e];simp only[bj];rw[xw om,ud,xm hi]
   unfold m5;simp only[ai];rw[ou om,aj,Yr,d,yd,aa,ov ol,ak,w1 om,show pre.length+i+1=pre.length+(i+1) by omega];simp_all[Jp,m5];grind[bu]
 | cons v r B=>
   intro l pre a m e hf x A;have C:bj 10 (l::v::r)=l++10::bj 10 (v::r):=rfl;have el:t.length=pre.length+l.length+1+(bj 10 (v::r)).length:=ol
   have f:=hf l (.head _);obtain⟨k,rfl⟩:∃ k,m=l.length+(k+1):=⟨m - l.length - 1,om⟩
   have j:(pre++l++[(10:UInt8)]).length=pre.length+l.length+1:=ol
   obtain⟨o,q,u,w⟩:=B v (pre++l++[10]) (a++[(pre.length:Int)]) k ol ol ol om;rw[j] at q u;refine⟨o,?_,?_,w⟩;refine(Ck (λi=>(a++[(pre.length:Int)],((pre.length+i:Nat):Int))) l.length 0 (k+1) (λi hi=>?_)).trans ?_;rw[xx];have d:t[pre.length+i]?=some l[i]:=ol
   unfold m5;simp only[ai];rw[ou om,aj,Yr,d,yd,aa,ov ol,ak,w1 om,show pre.length+i+1=pre.length+(i+1) by omega];rw[xx];have d:t[pre.length+l.length]?=some 10:=ol
   refine(V0 (s':=(a++[(pre.length:Int)]++[((pre.length+l.length+1:Nat):Int)],((pre.length+l.length+1:Nat):Int))) ?_).trans q;unfold m5;simp only[ai];rw[ou om,aj,Yr,d,yd,aa,show(10:UInt8).toNat=10 from rfl,ou rfl,aj,w1 om,Jv ol ol,aa];grind[bu]
theorem Jik{n:Nat}{t:Be}(q:aq<=n)(i:t.length<=4000):Bj n t=some (bu (aF 10 t) 0):=by
 obtain⟨l,r,e⟩:∃ w r,aF 10 t=w::r:=by
  cases h:aF 10 t with
  | nil=>grind[ph]
  | cons w r=>simp
 have d:=qm (x:=10) t;rw[show(10:UInt8).toNat=10 from rfl,e] at d;have a:t.length<aq:=by grind[aq]
 obtain⟨o,f,j,m⟩:=Jkf i r l [] [] n ol (by grind[wZ]) oh om;unfold Bj;refine je f _ ?_;grind[aK,Jv]
theorem Jop{n:Nat}{l:Be}(w:aq<=n)(v:l.length<=4000):vR n l=some ((aU l).length:Int):=by
 have x:aU l++l.dropWhile (bw 124)=l:=by grind[aU,cJ,List.takeWhile_append_dropWhile]
 have q:∀ i,i<(aU l).length->∃ c,l[i]?=some c/\c.toNat≠124:=by
  intro i hi;have u:(aU l).all (bw 124)=true:=by grind[aU,cJ,List.all_takeWhile]
  refine⟨(aU l)[i],?_,?_⟩
  all_goals grind[bw,List.getElem_mem]
 have m:(aU l).length<=l.length:=ol
 unfold vR;refine(jg (λi=>(i:Int)) (aU l).length ((aU l).length:Int) ?_ ?_ (by grind[Nat.lt_of_le_of_lt,Nat.le_trans,Nat.lt_of_lt_of_le,aq]) rfl).trans rfl
 . intro i hi
   obtain⟨c,a,j⟩:=q i hi;simp only[ai];rw[ou om,aj,Yr,a,yd,aa,ov j,xn,aj,w1 om]
 . simp only[ai]
   by_cases d:l.contains 124=true
   . obtain⟨s1,A,B⟩:=Cl d
     have sl:l.length=(aU l).length+1+(bK l).length:=ol
     have a:l[(aU l).length]?=some 124:=ol
     rw[ou om,aj,Yr,a,yd,aa,show(124:UInt8).toNat=124 from rfl,ou rfl,ow,ak]
   . have hfree:∀ b∈l,b.toNat≠124:=λb f e=>d (by rw[List.contains_eq_mem];have:b=124:=ya.1 e;grind)
     simp_all[aU,F9]
abbrev eS:Ql:=⟨[],[],[],[],[]⟩
def xA(n:Nat)(C:Be)(j:List Int):((List Qa)×(List (List Qa))×Int)->Option (Lp ((List Qa)×(List (List Qa))×Int) (Lp ((List Qa)×(List (List Qa))×Int) (Ql×Kt))):=λ(a:(List Qa)×(List (List Qa))×Int)=>
       bif decide ((wrap64 (a.2.2+1))<(j.length:Int)) then ((ah j a.2.2).bind λm=>(ah j (wrap64 (a.2.2+1))).bind λq=>(sub C m (wrap64 (q - 1))).bind λd=>(vR n d).bind λe=>bif decide (e=(d.length:Int)) then (some (.out (.go (a.1,a.2.1,a.2.2)))) else ((sub d 0 e).bind λu=>(X9 n u).bind λf=>bif !decide (f.2.1=0) then ((ah j a.2.2).bind λv=>some (.out (.out (((⟨[],[],[],[],[]⟩:Ql),(⟨f.2.1,wrap64 (v+f.2.2)⟩:Kt)))))) else ((sub d (wrap64 (e+1)) (d.length:Int)).bind λw=>(Xh n w).bind λi=>bif !decide (i.2.1=0) then ((ah j a.2.2).bind λx=>some (.out (.out (((⟨[],[],[],[],[]⟩:Ql),(⟨i.2.1,wrap64 ((wrap64 ((wrap64 (x+e))+1))+i.2.2)⟩:Kt)))))) else ((az 56 a.1 ([f.1]:List Qa)).bind λA=>(az 24 a.2.1 ([i.1]:List (List Qa))).bind λB=>some (.go (A,B,wrap64 (a.2.2+1))))))) else (some (.out (.go (a.1,a.2.1,a.2.2))))
def sW(n:Nat)(d:Be)(a:List Int):((List Qa)×(List Qa)×Int×Int)->Option (Lp ((List Qa)×(List Qa)×Int×Int) (Lp ((List Qa)×(List Qa)×Int) (Ql×Kt))):=λ(s174:(List Qa)×(List Qa)×Int×Int)=>
       bif decide (s174.2.2.2<2) then (jn (λj175=>bif decide ((wrap64 (s174.2.2.1+1))=(a.length:Int)) then (
          j175 (decide (s174.2.2.2=1)))
         else (
          j175 false)) (λ(s177:Bool)=>
         bif s177 then (some (.out (.go (s174.1,s174.2.1,s174.2.2.1)))) else ((sub ([98,101]:Be) s174.2.2.2 (wrap64 (s174.2.2.2+1))).bind λy178=>jn (λj186=>bif decide ((wrap64 (s174.2.2.1+1))<(a.length:Int)) then ((ah a s174.2.2.1).bind λy189=>(ah a (wrap64 (s174.2.2.1+1))).bind λy191=>(sub d y189 (wrap64 (y191 - 1))).bind λy193=>
            j186 y193)
           else (
            j186 ([]:Be))) (λ(s188:Be)=>
           jn (λj199=>bif decide ((s188.length:Int)<2) then (
             j199 true)
            else ((sub s188 0 2).bind λy202=>(bG y178 ([32]:Be)).bind λy204=>
             j199 (!decide (y202=y204)))) (λ(s201:Bool)=>
            bif s201 then ((ah a s174.2.2.1).bind λy206=>some (.out (.out (((⟨[],[],[],[],[]⟩:Ql),(⟨1,min y206 (d.length:Int)⟩:Kt)))))) else ((sub s188 2 (s188.length:Int)).bind λy208=>(Xh n y208).bind λr210=>bif !decide (r210.2.1=0) then ((ah a s174.2.2.1).bind λy212=>some (.out (.out (((⟨[],[],[],[],[]⟩:Ql),(⟨r210.2.1,wrap64 ((wrap64 (y212+2))+r210.2.2)⟩:Kt)))))) else (jn (λj214=>bif decide (s174.2.2.2=0) then (
                j214 (r210.1,s174.2.1))
               else (
                j214 (s174.1,r210.1))) (λ(s216:(List Qa)×(List Qa))=>
               some (.go (s216.1,s216.2,wrap64 (s174.2.2.1+1),wrap64 (s174.2.2.2+1))))))))))) else (some (.out (.go (s174.1,s174.2.1,s174.2.2.1))))
structure jN(t:Be)(S:List Int)(N:Nat)(L:List Be)(pre:Be):Prop where
 len:S.length=N+1
 le:L.length<=N
 get:S.drop (N - L.length)=bu L (pre.length:Int)
 txt:L≠[]->t=pre++bj 10 L
 pos:pre.length+ci L=t.length+1
 free:∀ l∈L,∀ b∈l,b.toNat≠10
section
variable {t:Be}{S:List Int}{N:Nat}{L r:List Be}{l pre:Be}
theorem jN.hd(h:jN t S N L pre):S[N - L.length]?=some (pre.length:Int):=by have:=yj (λx=>x[0]?) h.get;simp_all[SV]
theorem jN.nx(h:jN t S N (l::r) pre):S[N - (l::r).length+1]?=some ((pre.length:Int)+(l.length+1)):=by have:=yj (λx=>x[1]?) h.get;grind[bu,SV]
theorem jN.tl(h:jN t S N (l::r) pre):jN t S N r (pre++l++[10]):=by
 have d:(pre++l++[(10:UInt8)]).length=pre.length+l.length+1:=ol
 refine⟨h.len,by have:=h.le;grind,?_,λf=>?_,?_,λu e=>h.free u (.tail _ e)⟩;have:=yj (List.drop 1) h.get;have a:=h.le;grind[List.drop_drop,bu];cases r with
 | nil=>grind
 | cons v r=>rw[h.txt oh];grind[bj]
 have:=h.pos;grind[ci]
theorem jN.sb(h:jN t S N (l::r) pre)(d:t.length<=4000):sub t (pre.length:Int) (wrap64 ((pre.length:Int)+(l.length+1) - 1))=some l:=by
 have e:=h.txt oh;have a:=h.pos;simp only[ci] at a;rw[aK om om,show(pre.length:Int)+(l.length+1) - 1=((pre.length+l.length:Nat):Int) by omega,Z1 om om,e];congr 1;cases r with
 | nil=>rw[show bj 10 [l]=l from rfl,show pre.length+l.length=(pre++l).length by simp,yp];simp
 | cons v r=>rw[show bj 10 (l::v::r)=l++10::bj 10 (v::r) from rfl,<-ye,show pre.length+l.length=(pre++l).length by simp,List.take_left];simp
end
theorem Jma{l:Be}(h:l.contains 124=true):sub l 0 ((aU l).length:Int)=some (aU l)/\sub l (((aU l).length+1:Nat):Int) (l.length:Int)=some (bK l):=by obtain⟨s1,_,_⟩:=Cl h;generalize aU l=x at s1 |-;generalize bK l=y at s1 |-;subst s1;refine⟨?_,?_⟩;rw[show 0=((0:Nat):Int) from rfl,Z1 om oh];simp;rw[Z1 oh oh,yp,show x.length+1=(x++[(124:UInt8)]).length by simp,show x++124::y=(x++[124])++y by simp,List.drop_left]
theorem Jmb{n:Nat}{t:Be}{S:List Int}{N:Nat}(v:aq<=n)(E:bC n)(P:t.length<=4000)(hN:N<=4001):∀(L:List Be) (pre:Be) (c:List Rat) (A:List (List Rat)) (m:Nat),jN t S N L pre->L.length<m->c.length<=pre.length->A.length<=pre.length ->
 ae (xA n t S) m (rR c,A.map rR,((N - L.length:Nat):Int))=some (if (cV L (pre.length:Int) c A).1.1≠0 then Lp.out (eS,(⟨(cV L (pre.length:Int) c A).1.1,(cV L (pre.length:Int) c A).1.2⟩:Kt)) else Lp.go (rR (cV L (pre.length:Int) c A).2.2.2.1,(cV L (pre.length:Int) c A).2.2.2.2.map rR,((N - (cV L (pre.length:Int) c A).2.1.length:Nat):Int))):=by
 intro L
 induction L with
 | nil=>
   intro pre c A m h J _ _;have M:=h.len;have f:cV [] (pre.length:Int) c A=((0,0),[],(pre.length:Int),c,A):=rfl;rw[f,oq (λq=>q rfl)];refine Jp ?_ (by simpa using J);unfold xA;have e1:wrap64 (((N - ([]:List Be).length:Nat):Int)+1)=((N+1:Nat):Int):=w1 oj;simp_all
 | cons l r Q=>
   intro pre c A m h J hc hA;obtain⟨k,rfl⟩:∃ k,m=k+1:=⟨m - 1,om⟩
   have M:=h.len;have G:=h.le;have O:=h.pos;simp only[xd] at G;simp only[ci] at O;have g1:=Ku h.hd;have C:ah S ((N - (l::r).length+1:Nat):Int)=_:=Ku h.nx;have d:=h.sb P;have a:=Jop (n:=n) (l:=l) v om;have w:wrap64 (((N - (l::r).length:Nat):Int)+1)=((N - (l::r).length+1:Nat):Int):=w1 om;have hcond:((N - (l::r).length+1:Nat):Int)<(S.length:Int):=ol
   cases j:l.contains 124
   . have f:cV (l::r) (pre.length:Int) c A=((0,0),l::r,(pre.length:Int),c,A):=by rw[cV,ot j]
     have hx:aU l=l:=by
      unfold aU
      rw[F9 (λb F e=>by
       have:b=124:=ya.1 e;subst this
       rw[List.contains_eq_mem,ou F] at j;cases j)]
     refine Jp ?_ om;simp_all[xA]
   obtain⟨s1,s2,s3⟩:=Cl j;have sl:l.length=(aU l).length+1+(bK l).length:=ol
   have i:¬ l.contains 124=false:=ol
   obtain⟨y,B,K⟩:=F7 (n:=n) v (s:=aU l) om E;obtain⟨R,T,U,V⟩:=sV (s:=aU l);obtain⟨W,X,Y,Z⟩:=w8 (s:=bK l);obtain⟨sx,I⟩:=Jma j;have I:sub l (wrap64 (((aU l).length:Int)+1)) (l.length:Int)=some (bK l):=by grind[w1]
   by_cases hk:(kF (aU l)).1=0
   case neg=>
    have f:cV (l::r) (pre.length:Int) c A=(((kF (aU l)).1,(kF (aU l)).2+(pre.length:Int)),r,(pre.length:Int)+(l.length+1),c,A):=by rw[cV,oq i,ot hk]
    refine Jp ?_ om;unfold xA;simp only[];rw[w,ou hcond,aj,g1,aa,C,aa,d,aa,a,aa,ov om,ak,sx,aa,B,aa];simp only[];rw[ov hk,xn,aj,aa,f,ot hk,aK om om,Int.add_comm]
   by_cases u:(kR (bK l)).1=0
   case neg=>
    have f:cV (l::r) (pre.length:Int) c A=(((kR (bK l)).1,(kR (bK l)).2+((pre.length:Int)+(aU l).length+1)),r,(pre.length:Int)+(l.length+1),c,A):=by rw[cV,oq i,oq (λq=>q hk),ot u]
    refine Jp ?_ om;unfold xA;simp only[];rw[w,ou hcond,aj,g1,aa,C,aa,d,aa,a,aa,ov om,ak,sx,aa,B,aa];simp only[];rw[hk,ou rfl,ow,ak,I,aa,F8 v E om,aa];simp only[];rw[ov u,xn,aj,aa,f,ot u,aK (x:=(pre.length:Int)+((aU l).length:Int)) om om,aK (x:=(pre.length:Int)+((aU l).length:Int)+1) om om,aK om om,Int.add_comm]
   have f:cV (l::r) (pre.length:Int) c A=cV r ((pre.length:Int)+(l.length+1)) (c++[qF (aU l)]) (A++[lR (bK l)]):=by rw[cV,oq i,oq (λq=>q hk),oq (λq=>q u)]
   refine(V0 (s':=(rR (c++[qF (aU l)]),(A++[lR (bK l)]).map rR,((N - r.length:Nat):Int))) ?_).trans ?_
   . unfold xA
     simp only[];rw[w,ou hcond,aj,g1,aa,C,aa,d,aa,a,aa,ov om,ak,sx,aa,B,aa];simp only[];rw[hk,ou rfl,ow,ak,I,aa,F8 v E om,aa];simp only[];rw[u,ou rfl,ow,ak,Jv (by grind[rR]) (by grind[rR]),aa,Jv ol ol,aa,K hk,<-KH,vi,show N - r.length=N - (l::r).length+1 by grind];rfl
   . have H:(pre++l++[(10:UInt8)]).length=pre.length+l.length+1:=ol
     have hi:=Q (pre++l++[10]) (c++[qF (aU l)]) (A++[lR (bK l)]) k h.tl ol ol ol;rw[H,show((pre.length+l.length+1:Nat):Int)=(pre.length:Int)+(l.length+1) by omega] at hi;rw[f];exact hi
end Go.Proofs.YthdbapalogijdaaGreatDoor
