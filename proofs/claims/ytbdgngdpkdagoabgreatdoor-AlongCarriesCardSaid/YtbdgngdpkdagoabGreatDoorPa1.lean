import Derived.Test.YtbdgngdpkdagoabGreatDoorModa
import Derived.Test.YtbdgngdpkdagoabGreatDoorP3
namespace Go.Proofs.YtbdgngdpkdagoabGreatDoor
open Go Go.RowKit
set_option maxRecDepth 100000
def turnQ(a q:Rat)(e:Int):Rat:=if 0<e then a ^ (e - 1) else if e<0 then q / a else 0
theorem Q5e{z:Int}(h:z.natAbs<=8):qw (z:Rat)<=1:=by unfold qw;rw[Rat.num_intCast,Rat.den_intCast];have a:(toL z.natAbs).length<=1:=Qcc (n:=z.natAbs) (k:=1) (by rw[Wz,Qau];omega);have d:(toL 1).length<=1:=Qcc (n:=1) (k:=1) (by rw[Wz,Qau];omega);omega
set_option maxRecDepth 100000
theorem Q93{t:Qr}{lim:Int}{T H:Rat}{Y P:List Rat}(g:lim<=4096):∀ {r:List (List Rat×Rat)}{i:Nat}{yss kss:List (List Rat)}{z},(∀ a∈yss,QR 129 a)->stagesQ t lim T H Y P r i yss kss=.inr z->∀ a∈z.1,QR 129 a
 | [],i,yss,kss,z,n,h=>by simp only[stagesQ] at h;cases h;exact n
 | x::r,i,yss,kss,z,n,h=>by
   simp only[stagesQ] at h;cases d:stageQ t lim T H Y P x.1 x.2 i kss with
   | inl f=>rw[d] at h;cases h
   | inr w=>
     rw[d] at h;have q:QR 129 w.1:=by
      unfold stageQ at d;cases p:fitQ lim (fromQ H Y x.1 kss) 0 with
      | some j=>rw[p] at d;cases d
      | none=>
        rw[p] at d;simp only[] at d;cases m:fieldQ t lim (T+H*x.2) (fromQ H Y x.1 kss) P with
        | inl e=>rw[m] at d;cases d
        | inr k=>rw[m] at d;cases d;exact Qmw g p
     exact Q93 g (λa l=>by
      rcases ym.1 l with l | l;exact n a l
      rw[xx.1 l];exact q) h
theorem Q0f{p:Qn}{T H:Rat}{Y:List Rat}{z:MadeQ}(h:stepQ p T H Y=.inr z):(∀ a∈z.ys,QR 129 a/\a.length=Y.length)/\z.ys.length=p.Ap.B.length:=by
 obtain⟨hr,l,_⟩:=Qnt h;have hd:=hr.1.1;unfold stepQ at h;rw[oo ⟨hr,l⟩] at h;unfold doQ at h;cases g:stagesQ p.Tape (limQ p.Aw) T H Y (rv p.P) (List.zip (p.Ap.A.map rv) (rv p.Ap.C)) 0 [] [] with
 | inl e=>rw[g] at h;cases h
 | inr w=>
   rw[g] at h;simp only[] at h;have d:limQ p.Aw<=4096:=by unfold limQ;omega
   have q:=Q93 d (λ_ h=>by cases h) g;obtain⟨_,s,_,_⟩:=Qs2 d (m:=Y.length) (by have:=hd.2.2.1;omega) rfl (λ_ h=>by cases h) (λ_ h=>by cases h) g;have t:∀ {r:List (List Rat×Rat)}{i:Nat}{yss kss:List (List Rat)}{z},stagesQ p.Tape (limQ p.Aw) T H Y (rv p.P) r i yss kss=.inr z->z.1.length=yss.length+r.length:=by
    intro r
    induction r with
    | nil=>intro i yss kss z h;simp only[stagesQ] at h;cases h;rfl
    | cons x r n=>
      intro i yss kss z h;simp only[stagesQ] at h;cases k:stageQ p.Tape (limQ p.Aw) T H Y (rv p.P) x.1 x.2 i kss with
      | inl f=>rw[k] at h;cases h
      | inr w=>rw[k] at h;rw[n h];simp;omega
   have u:=t g;obtain⟨⟨g1,v⟩,g3,g4,y,A⟩:=hr.2.1.2.1;have e:z.ys=w.1:=by unfold endQ at h;split at h;cases h;split at h;cases h;cases h;rfl
   rw[e];refine⟨λa j=>⟨q a j,s a j⟩,?_⟩;rw[u,wo,ou,J5];simp;omega
theorem Jh3{a:Rat}{m:Nat}(h:a≠0):a ^ (-((m:Nat):Int)) / a=a⁻¹ ^ (m+1):=by
 rw[Rat.zpow_neg,gv,wh,jd];congr 1
 induction m with
 | zero=>rw[js,js];grind
 | succ m d=>rw[jd,jd,<-d];grind
theorem Qvj{n k:Nat}{a:Rat}{b:Int}(hn:big<=n)(hk:k<1048576)(f:qw a<=k)(x:-8<=b/\b<=8)(h0:¬(b<0/\a=0)):
 Z6 n (rF a) b=some (rF ((b:Rat)*turnQ a (a ^ b) b))/\qw ((b:Rat)*turnQ a (a ^ b) b)<=9*k+2:=by
 have v:=Q6m a;have u:=Q5e (z:=b) om
 have bnd:∀ m:Nat,m<=9->∀ q:Rat,qw q<=k->qw ((b:Rat)*q ^ m)<=9*k+2:=λm j q s=>by have r:=Q6n s m;have w:m*k<=9*k:=xt _ j;have:=Wa u r;omega
 unfold Z6;simp only[jn_eq,bifd];rw[Qm2 hn om om,sbind];by_cases hp:0<b;obtain⟨m,j⟩:∃ m:Nat,b=((m+1:Nat):Int):=⟨(b - 1).toNat,om⟩
 have e:turnQ a (a ^ b) b=a ^ m:=by unfold turnQ;rw[oo hp,show b - 1=(m:Int) by omega,gv]
 rw[e];refine⟨?_,bnd m om a f⟩;rw[W1 (λi=>(rF ((b:Rat)*a ^ i),((i+1:Nat):Int))) m (rF ((b:Rat)*a ^ m))];rw[W1 (λ_=>(rF ((b:Rat)*a ^ m),(1:Int))) 0 (rF ((b:Rat)*a ^ m)) (λi hi=>absurd hi (dz _)) (by simp only[];rw[ol om,bifF]) (by unfold big at hn;omega) rfl];intro i hi;simp only[];rw[oo om,V8 (k:=9*k+2) hn om (bnd i om _ f) om,sbind,w1 om,Rat.mul_assoc,<-jd];simp only[];rw[ol om];unfold big at hn;omega;rw[js,Rat.mul_one];rfl;rw[W1 (λ_=>(rF (b:Rat),(1:Int))) 0 (rF (b:Rat)) (λi hi=>absurd hi (dz _)) (by simp only[];rw[ol om]) (by unfold big at hn;omega) rfl];by_cases t:b=0;subst t;have e:((0:Int):Rat)*turnQ a (a ^ (0:Int)) 0=((0:Int):Rat):=by rw[show((0:Int):Rat)=0 from rfl,Rat.zero_mul]
 rw[e];refine⟨?_,by rw[show((0:Int):Rat)=0 from rfl,Qab];omega⟩;rw[W1 (λ_=>(rF ((0:Int):Rat),(1:Int))) 0 (rF ((0:Int):Rat)) (λi hi=>absurd hi (dz _)) (by simp only[];rw[oo oz,ol oz]) (by unfold big at hn;omega) rfl];have d:b<0:=om
 have l:a≠0:=λg=>h0 ⟨d,g⟩;obtain⟨m,j⟩:∃ m:Nat,b=-((m:Nat):Int):=⟨b.natAbs,om⟩
 have e:turnQ a (a ^ b) b=a⁻¹ ^ (m+1):=by unfold turnQ;rw[ol hp,oo d,j,Jh3 l]
 rw[e];refine⟨?_,bnd (m+1) om _ (Q2h f)⟩;rw[W1 (λi=>(rF ((b:Rat)*a⁻¹ ^ i),1 - (i:Int))) (m+1) (rF ((b:Rat)*a⁻¹ ^ (m+1)))];intro i hi;simp only[];rw[oo om,oo d,Qf6 (k:=9*k+2) hn om (bnd i om _ (Q2h f)) om,sbind,w64 om om];have p:(b:Rat)*a⁻¹ ^ i / a=(b:Rat)*a⁻¹ ^ (i+1):=by rw[<-Q9x];grind
 rw[p];congr 3;omega;simp only[];rw[ol om,bifF];unfold big at hn;omega;rw[js,Rat.mul_one];rfl
theorem Jk9{t:Qr}{lim:Int}{T H:Rat}{Y P a:List Rat}{c:Rat}{i:Nat}{kss:List (List Rat)}{f}(h:stageQ t lim T H Y P a c i kss=.inl f):(f.Ay=3\/f.Ay=6)/\f.Step=0:=by
 unfold stageQ at h;split at h;cases h;exact⟨.inr rfl,rfl⟩;cases d:fieldQ t lim (T+H*c) (fromQ H Y a kss) P with
 | inl e=>rw[d] at h;cases h;exact⟨Qxv d,rfl⟩
 | inr k=>rw[d] at h;cases h
theorem Jdc{t:Qr}{lim:Int}{T H:Rat}{Y P:List Rat}:∀ {r:List (List Rat×Rat)}{i:Nat}{yss kss:List (List Rat)}{f},stagesQ t lim T H Y P r i yss kss=.inl f->(f.Ay=3\/f.Ay=6)/\f.Step=0
 | [],i,yss,kss,f,h=>by simp only[stagesQ] at h;cases h
 | x::r,i,yss,kss,f,h=>by
   simp only[stagesQ] at h;cases a:stageQ t lim T H Y P x.1 x.2 i kss with
   | inl g=>rw[a] at h;cases h;exact Jk9 a
   | inr w=>rw[a] at h;exact Jdc h
theorem doQ_f{t:Qr}{s:Q2}{lim:Int}{T H:Rat}{Y P:List Rat}{f}(h:doQ t s lim T H Y P=.inl f):(f.Ay=3\/f.Ay=6)/\f.Step=0:=by
 unfold doQ at h;cases a:stagesQ t lim T H Y P (List.zip (s.A.map rv) (rv s.C)) 0 [] [] with
 | inl g=>rw[a] at h;cases h;exact Jdc a
 | inr z=>
   rw[a] at h;simp only[] at h;unfold endQ at h;split at h;cases h;exact⟨.inr rfl,rfl⟩;split at h;cases h;exact⟨.inr rfl,rfl⟩;cases h
end Go.Proofs.YtbdgngdpkdagoabGreatDoor
