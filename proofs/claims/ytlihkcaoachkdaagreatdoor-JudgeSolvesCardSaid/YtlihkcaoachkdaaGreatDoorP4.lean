import Derived.Test.YtlihkcaoachkdaaGreatDoorP3
namespace Go.Proofs.YtlihkcaoachkdaaGreatDoor
open Go Go.RowKit
set_option maxRecDepth 100000
set_option maxRecDepth 100000
set_option maxRecDepth 100000
set_option maxRecDepth 100000
set_option maxRecDepth 100000
def canF(x:Qa):Prop:=x=toF (fv x)
theorem Qjw{n k:Nat}{l:List (List Qa)}(hn:big≤n)(hk:k<1099511627776)(h:∀ r∈l,FR k r):X8 n l=some (dP (∀ r∈l,∀ x∈r,canF x)):=by
 classical
 unfold X8
 rw[Wp (λ_ (r:List Qa)=>∀ x∈r,canF x) (r:=false),Z6]
 . by_cases g:∀ r∈l,∀ x∈r,canF x
   . rw[if_pos g,dP_t g]
   . rw[if_neg g,dP_f g]
 . intro i r hr
   have hrk:=h r (Q6 hr)
   have key:((rangeL (λ(_:Nat) (x33:Qa) (_:Unit)=>
    (K1 n x33).bind λr35=>
    bif !r35 then (
     some (Lp.out (Lp.out (false))))
    else (
     some (Lp.go ()))) r 0 ()).bind (lpK λ(_:Unit)=>
   some (Lp.go ())))=if (∀(i:Nat) x,r[i]?=some x->canF x) then (some (Lp.go ()):Option (Lp Unit Bool)) else some (Lp.out false):=by
    refine Wp (λ_ (x:Qa)=>canF x) r (λi x hx=>?_)
    rw[Qdq hn (Fk_Fw (hrk x (Q6 hx)) (by omega)),sbind]
    exact⟨λhc=>by rw[decide_eq_true (show x=toF (fv x) from hc)];rfl,λhc=>by rw[decide_eq_false (show ¬ x=toF (fv x) from hc)];rfl⟩
   rw[Z6] at key
   exact⟨λg=>by rw[key,if_pos g],λg=>by rw[key,if_neg g]⟩
def nextT(h:Qi)(i:Nat):Qa:=match h.Tries[i+1]? with | some u=>u.T | none=>h.T
def nextY(h:Qi)(i:Nat):List Qa:=match h.Tries[i+1]? with | some u=>u.Y | none=>h.Y
structure Qec(h:Qi):Prop where
 c:(∀ t∈h.Tries,∀ r∈[[t.T,t.Want,t.H,t.Err],t.Y],∀ x∈r,canF x)∧∀ r∈[[h.T],h.Y],∀ x∈r,canF x
 l:(∀ t∈h.Tries,t.Y.length=h.Y.length)∧1≤h.Y.length∧h.Y.length≤6
 m:h.Tries.length≤200
 s:∀ t∈h.Tries,0<fv t.Want∧0<fv t.H∧fv t.H≤fv t.Want∧0≤fv t.Err
 n:∀(i:Nat) t,h.Tries[i]?=some t->(t.Ok=true->fv (nextT h i)=fv t.T+fv t.H)∧(t.Ok=false->fv (nextT h i)=fv t.T∧rv (nextY h i)=rv t.Y)
theorem Qkq{n k:Nat}{h:Qi}(hn:big≤n)(h1:1≤k)(hk:k<100000000)(hl:h.Tries.length≤1000000)(ht:∀ t∈h.Tries,FT k t)(hT:Fk k h.T)(hY:FR k h.Y)(hYl:h.Y.length≤1000000):
 Zv n h=some (dP (Qec h)):=by
 classical
 have pk:∀ t∈h.Tries,Fk k t.T∧Fk k t.Want∧Fk k t.H∧Fk k t.Err:=λt hm=>by
  have g:=(ht t hm).1
  exact⟨g _ (by simp),g _ (by simp),g _ (by simp),g _ (by simp)⟩
 unfold Zv Qd5
 have eP:Qcc n h=some (dP ((∀ t∈h.Tries,∀ r∈[[t.T,t.Want,t.H,t.Err],t.Y],∀ x∈r,canF x)∧∀ r∈[[h.T],h.Y],∀ x∈r,canF x)):=by
  unfold Qcc
  rw[Wp (λ_ (t:Qm)=>∀ r∈[[t.T,t.Want,t.H,t.Err],t.Y],∀ x∈r,canF x) (r:=false),Z6,Qjw (k:=k) hn (by omega) (λr hr=>by
   rcases List.mem_cons.1 hr with rfl | hr
   . intro x hx;rw[List.mem_singleton.1 hx];exact hT
   . rw[List.mem_singleton.1 hr];exact hY),sbind]
  . by_cases g:∀ t∈h.Tries,∀ r∈[[t.T,t.Want,t.H,t.Err],t.Y],∀ x∈r,canF x
    . rw[if_pos g];exact Qsq ⟨λa=>⟨g,a⟩,λa=>a.2⟩
    . rw[if_neg g,dP_f λa=>g a.1]
  . intro i t hi
    have hm:=Q6 hi
    have e:X8 n [[t.T,t.Want,t.H,t.Err],t.Y]=some (dP (∀ r∈[[t.T,t.Want,t.H,t.Err],t.Y],∀ x∈r,canF x)):=Qjw (k:=k) hn (by omega) (λr hr=>by
     rcases List.mem_cons.1 hr with rfl | hr
     . exact(ht t hm).1
     . rw[List.mem_singleton.1 hr];exact(ht t hm).2.1)
    unfold Vc
    rw[sbind,e,sbind]
    exact⟨λg=>by rw[dP_t g];rfl,λg=>by rw[dP_f g];rfl⟩
 have eL:Qan h=some (dP ((∀ t∈h.Tries,t.Y.length=h.Y.length)∧1≤h.Y.length∧h.Y.length≤6)):=by
  unfold Qan
  simp only[jn_eq]
  rw[Wp (λ_ (t:Qm)=>t.Y.length=h.Y.length) (r:=false),Z6]
  . by_cases g:∀ t∈h.Tries,t.Y.length=h.Y.length
    . rw[if_pos g]
      by_cases g1:(1:Int)≤(h.Y.length:Int)
      . rw[decide_eq_true g1,bifT];exact Y5 ⟨λa=>⟨g,by omega,by omega⟩,λa=>by have:=a.2.2;omega⟩
      . rw[decide_eq_false g1,bifF,dP_f λa=>g1 (by have:=a.2.1;omega)]
    . rw[if_neg g,dP_f λa=>g a.1]
  . intro i t hi
    exact⟨λg=>by rw[decide_eq_true (by omega)];rfl,λg=>by rw[decide_eq_false (by omega)];rfl⟩
 have eS:Qcd n h=some (dP (∀ t∈h.Tries,0<fv t.Want∧0<fv t.H∧fv t.H≤fv t.Want∧0≤fv t.Err)):=by
  unfold Qcd
  simp only[jn_eq]
  rw[Wp (λ_ (t:Qm)=>0<fv t.Want∧0<fv t.H∧fv t.H≤fv t.Want∧0≤fv t.Err) (r:=false),Z6]
  . by_cases g:∀ t∈h.Tries,0<fv t.Want∧0<fv t.H∧fv t.H≤fv t.Want∧0≤fv t.Err
    . rw[if_pos g,dP_t g]
    . rw[if_neg g,dP_f g]
  . intro i t hi
    obtain⟨p1,p2,p3,p4⟩:=pk t (Q6 hi)
    rw[Vx (k:=k) hn h1 (by omega) p2,sbind,Vx (k:=k) hn h1 (by omega) p3,sbind,K7 (k:=k) hn h1 (by omega) p3 p2,sbind,Vx (k:=k) hn h1 (by omega) p4,sbind]
    by_cases c1:(fv t.Want).num.sign≤0
    . rw[decide_eq_true c1];exact⟨λg=>absurd (Qdc.2 g.1) (by omega),λ_=>rfl⟩
    rw[decide_eq_false c1]
    by_cases c2:(fv t.H).num.sign≤0
    . rw[decide_eq_true c2];exact⟨λg=>absurd (Qdc.2 g.2.1) (by omega),λ_=>rfl⟩
    rw[decide_eq_false c2]
    by_cases c3:0<(fv t.H - fv t.Want).num.sign
    . rw[decide_eq_true c3];exact⟨λg=>absurd (sg_le.2 g.2.2.1) (by omega),λ_=>rfl⟩
    rw[decide_eq_false c3]
    by_cases c4:(fv t.Err).num.sign<0
    . rw[decide_eq_true c4];exact⟨λg=>absurd (Qn6.2 g.2.2.2) (by omega),λ_=>rfl⟩
    rw[decide_eq_false c4]
    exact⟨λ_=>rfl,λg=>absurd ⟨Qdc.1 (by omega),Qdc.1 (by omega),sg_le.1 (by omega),Qn6.1 (by omega)⟩ g⟩
 have eC:Qcf n h=some (dP (∀(i:Nat) t,h.Tries[i]?=some t->(t.Ok=true->fv (nextT h i)=fv t.T+fv t.H)∧(t.Ok=false->fv (nextT h i)=fv t.T∧rv (nextY h i)=rv t.Y))):=by
  unfold Qcf Qce
  simp only[jn_eq]
  rw[Wp (λi (t:Qm)=>(t.Ok=true->fv (nextT h i)=fv t.T+fv t.H)∧(t.Ok=false->fv (nextT h i)=fv t.T∧rv (nextY h i)=rv t.Y)) (r:=false)]
  . by_cases g:∀(i:Nat) t,h.Tries[i]?=some t->(t.Ok=true->fv (nextT h i)=fv t.T+fv t.H)∧(t.Ok=false->fv (nextT h i)=fv t.T∧rv (nextY h i)=rv t.Y)
    . rw[if_pos g,dP_t g]
    . rw[if_neg g,dP_f g]
  . intro i t hi
    have hlt:=J7 hi
    obtain⟨p1,p2,p3,p4⟩:=pk t (Q6 hi)
    have pY:=(ht t (Q6 hi)).2.1
    have hqa:=Qgp (qw_fv p1 h1) (qw_fv p3 h1)
    have core:∀(a:Qa) (y:List Qa),Fk k a->FR k y->∀(K:Bool->Option (Lp Unit Bool)),
     ((bif t.Ok then (K5 n t.T t.H).bind λr1=>(Jn n a r1).bind λr3=>some r3 else (Jn n a t.T).bind λr12=>bif r12 then (Vy n y t.Y).bind λr14=>some r14 else some false).bind K)=K (dP ((t.Ok=true->fv a=fv t.T+fv t.H)∧(t.Ok=false->fv a=fv t.T∧rv y=rv t.Y))):=λa y ha hy K=>by
     cases ho:t.Ok with
     | true=>
       rw[bifT,Wy (k:=k) hn h1 (by omega) p1 p3,sbind,Kv (k:=k+k+1) hn (by omega) (by omega) (J9 ha (by omega)) (Qz hqa),sbind,sbind,Qt,decP]
       congr 1
       exact dP_c ⟨λg=>⟨λ_=>g,(λg'=>by cases g')⟩,λg=>g.1 rfl⟩
     | false=>
       rw[bifF,Kv (k:=k) hn h1 (by omega) ha p1,sbind]
       by_cases c:fv a=fv t.T
       . rw[decide_eq_true c,bifT,Qa9 (k:=k) hn h1 (by omega) hy pY,sbind,sbind,decP]
         congr 1
         exact dP_c ⟨λg=>⟨(λg'=>by cases g'),λ_=>⟨c,g⟩⟩,λg=>(g.2 rfl).2⟩
       . rw[decide_eq_false c,bifF,sbind,dP_f λg=>c (g.2 rfl).1]
    have fin:∀ P:Prop,((P->(λs:Bool=>bif !s then some (Lp.out false) else some (Lp.go ()):Bool->Option (Lp Unit Bool)) (dP P)=some (.go ()))∧(¬ P->(λs:Bool=>bif !s then some (Lp.out false) else some (Lp.go ()):Bool->Option (Lp Unit Bool)) (dP P)=some (.out false))):=λP=>⟨λg=>by rw[dP_t g];rfl,λg=>by rw[dP_f g];rfl⟩
    rw[w1 (by omega)]
    by_cases c:i+1<h.Tries.length
    . have hp:h.Tries[i+1]?=some h.Tries[i+1]:=List.getElem?_eq_getElem c
      have hm:=List.getElem_mem c
      generalize h.Tries[i+1]=u at hp hm
      have eT:nextT h i=u.T:=by unfold nextT;rw[hp]
      have eY:nextY h i=u.Y:=by unfold nextY;rw[hp]
      rw[decide_eq_true (show((i+1:Nat):Int)<(h.Tries.length:Int) by omega),bifT,Ku hp,sbind,sbind,core u.T u.Y (pk u hm).1 (ht u hm).2.1,eT,eY]
      exact fin _
    . have hp:h.Tries[i+1]?=none:=List.getElem?_eq_none (by omega)
      have eT:nextT h i=h.T:=by unfold nextT;rw[hp]
      have eY:nextY h i=h.Y:=by unfold nextY;rw[hp]
      rw[decide_eq_false (show ¬((i+1:Nat):Int)<(h.Tries.length:Int) by omega),bifF,core h.T h.Y hT hY,eT,eY]
      exact fin _
 rw[eP,sbind,bifnP]
 by_cases g1:(∀ t∈h.Tries,∀ r∈[[t.T,t.Want,t.H,t.Err],t.Y],∀ x∈r,canF x)∧∀ r∈[[h.T],h.Y],∀ x∈r,canF x
 case neg=>rw[if_neg g1,sbind,dP_f λa=>g1 a.c];rfl
 rw[if_pos g1,eL,sbind,bifnP]
 by_cases g2:(∀ t∈h.Tries,t.Y.length=h.Y.length)∧1≤h.Y.length∧h.Y.length≤6
 case neg=>rw[if_neg g2,sbind,dP_f λa=>g2 a.l];rfl
 rw[if_pos g2]
 by_cases g3:(200:Int)<(h.Tries.length:Int)
 . rw[decide_eq_true g3,bifT,sbind,dP_f λa=>by have:=a.m;omega];rfl
 rw[decide_eq_false g3,bifF,eS,sbind,bifnP]
 by_cases g4:∀ t∈h.Tries,0<fv t.Want∧0<fv t.H∧fv t.H≤fv t.Want∧0≤fv t.Err
 case neg=>rw[if_neg g4,sbind,dP_f λa=>g4 a.s];rfl
 rw[if_pos g4,eC,sbind,bifnP]
 by_cases g5:∀(i:Nat) t,h.Tries[i]?=some t->(t.Ok=true->fv (nextT h i)=fv t.T+fv t.H)∧(t.Ok=false->fv (nextT h i)=fv t.T∧rv (nextY h i)=rv t.Y)
 . rw[if_pos g5,sbind,dP_t ⟨g1,g2,by omega,g4,g5⟩];rfl
 . rw[if_neg g5,sbind,dP_f λa=>g5 a.n];rfl
set_option maxRecDepth 100000
def backA(t:Qm):TryA:=⟨fv t.T,fv t.Want,fv t.H,fv t.Err,rv t.Y,t.Ok⟩
theorem Qxk{l:List Qa}(h:∀ x∈l,canF x):l=toR (rv l):=by
 unfold toR rv
 rw[List.map_map]
 conv=>lhs;rw[←List.map_id l]
 exact List.map_congr_left λx hx=>h x hx
theorem Qxl{h:Qi}(hp:Qec h):h=mA (h.Tries.map backA) (fv h.T) (rv h.Y):=by
 obtain⟨tr,T,Y⟩:=h
 unfold mA
 simp only[List.map_map]
 have c1:=hp.c.1
 have c2:=hp.c.2
 simp only[] at c1 c2
 have eT:T=toF (fv T):=c2 [T] (by simp) T (by simp)
 have eY:Y=toR (rv Y):=Qxk (c2 Y (by simp))
 have eTr:tr=tr.map (toTryA ∘ backA):=by
  conv=>lhs;rw[←List.map_id tr]
  refine List.map_congr_left λt ht=>?_
  have g:=c1 t ht
  have n1:t.T=toF (fv t.T):=g [t.T,t.Want,t.H,t.Err] (by simp) t.T (by simp)
  have n2:t.Want=toF (fv t.Want):=g [t.T,t.Want,t.H,t.Err] (by simp) t.Want (by simp)
  have n3:t.H=toF (fv t.H):=g [t.T,t.Want,t.H,t.Err] (by simp) t.H (by simp)
  have n4:t.Err=toF (fv t.Err):=g [t.T,t.Want,t.H,t.Err] (by simp) t.Err (by simp)
  have n5:t.Y=toR (rv t.Y):=Qxk (g t.Y (by simp))
  show t=toTryA (backA t)
  unfold toTryA backA
  simp only[]
  rw[←n1,←n2,←n3,←n4,←n5]
 rw[←eT,←eY,←eTr]
def nxT(tr:List TryA)(T:Rat)(i:Nat):Rat:=match tr[i]? with | some u=>u.T | none=>T
def nxY(tr:List TryA)(Y:List Rat)(i:Nat):List Rat:=match tr[i]? with | some u=>u.Y | none=>Y
def wantA(r:Qw)(F:Rat)(tr:List TryA)(i:Nat):Rat:=match i with | 0=>F | j+1=>match tr[j]? with | some u=>u.H*factorQ r u.Err | none=>F
structure TryOk(p:Ql)(r:Qw)(E F:Rat)(tr:List TryA)(Y:List Rat)(i:Nat)(t:TryA):Prop where
 w:t.Want=wantA r F tr i
 u:¬ underQ r (wantA r F tr i)
 h:t.H=cutQ t.T E t.Want
 s:∃ z,stepQ p t.T t.H t.Y=.inr z∧t.Err=normQ z.err∧(t.Ok=true->nxY tr Y (i+1)=z.next)
 o:t.Ok=dP (accQ r t.Err)
theorem Qxm{k:Qy}{tr:List TryA}{T:Rat}{Y:List Rat}{i:Nat}:Xa ⟨k,mA tr T Y⟩ (i:Int)=some (toF (nxT tr T i),toR (nxY tr Y i)):=by
 unfold Xa nxT nxY mA
 simp only[List.length_map]
 by_cases h:i<tr.length
 . have hp:tr[i]?=some tr[i]:=List.getElem?_eq_getElem h
   generalize tr[i]=t at hp
   rw[decide_eq_true (show(i:Int)<(tr.length:Int) by omega),bifT,Ku (show(tr.map toTryA)[i]?=some (toTryA t) by rw[List.getElem?_map,hp];rfl),sbind,sbind,hp]
   rfl
 . have hp:tr[i]?=none:=List.getElem?_eq_none (by omega)
   rw[decide_eq_false (show ¬(i:Int)<(tr.length:Int) by omega),bifF,hp]
set_option maxRecDepth 100000
theorem getA{tr:List TryA}{i:Nat}{t:TryA}(h:tr[i]?=some t):(tr.map toTryA)[i]?=some (toTryA t):=by rw[List.getElem?_map,h];rfl
theorem Q1d{r:Qw}{F:Rat}{tr:List TryA}{d i:Nat}(hr:RulR r)(hl:qw (fv r.Low)≤2)(hh:qw (fv r.High)≤2)(hF:qw F≤2)(ht:∀ t∈tr,TA 4000 d t):qw (wantA r F tr i)≤4003:=by
 unfold wantA
 cases i with
 | zero=>show qw F≤4003;omega
 | succ j=>
   show qw (match tr[j]? with | some u=>u.H*factorQ r u.Err | none=>F)≤4003
   cases hj:tr[j]? with
   | none=>show qw F≤4003;omega
   | some u=>
     have:=Qaz (ht u (Q6 hj)).h (Qiw hr hl hh u.Err)
     show qw (u.H*factorQ r u.Err)≤4003
     omega
theorem Q0b{n d i:Nat}{k:Qy}{tr:List TryA}{T:Rat}{Y:List Rat}{t:TryA}(hn:big≤n)(hw:TskW k)(hr:RulR k.Rules)(ht:∀ t∈tr,TA 4000 d t)(hl:tr.length≤1000000)(hi:tr[i]?=some t):
 Xo n ⟨k,mA tr T Y⟩ (i:Int)=some (dP (t.Want=wantA k.Rules (fv k.First) tr i∧¬ underQ k.Rules (wantA k.Rules (fv k.First) tr i))):=by
 obtain⟨v1,v2,v3,v4,v5⟩:=hw.r.all
 have hlt:=J7 hi
 have qF:qw (fv k.First)≤2:=qw_fv hw.f (by decide)
 have hwb:=Q1d (i:=i) hr (qw_fv v3 (by decide)) (qw_fv v4 (by decide)) qF ht
 have h0:=ht t (Q6 hi)
 have fin:∀(w:Qa),Fk 4003 w->fv w=wantA k.Rules (fv k.First) tr i->(w=toF (fv w)∨i=0)->Yu n k.Rules w=some (dP (underQ k.Rules (fv w))) →
  ((getI (mA tr T Y).Tries (i:Int)).bind λy22=>(Jn n y22.Want w).bind λr24=>bif r24 then (Yu n k.Rules w).bind λr27=>some (!r27) else some false)=some (dP (t.Want=wantA k.Rules (fv k.First) tr i∧¬ underQ k.Rules (wantA k.Rules (fv k.First) tr i))):=λw hk e _ hu=>by
  rw[show(mA tr T Y).Tries=tr.map toTryA from rfl,Ku (getA hi),sbind,show(toTryA t).Want=toF t.Want from rfl,Kv (k:=4003) hn (by decide) (by decide) (Qz (by have:=h0.w;omega)) hk,sbind,Qt,e,hu,sbind,e]
  by_cases c1:t.Want=wantA k.Rules (fv k.First) tr i
  . rw[decide_eq_true c1,bifT]
    by_cases c2:underQ k.Rules (wantA k.Rules (fv k.First) tr i)
    . rw[dP_t c2,dP_f λg=>g.2 c2];rfl
    . rw[dP_f c2,dP_t ⟨c1,c2⟩];rfl
  . rw[decide_eq_false c1,bifF,dP_f λg=>c1 g.1]
 unfold Xo
 simp only[jn_eq]
 cases i with
 | zero=>
   rw[show decide ((0:Int)<((0:Nat):Int))=false from rfl,bifF]
   refine fin k.First (J9 hw.f (by decide)) rfl (.inr rfl) ?_
   unfold Yu
   rw[K7 (k:=2) hn (by decide) (by decide) hw.f v5,sbind,decP];rfl
 | succ j=>
   have hj:tr[j]?=some tr[j]:=List.getElem?_eq_getElem (by omega)
   have hm:=ht tr[j] (List.getElem_mem (by omega))
   have ew:wantA k.Rules (fv k.First) tr (j+1)=tr[j].H*factorQ k.Rules tr[j].Err:=by
    show(match tr[j]? with | some u=>u.H*factorQ k.Rules u.Err | none=>fv k.First)=_
    rw[hj]
   generalize tr[j]=u at hj hm ew
   have hfa:=Qiw hr (qw_fv v3 (show 1≤2 by decide)) (qw_fv v4 (show 1≤2 by decide)) u.Err
   have hml:=Qaz hm.h hfa
   rw[decide_eq_true (show(0:Int)<((j+1:Nat):Int) by omega),bifT,w64 (by omega) (by omega),show(((j+1:Nat):Int) - 1)=(j:Int) by omega,show(mA tr T Y).Tries=tr.map toTryA from rfl,Ku (getA hj),sbind]
   unfold Qdi
   rw[show(toTryA u).Err=toF u.Err from rfl,show(toTryA u).H=toF u.H from rfl,Qjv (k:=4000) hn (by decide) (by decide) (λx hx=>J9 (hw.r x hx) (by decide)) hr.fine hm.e,sbind,Y9 (k:=4000) hn (by decide) (by decide) (Qz hm.h) (Qz (by omega)),sbind,sbind,Qt,Qt]
   exact fin (toF (u.H*factorQ k.Rules u.Err)) (Qz (by omega)) (by rw[Qt,ew]) (.inl (by rw[Qt])) (by rw[Qgt (k:=4003) hn (by decide) (by decide) (J9 v5 (by decide)) (by omega),Qt])
set_option maxRecDepth 100000
theorem Q3v{n d i:Nat}{k:Qy}{tr:List TryA}{T:Rat}{Y:List Rat}{t:TryA}(hn:big≤n)(hw:TskW k)(hr:RulR k.Rules)(ht:∀ t∈tr,TA 4000 d t)(hl:tr.length≤1000000)(hY:QR 4000 Y)(hi:tr[i]?=some t):
 ∃ v,Xj n ⟨k,mA tr T Y⟩ (i:Int)=some v∧decide (v=0)=dP (TryOk k.Problem k.Rules (fv k.End) (fv k.First) tr Y i t):=by
 obtain⟨v1,v2,v3,v4,v5⟩:=hw.r.all
 have hlt:=J7 hi
 have h0:=ht t (Q6 hi)
 have hE:qw (fv k.End)≤2:=qw_fv hw.e (by decide)
 have no:¬ TryOk k.Problem k.Rules (fv k.End) (fv k.First) tr Y i t->∀ w:Int,w≠0->∃ v,some w=some v∧decide (v=0)=dP (TryOk k.Problem k.Rules (fv k.End) (fv k.First) tr Y i t):=λh w hw=>⟨w,rfl,by rw[dP_f h,decide_eq_false hw]⟩
 have q1:=h0.t
 have q2:=h0.w
 have q3:=h0.h
 unfold Xj
 simp only[jn_eq]
 rw[show(mA tr T Y).Tries=tr.map toTryA from rfl,Ku (getA hi),sbind,Q0b hn hw hr ht hl hi,sbind,bifnP]
 by_cases c1:t.Want=wantA k.Rules (fv k.First) tr i∧¬ underQ k.Rules (wantA k.Rules (fv k.First) tr i)
 case neg=>rw[if_neg c1];exact no (λh=>c1 ⟨h.w,h.u⟩) 4 (by decide)
 obtain⟨cb,_⟩:=Qsz (E:=fv k.End) q1 hE q2
 rw[if_pos c1,show(toTryA t).T=toF t.T from rfl,show(toTryA t).Want=toF t.Want from rfl,show(toTryA t).H=toF t.H from rfl,show(toTryA t).Err=toF t.Err from rfl,show(toTryA t).Y=toR t.Y from rfl,show(toTryA t).Ok=t.Ok from rfl,Qih (k:=4000) hn (by decide) (by decide) q1 (J9 hw.e (by decide)) q2,sbind,Kv (k:=4003) hn (by decide) (by decide) (Qz (by omega)) (Qz (by omega)),sbind,Qt,Qt]
 by_cases c2:t.H=cutQ t.T (fv k.End) t.Want
 case neg=>rw[decide_eq_false c2];exact no (λh=>c2 h.h) 5 (by decide)
 rw[decide_eq_true c2,Bool.not_true,bifF]
 obtain⟨d1,d2⟩:=Qgr (k:=4000) (p:=k.Problem) (t:=toF t.T) (h:=toF t.H) (y:=toR t.Y) hn (by decide) (by decide) hw.p (Qz q1) (Qz q3) (Kx h0.y)
 rw[Qt,Qt,Va] at d1 d2
 rw[d1,sbind,w1 (by omega),Qxm,sbind]
 cases hs:stepQ k.Problem t.T t.H t.Y with
 | inl f=>
   have hk:=d2 f hs
   simp only[]
   rw[decide_eq_false hk]
   exact no (λh=>by
    obtain⟨z,g,_⟩:=h.s
    rw[hs] at g;cases g) 6 (by decide)
 | inr z=>
   obtain⟨_,_,z1,z2,z3⟩:=Qmu hs
   have hne:=Qn5 (k:=129) (l:=z.err) (by decide) z3
   have q4:=h0.e
   simp only[]
   rw[decide_eq_true trivial,Bool.not_true,bifF,show(toM z).Err=toR z.err from rfl,show(toM z).Next=toR z.next from rfl,Qig (k:=129) hn (by decide) (by decide) (Kx z3),sbind,Va,Kv (k:=4000) hn (by decide) (by decide) (Qz q4) (Qz (by omega)),sbind,Qt,Qt]
   by_cases c3:t.Err=normQ z.err
   case neg=>
    rw[decide_eq_false c3]
    exact no (λh=>by
     obtain⟨w,g1,g2,_⟩:=h.s
     rw[hs] at g1;cases g1;exact c3 g2) 7 (by decide)
   rw[decide_eq_true c3,Bool.not_true,bifF,Qik (k:=4000) hn (by decide) (by decide) (J9 v1 (by decide)) q4,sbind]
   by_cases c4:t.Ok=dP (accQ k.Rules t.Err)
   case neg=>
    rw[show(t.Ok != dP (accQ k.Rules t.Err))=true by simpa using c4]
    exact no (λh=>c4 h.o) 8 (by decide)
   rw[show(t.Ok != dP (accQ k.Rules t.Err))=false by simpa using c4,bifF]
   have qn:QR 4000 (nxY tr Y (i+1)):=by
    unfold nxY
    cases hj:tr[i+1]? with
    | none=>exact hY
    | some u=>exact(ht u (Q6 hj)).y
   cases ho:t.Ok with
   | false=>
     rw[bifF,bifF]
     exact⟨0,rfl,by rw[dP_t ⟨c1.1,c1.2,c2,⟨z,hs,c3,λh=>by rw[ho] at h;cases h⟩,c4⟩];rfl⟩
   | true=>
     rw[bifT,Qa9 (k:=4000) hn (by decide) (by decide) (Kx qn) (Kx (Vh z1 (by decide))),sbind,Va,Va]
     by_cases c5:nxY tr Y (i+1)=z.next
     . rw[decide_eq_true c5,Bool.not_true,bifF]
       exact⟨0,rfl,by rw[dP_t ⟨c1.1,c1.2,c2,⟨z,hs,c3,λ_=>c5⟩,c4⟩];rfl⟩
     . rw[decide_eq_false c5]
       exact no (λh=>by
        obtain⟨w,g1,_,g3⟩:=h.s
        rw[hs] at g1;cases g1;exact c5 (g3 ho)) 9 (by decide)
set_option maxRecDepth 100000
theorem Qof{α R:Type}{f:Nat->α->Unit->Option (Lp Unit R)}{Q:R->Prop}(P:Nat->α->Prop):∀(xs:List α) (k:Nat),(∀ i x,xs[i]?=some x->(P (k+i) x->f (k+i) x ()=some (.go ()))∧(¬ P (k+i) x->∃ r,f (k+i) x ()=some (.out r)∧Q r)) →
 ((∀ i x,xs[i]?=some x->P (k+i) x)->rangeL f xs k ()=some (.go ()))∧(¬(∀ i x,xs[i]?=some x->P (k+i) x)->∃ r,rangeL f xs k ()=some (.out r)∧Q r)
 | [],k,_=>⟨λ_=>rfl,λh=>absurd (λi x hx=>by simp at hx) h⟩
 | x::xs,k,hb=>by
   obtain⟨h1,h2⟩:=hb 0 x rfl
   simp only[Nat.add_zero] at h1 h2
   obtain⟨i1,i2⟩:=Qof (f:=f) (Q:=Q) P xs (k+1) (λi y hy=>by
    have:=hb (i+1) y hy
    rwa [show k+1+i=k+(i+1) by omega])
   by_cases hx:P k x
   . have e:rangeL f (x::xs) k ()=rangeL f xs (k+1) ():=by simp only[rangeL,h1 hx,Option.bind_some]
     rw[e]
     refine⟨λh=>i1 λi y hy=>?_,λh=>i2 λg=>h λi y hy=>?_⟩
     . rw[show k+1+i=k+(i+1) by omega];exact h (i+1) y hy
     . cases i with
       | zero=>cases hy;exact hx
       | succ j=>have:=g j y hy;rwa [show k+1+j=k+(j+1) by omega] at this
   . obtain⟨r,hr,hq⟩:=h2 hx
     refine⟨λh=>absurd (h 0 x rfl) hx,λ_=>⟨r,by simp only[rangeL,hr,Option.bind_some],hq⟩⟩
structure JudOk(k:Qy)(tr:List TryA)(T:Rat)(Y:List Rat):Prop where
 p:Qec (mA tr T Y)
 y:Y.length=k.Y.length
 b:nxT tr T 0=fv k.Start∧nxY tr Y 0=rv k.Y
 m:(∀ t∈tr,t.T<fv k.End)∧(tr.length:Int)≤k.Rules.Most
 t:∀(i:Nat) t,tr[i]?=some t->TryOk k.Problem k.Rules (fv k.End) (fv k.First) tr Y i t
theorem Qi2{v:Qv}(h:v.What≠0):K9 v ⟨0,0⟩=false:=by
 obtain⟨a,b⟩:=v
 unfold K9
 rw[show(a == 0)=false by simpa using h];rfl
theorem Q0c(v:Qv):K9 v v=true:=by simp[K9]
theorem Q0d{n d:Nat}{k:Qy}{tr:List TryA}{T:Rat}{Y:List Rat}(hn:big≤n)(hw:TskW k)(hr:RulR k.Rules)(ht:∀ t∈tr,TA 4000 d t)(hd:d≤1000)(hl:tr.length≤1000)(hT:qw T≤4000)(hY:QR 4000 Y)(hYl:Y.length≤1000):
 ∃ v,Vz n ⟨k,mA tr T Y⟩=some v∧K9 v ⟨0,0⟩=dP (JudOk k tr T Y):=by
 have no:¬ JudOk k tr T Y->∀ v:Qv,v.What≠0->∃ u,some v=some u∧K9 u ⟨0,0⟩=dP (JudOk k tr T Y):=λh v hv=>⟨v,rfl,by rw[dP_f h,Qi2 hv]⟩
 have qn0:qw (nxT tr T 0)≤4000∧QR 4000 (nxY tr Y 0):=by
  unfold nxT nxY
  cases hj:tr[0]? with
  | none=>exact⟨hT,hY⟩
  | some u=>exact⟨(ht u (Q6 hj)).t,(ht u (Q6 hj)).y⟩
 unfold Vz
 simp only[jn_eq]
 rw[Qkq (k:=4000) (h:=mA tr T Y) hn (by decide) (by decide) (by show(tr.map toTryA).length≤_;rw[List.length_map];omega) (λx hx=>by
  obtain⟨t,hm,rfl⟩:=List.mem_map.1 hx
  exact FT_A (ht t hm) hd) (Qz hT) (Kx hY) (by show(toR Y).length≤_;rw[Kc];omega),sbind,bifnP]
 by_cases c1:Qec (mA tr T Y)
 case neg=>rw[if_neg c1];exact no (λh=>c1 h.p) ⟨1,0⟩ (show(1:Int)≠0 by decide)
 rw[if_pos c1,show(mA tr T Y).Y=toR Y from rfl,Kc]
 by_cases c2:Y.length=k.Y.length
 case neg=>rw[decide_eq_false (by omega)];exact no (λh=>c2 h.y) ⟨1,0⟩ (show(1:Int)≠0 by decide)
 rw[decide_eq_true (by omega),Bool.not_true,bifF]
 have eB:Xn n ⟨k,mA tr T Y⟩=some (dP (nxT tr T 0=fv k.Start∧nxY tr Y 0=rv k.Y)):=by
  unfold Xn
  simp only[jn_eq]
  have e0:=Qxm (k:=k) (tr:=tr) (T:=T) (Y:=Y) (i:=0)
  rw[show((0:Nat):Int)=0 from rfl] at e0
  rw[e0,sbind]
  simp only[]
  rw[Kv (k:=4000) hn (by decide) (by decide) (Qz qn0.1) (J9 hw.s (by decide)),sbind,Qt]
  by_cases g:nxT tr T 0=fv k.Start
  . rw[decide_eq_true g,bifT,Qa9 (k:=4000) hn (by decide) (by decide) (Kx qn0.2) (Y7 hw.y (by decide)),sbind,Va]
    exact Y5 ⟨λa=>⟨g,a⟩,λa=>a.2⟩
  . rw[decide_eq_false g,bifF,dP_f λa=>g a.1]
 rw[eB,sbind,bifnP]
 by_cases c3:nxT tr T 0=fv k.Start∧nxY tr Y 0=rv k.Y
 case neg=>rw[if_neg c3];exact no (λh=>c3 h.b) ⟨2,0⟩ (show(2:Int)≠0 by decide)
 have eM:Yg n ⟨k,mA tr T Y⟩=some (dP ((∀ t∈tr,t.T<fv k.End)∧(tr.length:Int)≤k.Rules.Most)):=by
  unfold Yg
  rw[show(mA tr T Y).Tries=tr.map toTryA from rfl,Wp (λ_ (x:Qm)=>fv x.T<fv k.End) (r:=false),Z6,List.length_map]
  . have e:(∀ a∈tr.map toTryA,fv a.T<fv k.End)↔∀ t∈tr,t.T<fv k.End:=by
     constructor
     . intro g t hm
       have:=g _ (List.mem_map_of_mem hm)
       rwa [show(toTryA t).T=toF t.T from rfl,Qt] at this
     . intro g x hx
       obtain⟨t,hm,rfl⟩:=List.mem_map.1 hx
       rw[show(toTryA t).T=toF t.T from rfl,Qt];exact g t hm
    by_cases g:∀ a∈tr.map toTryA,fv a.T<fv k.End
    . rw[if_pos g];exact Y5 ⟨λa=>⟨e.1 g,a⟩,λa=>a.2⟩
    . rw[if_neg g,dP_f λa=>g (e.2 a.1)]
  . intro i x hx
    obtain⟨t,hg,rfl⟩:=getTA hx
    have h0:=ht t (Q6 hg)
    rw[show(toTryA t).T=toF t.T from rfl,K7 (k:=4000) hn (by decide) (by decide) (Qz h0.t) (J9 hw.e (by decide)),sbind,Qt]
    exact⟨λg=>by rw[decide_eq_false (by have:=sg_lt.2 g;omega)];rfl,λg=>by rw[decide_eq_true (sg_ge.2 (Rat.not_lt.1 g))];rfl⟩
 rw[if_pos c3,eM,sbind,bifnP]
 by_cases c4:(∀ t∈tr,t.T<fv k.End)∧(tr.length:Int)≤k.Rules.Most
 case neg=>rw[if_neg c4];exact no (λh=>c4 h.m) ⟨3,0⟩ (show(3:Int)≠0 by decide)
 rw[if_pos c4]
 obtain⟨r1,r2⟩:=Qof (R:=Qv) (f:=λ(i20:Nat) (_:Qm) (_:Unit)=>
          (Xj n ⟨k,mA tr T Y⟩ (i20:Int)).bind λr23=>
          bif !decide (r23=(0:Int)) then (
           some (Lp.out ((⟨r23,(i20:Int)⟩:Qv))))
          else (
           some (Lp.go ()))) (Q:=λv=>v.What≠0) (λi _=>∀ t,tr[i]?=some t->TryOk k.Problem k.Rules (fv k.End) (fv k.First) tr Y i t) (tr.map toTryA) 0 (λi x hx=>by
  obtain⟨t,hg,rfl⟩:=getTA hx
  obtain⟨v,e1,e2⟩:=Q3v (T:=T) hn hw hr ht (by omega) hY hg
  rw[Nat.zero_add,e1,sbind]
  refine⟨λg=>?_,λg=>?_⟩
  . have:decide (v=0)=true:=by rw[e2,dP_t (g t hg)]
    rw[this];rfl
  . have hv:¬ TryOk k.Problem k.Rules (fv k.End) (fv k.First) tr Y i t:=λa=>g λu hu=>by rw[hg] at hu;cases hu;exact a
    have:decide (v=0)=false:=by rw[e2,dP_f hv]
    rw[this]
    exact⟨⟨v,(i:Int)⟩,rfl,of_decide_eq_false this⟩)
 simp only[Nat.zero_add] at r1 r2
 by_cases c5:∀(i:Nat) t,tr[i]?=some t->TryOk k.Problem k.Rules (fv k.End) (fv k.First) tr Y i t
 . rw[show(mA tr T Y).Tries=tr.map toTryA from rfl,r1 (λi x hx t hg=>c5 i t hg)]
   exact⟨⟨0,0⟩,rfl,by rw[dP_t ⟨c1,c2,c3,c4,c5⟩,Q0c]⟩
 . obtain⟨v,e1,e2⟩:=r2 (λg=>c5 λi t hg=>g i (toTryA t) (getA hg) t hg)
   rw[show(mA tr T Y).Tries=tr.map toTryA from rfl,e1]
   exact no (λh=>c5 h.t) v e2
set_option maxRecDepth 100000
theorem Qi3{tr:List TryA}{T:Rat}{Y:List Rat}(i:Nat):nextT (mA tr T Y) i=toF (nxT tr T (i+1))∧nextY (mA tr T Y) i=toR (nxY tr Y (i+1)):=by
 unfold nextT nextY nxT nxY mA
 simp only[List.getElem?_map]
 cases tr[i+1]?<;>exact⟨rfl,rfl⟩
theorem Qxn{k:Qy}{tr:List TryA}{T:Rat}{Y:List Rat}(hJ:JudOk k tr T Y)(m:Nat)(hm:tr.length≤m):∀ j,j≤tr.length →
 adaptQ k.Problem k.Rules (fv k.End) m [] (fv k.Start) (rv k.Y) (fv k.First)=adaptQ k.Problem k.Rules (fv k.End) (m - j) (tr.take j) (nxT tr T j) (nxY tr Y j) (wantA k.Rules (fv k.First) tr j)
 | 0,_=>by rw[Nat.sub_zero,hJ.b.1,hJ.b.2];rfl
 | j+1,hj=>by
   rw[Qxn hJ m hm j (by omega)]
   have hp:tr[j]?=some tr[j]:=List.getElem?_eq_getElem (by omega)
   have hmem:tr[j]∈tr:=List.getElem_mem (by omega)
   generalize tr[j]=t at hp hmem
   have hT:=hJ.t j t hp
   obtain⟨z,s1,s2,s3⟩:=hT.s
   have n1:nxT tr T j=t.T:=by unfold nxT;rw[hp]
   have n2:nxY tr Y j=t.Y:=by unfold nxY;rw[hp]
   have hlt:=hJ.m.1 t hmem
   have hne:t.T≠fv k.End:=λh=>by rw[h] at hlt;exact Rat.lt_irrefl hlt
   have hw:wantA k.Rules (fv k.First) tr (j+1)=t.H*factorQ k.Rules t.Err:=by
    show(match tr[j]? with | some u=>u.H*factorQ k.Rules u.Err | none=>fv k.First)=_
    rw[hp]
   have hpast:=hJ.p.n j (toTryA t) (getA hp)
   rw[(Qi3 j).1,(Qi3 j).2,Qt,Va,show(toTryA t).T=toF t.T from rfl,show(toTryA t).H=toF t.H from rfl,show(toTryA t).Y=toR t.Y from rfl,show(toTryA t).Ok=t.Ok from rfl,Qt,Qt,Va] at hpast
   rw[show m - j=(m - (j+1))+1 by omega]
   conv=>lhs;unfold adaptQ
   have hu:=hT.u
   have hWt:=hT.w
   rw[←hWt] at hu
   rw[n1,n2,if_neg hne,←hWt,dP_f hu,bifF,←hT.h,s1]
   simp only[]
   have e1:tryA k.Rules (fv k.End) t.T t.Y t.Want z=t:=by
    unfold tryA
    rw[←hT.h,←s2,←hT.o]
   rw[e1,←s2,←hT.o,hw,Qkl hp]
   cases ho:t.Ok with
   | true=>
     rw[bifT,bifT,hpast.1 ho,s3 ho]
   | false=>
     obtain⟨g1,g2⟩:=hpast.2 ho
     rw[bifF,bifF,g1,g2]
theorem Q2j{k:Qy}{tr:List TryA}{T:Rat}{Y:List Rat}(hJ:JudOk k tr T Y)(hT:T=fv k.End)(m:Nat)(hm:tr.length≤m):
 adaptQ k.Problem k.Rules (fv k.End) m [] (fv k.Start) (rv k.Y) (fv k.First)=((tr,T,Y),⟨0,0,0,0⟩):=by
 rw[Qxn hJ m hm tr.length (Nat.le_refl _),List.take_length]
 have n1:nxT tr T tr.length=T:=by unfold nxT;rw[List.getElem?_eq_none (Nat.le_refl _)]
 have n2:nxY tr Y tr.length=Y:=by unfold nxY;rw[List.getElem?_eq_none (Nat.le_refl _)]
 rw[n1,n2]
 cases m - tr.length with
 | zero=>simp only[adaptQ,if_pos hT]
 | succ q=>simp only[adaptQ,if_pos hT]
set_option maxRecDepth 100000
theorem Qjx{α:Type}{l:List α}{x:α}{i:Nat}(hi:i<l.length):(l++[x])[i]?=l[i]?:=List.getElem?_append_left hi
theorem Qed{α:Type}{l:List α}{x:α}:(l++[x])[l.length]?=some x:=by
 rw[List.getElem?_append_right (Nat.le_refl _),Nat.sub_self];rfl
theorem Qwh{tr:List TryA}{t:TryA}{T T':Rat}{i:Nat}(ht:t.T=T)(hi:i≤tr.length):nxT (tr++[t]) T' i=nxT tr T i:=by
 unfold nxT
 by_cases h:i<tr.length
 . rw[Qjx h,List.getElem?_eq_getElem h]
 . have e:i=tr.length:=by omega
   rw[e,Qed,List.getElem?_eq_none (Nat.le_refl _)]
   exact ht
theorem Qp8{tr:List TryA}{t:TryA}{Y Y':List Rat}{i:Nat}(ht:t.Y=Y)(hi:i≤tr.length):nxY (tr++[t]) Y' i=nxY tr Y i:=by
 unfold nxY
 by_cases h:i<tr.length
 . rw[Qjx h,List.getElem?_eq_getElem h]
 . have e:i=tr.length:=by omega
   rw[e,Qed,List.getElem?_eq_none (Nat.le_refl _)]
   exact ht
theorem Qxo{tr:List TryA}{T:Rat}:nxT tr T tr.length=T:=by unfold nxT;rw[List.getElem?_eq_none (Nat.le_refl _)]
theorem Qot{tr:List TryA}{Y:List Rat}:nxY tr Y tr.length=Y:=by unfold nxY;rw[List.getElem?_eq_none (Nat.le_refl _)]
theorem Qog{r:Qw}{F:Rat}{tr:List TryA}{t:TryA}{i:Nat}(hi:i≤tr.length):wantA r F (tr++[t]) i=wantA r F tr i:=by
 cases i with
 | zero=>rfl
 | succ j=>
   show(match (tr++[t])[j]? with | some u=>u.H*factorQ r u.Err | none=>F)=(match tr[j]? with | some u=>u.H*factorQ r u.Err | none=>F)
   rw[Qjx (by omega)]
structure RunOk(p:Ql)(r:Qw)(E F S:Rat)(Y0:List Rat)(tr:List TryA)(T:Rat)(Y:List Rat)(W:Rat):Prop where
 w:W=wantA r F tr tr.length
 b:nxT tr T 0=S∧nxY tr Y 0=Y0
 e:(∀ t∈tr,t.T<E)∧T≤E
 g:0<W
 t:∀(i:Nat) t,tr[i]?=some t->TryOk p r E F tr Y i t
 n:∀(i:Nat) t,tr[i]?=some t->(t.Ok=true->nxT tr T (i+1)=t.T+t.H)∧(t.Ok=false->nxT tr T (i+1)=t.T∧nxY tr Y (i+1)=t.Y)
theorem Q1e{p:Ql}{r:Qw}{E F S:Rat}{Y0:List Rat}{tr:List TryA}{T:Rat}{Y:List Rat}{W:Rat}{z:MadeQ}(hr:RulR r)(h:RunOk p r E F S Y0 tr T Y W)(hT:T≠E)(hu:¬ underQ r W)(hs:stepQ p T (cutQ T E W) Y=.inr z):
 RunOk p r E F S Y0 (tr++[tryA r E T Y W z]) (bif dP (accQ r (normQ z.err)) then T+cutQ T E W else T) (bif dP (accQ r (normQ z.err)) then z.next else Y) (cutQ T E W*factorQ r (normQ z.err)):=by
 obtain⟨c1,c2,c3⟩:=Qz9 h.e.2 hT h.g
 have hlen:(tr++[tryA r E T Y W z]).length=tr.length+1:=by simp
 have tT:(tryA r E T Y W z).T=T:=rfl
 have tY:(tryA r E T Y W z).Y=Y:=rfl
 refine⟨?_,⟨?_,?_⟩,⟨λt ht=>?_,?_⟩,Rat.mul_pos c1 (Qri hr _),λi t hi=>?_,λi t hi=>?_⟩
 . rw[hlen]
   show _=(match (tr++[tryA r E T Y W z])[tr.length]? with | some u=>u.H*factorQ r u.Err | none=>F)
   rw[Qed];rfl
 . rw[Qwh tT (Nat.zero_le _)];exact h.b.1
 . rw[Qp8 tY (Nat.zero_le _)];exact h.b.2
 . rcases List.mem_append.1 ht with ht | ht
   . exact h.e.1 t ht
   . rw[List.mem_singleton.1 ht];exact Rat.lt_iff_le_and_ne.2 ⟨h.e.2,hT⟩
 . cases dP (accQ r (normQ z.err))
   . exact h.e.2
   . exact c3
 . have hlt:=J7 hi
   rw[hlen] at hlt
   by_cases hc:i<tr.length
   . rw[Qjx hc] at hi
     obtain⟨a1,a2,a3,⟨q,a4,a5,a6⟩,a7⟩:=h.t i t hi
     rw[←Qog (t:=tryA r E T Y W z) (by omega)] at a1 a2
     exact⟨a1,a2,a3,⟨q,a4,a5,λho=>by rw[Qp8 tY (by omega)];exact a6 ho⟩,a7⟩
   . have e:i=tr.length:=by omega
     rw[e,Qed] at hi
     cases hi
     rw[e]
     refine⟨?_,?_,rfl,⟨z,hs,rfl,λho=>?_⟩,rfl⟩
     . rw[Qog (Nat.le_refl _)];exact h.w
     . rw[Qog (Nat.le_refl _),←h.w];exact hu
     . rw[←hlen,Qot]
       rw[show(tryA r E T Y W z).Ok=dP (accQ r (normQ z.err)) from rfl] at ho
       rw[ho];rfl
 . have hlt:=J7 hi
   rw[hlen] at hlt
   by_cases hc:i<tr.length
   . rw[Qjx hc] at hi
     rw[Qwh tT (by omega),Qp8 tY (by omega)]
     exact h.n i t hi
   . have e:i=tr.length:=by omega
     rw[e,Qed] at hi
     cases hi
     rw[e,←hlen,Qxo,Qot,show(tryA r E T Y W z).Ok=dP (accQ r (normQ z.err)) from rfl]
     cases dP (accQ r (normQ z.err))
     . exact⟨(λg=>by cases g),λ_=>⟨rfl,rfl⟩⟩
     . exact⟨λ_=>rfl,λg=>by cases g⟩
theorem Qxp{p:Ql}{r:Qw}{E F S:Rat}{Y0:List Rat}(hr:RulR r):∀(m:Nat) (tr:List TryA) (T:Rat) (Y:List Rat) (W:Rat),RunOk p r E F S Y0 tr T Y W →
 ∃ W',RunOk p r E F S Y0 (adaptQ p r E m tr T Y W).1.1 (adaptQ p r E m tr T Y W).1.2.1 (adaptQ p r E m tr T Y W).1.2.2 W'
 | 0,tr,T,Y,W,h=>by
   unfold adaptQ
   split<;>exact⟨W,h⟩
 | m+1,tr,T,Y,W,h=>by
   by_cases hT:T=E
   . simp only[adaptQ,if_pos hT];exact⟨W,hT ▸ h⟩
   simp only[adaptQ,if_neg hT]
   by_cases hu:underQ r W
   . rw[dP_t hu,bifT];exact⟨W,h⟩
   rw[dP_f hu,bifF]
   cases hs:stepQ p T (cutQ T E W) Y with
   | inl f=>exact⟨W,h⟩
   | inr z=>exact Qxp hr m _ _ _ _ (Q1e hr h hT hu hs)
theorem Qyn{k:Qy}{d:Nat}{tr:List TryA}{T:Rat}{Y:List Rat}{W:Rat}(h:RunOk k.Problem k.Rules (fv k.End) (fv k.First) (fv k.Start) (rv k.Y) tr T Y W)(ht:∀ t∈tr,TA 4000 d t)(hY:Y.length=d)(hk:k.Y.length=d)(h1:1≤d)(h6:d≤6)(hl:tr.length≤200)(hM:(tr.length:Int)≤k.Rules.Most)(hs:∀ t∈tr,0<t.H∧t.H≤t.Want∧0≤t.Err.num.sign):JudOk k tr T Y:=by
 have cF:∀ q:Rat,canF (toF q):=λq=>by unfold canF;rw[Qt]
 have cR:∀(l:List Rat),∀ x∈toR l,canF x:=λl x hx=>by
  obtain⟨q,_,rfl⟩:=List.mem_map.1 hx
  exact cF q
 have hm:∀ t∈(mA tr T Y).Tries,∃ u∈tr,t=toTryA u:=λt hx=>by
  obtain⟨u,hu,rfl⟩:=List.mem_map.1 hx
  exact⟨u,hu,rfl⟩
 refine⟨⟨⟨λt hx r hr=>?_,λr hr=>?_⟩,⟨λt hx=>?_,?_,?_⟩,?_,λt hx=>?_,λi t hi=>?_⟩,by omega,h.b,⟨h.e.1,hM⟩,h.t⟩
 . obtain⟨u,hu,rfl⟩:=hm t hx
   rcases List.mem_cons.1 hr with rfl | hr
   . exact cR [u.T,u.Want,u.H,u.Err]
   . rw[List.mem_singleton.1 hr];exact cR u.Y
 . rcases List.mem_cons.1 hr with rfl | hr
   . exact cR [T]
   . rw[List.mem_singleton.1 hr];exact cR Y
 . obtain⟨u,hu,rfl⟩:=hm t hx
   show(toR u.Y).length=(toR Y).length
   rw[Kc,Kc,(ht u hu).l,hY]
 . show 1≤(toR Y).length
   rw[Kc];omega
 . show(toR Y).length≤6
   rw[Kc];omega
 . show(tr.map toTryA).length≤200
   rw[List.length_map];exact hl
 . obtain⟨u,hu,rfl⟩:=hm t hx
   obtain⟨s1,s2,s3⟩:=hs u hu
   rw[show(toTryA u).Want=toF u.Want from rfl,show(toTryA u).H=toF u.H from rfl,show(toTryA u).Err=toF u.Err from rfl,Qt,Qt,Qt]
   exact⟨by grind,s1,s2,Qn6.1 s3⟩
 . obtain⟨u,hg,rfl⟩:=getTA hi
   rw[(Qi3 i).1,(Qi3 i).2,Qt,Va,show(toTryA u).T=toF u.T from rfl,show(toTryA u).H=toF u.H from rfl,show(toTryA u).Y=toR u.Y from rfl,show(toTryA u).Ok=u.Ok from rfl,Qt,Qt,Va]
   exact h.n i u hg
theorem Q3w{n k0:Nat}{k:Qy}{h:Qi}(hn:big≤n)(h1:1≤k0)(hk:k0<100000000)(hl:h.Tries.length≤1000000)(ht:∀ t∈h.Tries,FT k0 t)(hT:Fk k0 h.T)(hY:FR k0 h.Y)(hYl:h.Y.length≤1000000)(hp:¬ Qec h):Vz n ⟨k,h⟩=some ⟨1,0⟩:=by
 unfold Vz
 simp only[jn_eq]
 rw[Qkq hn h1 hk hl ht hT hY hYl,sbind,dP_f hp]
 rfl
theorem Qxq{n d:Nat}{k:Qy}{tr:List TryA}{T:Rat}{Y:List Rat}(hn:big≤n)(hw:TskW k)(ht:∀ t∈tr,TA 4000 d t)(hd:d≤1000)(hl:tr.length≤1000)(hT:qw T≤4000)(hY:QR 4000 Y)(hYl:Y.length≤1000):
 Wi n k (mA tr T Y)=some (dP (TskR k∧JudOk k tr T Y∧T=fv k.End)):=by
 unfold Wi Qel
 simp only[jn_eq]
 rw[Yf hn hw,sbind,bifnP]
 by_cases c1:TskR k
 case neg=>
  rw[if_neg c1,sbind,Qi2 (show(-1:Int)≠0 by decide),dP_f λg=>c1 g.1]
 obtain⟨v,e1,e2⟩:=Q0d (T:=T) hn hw c1.2.1 ht hd hl hT hY hYl
 rw[if_pos c1,e1,sbind]
 by_cases c2:JudOk k tr T Y
 case neg=>
  rw[dP_f c2] at e2
  rw[e2,bifF,bifF,sbind,e2,dP_f λg=>c2 g.2.1]
 rw[dP_t c2] at e2
 rw[e2,bifT,show(mA tr T Y).T=toF T from rfl,Kv (k:=4000) hn (by decide) (by decide) (Qz hT) (J9 hw.e (by decide)),sbind,Qt]
 by_cases c3:T=fv k.End
 . rw[decide_eq_true c3,Bool.not_true,bifF,sbind,e2,dP_t ⟨c1,c2,c3⟩]
 . rw[decide_eq_false c3,Bool.not_false,bifT,sbind,Qi2 (show(10:Int)≠0 by decide),dP_f λg=>c3 g.2.2]
theorem Q2k{n k0:Nat}{k:Qy}{h:Qi}(hn:big≤n)(hw:TskW k)(h1:1≤k0)(hk:k0<100000000)(hl:h.Tries.length≤1000000)(ht:∀ t∈h.Tries,FT k0 t)(hT:Fk k0 h.T)(hY:FR k0 h.Y)(hYl:h.Y.length≤1000000)(hp:¬ Qec h):
 Wi n k h=some false:=by
 unfold Wi Qel
 simp only[jn_eq]
 rw[Yf hn hw,sbind,bifnP]
 by_cases c1:TskR k
 case neg=>rw[if_neg c1,sbind,Qi2 (show(-1:Int)≠0 by decide)]
 rw[if_pos c1,Q3w hn h1 hk hl ht hT hY hYl hp,sbind,Qi2 (show(1:Int)≠0 by decide),bifF,bifF,sbind,Qi2 (show(1:Int)≠0 by decide)]
theorem Q2l{n d:Nat}{k:Qy}{tr:List TryA}{T:Rat}{Y:List Rat}(hn:big≤n)(hw:TskW k)(hR:TskR k)(ht:∀ t∈tr,TA 4000 d t)(hd:d≤1000)(hl:tr.length≤1000)(hT:qw T≤4000)(hY:QR 4000 Y)(hYl:Y.length≤1000)(hJ:JudOk k tr T Y):
 Zx n k (mA tr T Y)=some (mA tr T Y,true):=by
 have hTl:(mA tr T Y).Tries=tr.map toTryA:=rfl
 have hfirst:Qc6 n k (mA tr T Y) (tr.length:Int)=some (mA tr T Y,true):=by
  unfold Qc6
  rw[hTl,Qvy (by rw[List.length_map];exact Nat.le_refl _),sbind,Jj hn (Fk_Fw hw.s (by decide)),sbind,Z5 hn,sbind,Yj (k:=2) hn (by decide) (by decide) (Qz (by rw[Qju];decide)) hw.y (by have:=hJ.y;omega),sbind,Qt,Qi1,List.take_of_length_le (by rw[List.length_map];exact Nat.le_refl _)]
  cases hc:tr.length with
  | zero=>
    have e:tr=[]:=List.eq_nil_of_length_eq_zero hc
    obtain⟨b1,b2⟩:=hJ.b
    rw[e] at b1 b2
    rw[show nxT ([]:List TryA) T 0=T from rfl] at b1
    rw[show nxY ([]:List TryA) Y 0=Y from rfl] at b2
    rw[←b1,←b2,e];rfl
  | succ m=>
    have hp:tr[m]?=some tr[m]:=List.getElem?_eq_getElem (by omega)
    have hmem:tr[m]∈tr:=List.getElem_mem (by omega)
    generalize tr[m]=t at hp hmem
    have h0:=ht t hmem
    have hJt:=hJ.t m t hp
    obtain⟨z,s1,s2,s3⟩:=hJt.s
    have hnx:=hJ.p.n m (toTryA t) (getA hp)
    rw[(Qi3 m).1,(Qi3 m).2,Qt,Va,show(toTryA t).T=toF t.T from rfl,show(toTryA t).H=toF t.H from rfl,show(toTryA t).Y=toR t.Y from rfl,show(toTryA t).Ok=t.Ok from rfl,Qt,Qt,Va,←hc,Qxo,Qot] at hnx
    rw[←hc,Qot] at s3
    have q1:=h0.t
    have q3:=h0.h
    rw[decide_eq_false (show ¬((m+1:Nat):Int)=0 by omega),bifF,w64 (by omega) (by omega),show((m+1:Nat):Int) - 1=(m:Int) by omega,Ku (getA hp),sbind,show(toTryA t).Ok=t.Ok from rfl]
    cases ho:t.Ok with
    | false=>
      obtain⟨g1,g2⟩:=hnx.2 ho
      rw[bifF,show(toTryA t).T=toF t.T from rfl,show(toTryA t).Y=toR t.Y from rfl,←g1,←g2];rfl
    | true=>
      have g1:=hnx.1 ho
      have g2:=s3 ho
      obtain⟨d1,_⟩:=Qgr (k:=4000) (p:=k.Problem) (t:=toF t.T) (h:=toF t.H) (y:=toR t.Y) hn (by decide) (by decide) hw.p (Qz q1) (Qz q3) (Kx h0.y)
      rw[Qt,Qt,Va,s1] at d1
      simp only[] at d1
      rw[bifT,show(toTryA t).T=toF t.T from rfl,show(toTryA t).H=toF t.H from rfl,show(toTryA t).Y=toR t.Y from rfl,d1,sbind,Wy (k:=4000) hn (by decide) (by decide) (Qz q1) (Qz q3),sbind,Qt,Qt,←g1,show(toM z).Next=toR z.next from rfl,←g2];rfl
 have hcop:Qch n (mA tr T Y)=some (mA tr T Y):=by
  unfold Qch
  rw[Z5 hn,sbind,show(mA tr T Y).T=toF T from rfl,Jj hn (Fk_Fw (Qz hT) (by decide)),sbind,show(mA tr T Y).Y=toR Y from rfl,Yj (k:=4000) hn (by decide) (by decide) (Qz (by rw[Qju];decide)) (Kx hY) (by rw[Kc];omega),sbind,Qt,Qt,Qi1,Va,hTl]
  rw[Za (λi=>(tr.map toTryA).take i) (tr.map toTryA)]
  . rw[List.take_length];rfl
  . intro i x hx
    obtain⟨t,hg,rfl⟩:=getTA hx
    have h0:=ht t (Q6 hg)
    have hi:=J7 hg
    have hlY:=h0.l
    rw[show(toTryA t).T=toF t.T from rfl,show(toTryA t).Want=toF t.Want from rfl,show(toTryA t).H=toF t.H from rfl,show(toTryA t).Err=toF t.Err from rfl,show(toTryA t).Y=toR t.Y from rfl,show(toTryA t).Ok=t.Ok from rfl,Jj hn (Fk_Fw (Qz h0.t) (by decide)),sbind,Jj hn (Fk_Fw (Qz h0.w) (by decide)),sbind,Jj hn (Fk_Fw (Qz h0.h) (by decide)),sbind,Jj hn (Fk_Fw (Qz h0.e) (by decide)),sbind,Yj (k:=4000) hn (by decide) (by decide) (Qz (by rw[Qju];decide)) (Kx h0.y) (by rw[Kc];omega),sbind,Qt,Qt,Qt,Qt,Qt,Qi1,Va,V7 (by simp;omega) (by simp;omega),sbind,Qkl hx]
    rfl
  . rfl
 unfold Zx
 rw[Yf hn hw,sbind,dP_t hR,Bool.not_true,bifF,hTl,List.length_map]
 obtain⟨v,e1,e2⟩:=Q0d (T:=T) hn hw hR.2.1 ht hd hl hT hY hYl
 rw[dP_t hJ] at e2
 rw[Qbw (t:=Lp.out (mA tr T Y,true)) ?_ (by unfold big at hn;omega)]
 . rfl
 . simp only[jn_eq]
   rw[decide_eq_true (show(0:Int)≤(tr.length:Int) by omega),bifT,hfirst,sbind]
   simp only[]
   rw[bifT,e1,sbind,e2,bifT,hcop,sbind]
set_option maxRecDepth 100000
def SmaK(k:Nat)(t:Jw):Prop:=FL 4 k [t.T,t.Want,t.H,t.Err]∧FL 8 k t.Y
theorem Qp9{n a k:Nat}{h:Jq}(hn:big≤n)(ha:a≤1000)(hk:k≤1000):∃ v,X1 n h (a:Int) (k:Int)=some v∧(v=false->h.Tries.length≤a∧(h.T.N.length≤k∧h.T.D.length≤k)∧FL 8 k h.Y∧∀ t∈h.Tries,SmaK k t):=by
 unfold X1 Yk
 simp only[jn_eq,bifd]
 by_cases h1:(a:Int)<(h.Tries.length:Int)
 . rw[if_pos h1];exact⟨true,rfl,λh=>by cases h⟩
 have e9:=Qbn h.T k
 rw[if_neg h1,e9,sbind]
 by_cases h2:h.T.N.length≤k∧h.T.D.length≤k
 case neg=>rw[decide_eq_false h2];exact⟨true,rfl,λh=>by cases h⟩
 rw[decide_eq_true h2,Bool.not_true,bifF]
 have hb4:∀ l,∃ v,Q0 n l 4 (k:Int)=some v∧(v=false->FL 4 k l):=λl=>Xu (many:=4) (k:=k) hn (by decide)
 have hb8:∀ l,∃ v,Q0 n l 8 (k:Int)=some v∧(v=false->FL 8 k l):=λl=>Xu (many:=8) (k:=k) hn (by decide)
 obtain⟨v,g1,g2⟩:=hb8 h.Y
 rw[g1,sbind]
 cases v
 case true=>exact⟨true,rfl,λh=>by cases h⟩
 rw[bifF]
 have hl:=Qhb (f:=λ(s62:Int)=>
  if s62<(h.Tries.length:Int) then (
   (getI h.Tries s62).bind λy76=>
   (some ([y76.T,y76.Want,y76.H,y76.Err]:List Qe)).bind λr78=>
   (Q0 n r78 4 (k:Int)).bind λr80=>
   bif r80 then (bif true then some (Lp.out (Lp.out true)) else some (Lp.go (wrap64 (s62+(1:Int)))))
   else (
    (getI h.Tries s62).bind λy82=>
    (Q0 n y82.Y 8 (k:Int)).bind λr84=>
    bif r84 then some (Lp.out (Lp.out true)) else some (Lp.go (wrap64 (s62+(1:Int))))))
  else (
   some (Lp.out (Lp.go ())))) (n:=n) (K:=λ(_:Unit)=>some false) (r:=true) (λi=>∀ t,h.Tries[i]?=some t->Q0 n [t.T,t.Want,t.H,t.Err] 4 (k:Int)=some false∧Q0 n t.Y 8 (k:Int)=some false) h.Tries.length (λi hi=>by
  have hp:h.Tries[i]?=some h.Tries[i]:=List.getElem?_eq_getElem hi
  generalize h.Tries[i]=t at hp
  obtain⟨v,k1,k2⟩:=hb4 [t.T,t.Want,t.H,t.Err]
  obtain⟨w,k3,k4⟩:=hb8 t.Y
  rw[if_pos (by omega),Ku hp,sbind,sbind,k1,sbind,sbind,k3,sbind]
  cases v
  . cases w
    . rw[bifF,bifF,w1 (by omega)]
      exact⟨λ_=>rfl,λg=>absurd (λd hd=>by rw[hp] at hd;cases hd;exact⟨k1,k3⟩) g⟩
    . exact⟨λg=>(by have:=(g t hp).2;rw[k3] at this;cases this),λ_=>rfl⟩
  . exact⟨λg=>(by have:=(g t hp).1;rw[k1] at this;cases this),λ_=>rfl⟩) (by rw[if_neg (by omega)]) (by unfold big at hn;omega)
 rw[hl]
 by_cases hx:∀ i,i<h.Tries.length->∀ t,h.Tries[i]?=some t->Q0 n [t.T,t.Want,t.H,t.Err] 4 (k:Int)=some false∧Q0 n t.Y 8 (k:Int)=some false
 . rw[if_pos hx]
   refine⟨false,rfl,λ_=>⟨by omega,h2,g2 rfl,λt ht=>?_⟩⟩
   obtain⟨i,hi⟩:=List.getElem?_of_mem ht
   obtain⟨v,k1,k2⟩:=hb4 [t.T,t.Want,t.H,t.Err]
   obtain⟨w,k3,k4⟩:=hb8 t.Y
   obtain⟨a1,a2⟩:=hx i (J7 hi) t hi
   rw[k1] at a1;rw[k3] at a2
   exact⟨k2 (Option.some.inj a1),k4 (Option.some.inj a2)⟩
 . rw[if_neg hx];exact⟨true,rfl,λh=>by cases h⟩
theorem Q1f{k:Nat}{t:Jw}(hB:Qb5 t)(h:SmaK k t):FT k (tTry t):=by
 obtain⟨b1,b2,b3,b4,b5,_⟩:=hB
 obtain⟨s1,s2⟩:=h
 have g1:=s1.2 t.T (by simp)
 have g2:=s1.2 t.Want (by simp)
 have g3:=s1.2 t.H (by simp)
 have g4:=s1.2 t.Err (by simp)
 have yl:=s2.1
 refine⟨λx hx=>?_,FR_tF b5 s2,by show(t.Y.map tF).length≤_;rw[List.length_map];omega⟩
 rcases List.mem_cons.1 hx with rfl | hx
 . exact Fk_tF b1 g1
 rcases List.mem_cons.1 hx with rfl | hx
 . exact Fk_tF b2 g2
 rcases List.mem_cons.1 hx with rfl | hx
 . exact Fk_tF b3 g3
 rw[List.mem_singleton.1 hx];exact Fk_tF b4 g4
theorem w40:Jt big=some true:=by kernel_rfl
theorem Qrp(k:Q3)(h:Jq)(hB:V4 k)(hH:Qdo h):∃ n,V9 n k h=some true:=by
 refine⟨big,?_⟩
 have hn:big≤big:=Nat.le_refl _
 unfold V9 Y8
 simp only[jn_eq]
 obtain⟨v,e1,e2⟩:=Qgu (k:=k) hn
 rw[e1,sbind]
 cases v
 case true=>rw[bifT,bifT,w40];rfl
 have hL:=e2 rfl
 obtain⟨v,e3,e4⟩:=Qp9 (a:=6) (k:=8) (h:=h) hn (by decide) (by decide)
 rw[show((6:Nat):Int)=6 from rfl,show((8:Nat):Int)=8 from rfl] at e3
 rw[bifF,e3,sbind]
 cases v
 case true=>rw[bifT,w40];rfl
 obtain⟨f1,f2,f3,f4⟩:=e4 rfl
 have f31:=f3.1
 obtain⟨b1,b2,b3,_⟩:=hH
 have hFT:∀ t∈h.Tries,FT 8 (tTry t):=λt ht=>Q1f (b1.2 t ht) (f4 t ht)
 rw[bifF,Qii hn hL,sbind,Qul hn (by omega) (by omega) (λt ht=>by have:=(hFT t ht).2.2;rwa [show(tTry t).Y.length=t.Y.length from List.length_map _] at this),sbind]
 have hw:=Qs0 hB hL
 have hy1:=hL.y.1
 have hyl:(tK k).Y.length≤1000:=by show(k.Y.map tF).length≤1000;rw[List.length_map];omega
 have hM:=hL.m
 have a1:=Qds (n:=big) (k:=tK k) hn hw (λhr=>by
  have h2:k.Rules.Most≤200:=hr.most.2
  show k.Rules.Most≤12;omega) hyl
 have hTl:(tHis h).Tries.length≤6:=by show(h.Tries.map tTry).length≤6;rw[List.length_map];exact f1
 have hTF:∀ t∈(tHis h).Tries,FT 8 t:=λx hx=>by
  obtain⟨t,ht,rfl⟩:=List.mem_map.1 hx
  exact hFT t ht
 have hTT:Fk 8 (tHis h).T:=Fk_tF b2 f2
 have hTY:FR 8 (tHis h).Y:=FR_tF b3 f3
 have hTYl:(tHis h).Y.length≤8:=by show(h.Y.map tF).length≤8;rw[List.length_map];exact f31
 generalize tHis h=y at *
 have fineN:¬ Qec y->Wi big (tK k) y=some false:=λhp=>Q2k (k0:=8) hn hw (by decide) (by decide) (by omega) hTF hTT hTY (by omega) hp
 have bY:Qec y->(∀ t∈y.Tries.map backA,TA 4000 y.Y.length t)∧qw (fv y.T)≤4000∧QR 4000 (rv y.Y):=λhp=>by
  refine⟨λt ht=>?_,by have:=qw_fv hTT (by decide);omega,Vh (QR_rv hTY (by decide)) (by decide)⟩
  obtain⟨u,hu,rfl⟩:=List.mem_map.1 ht
  obtain⟨g1,g2,g3⟩:=hTF u hu
  have q1:=qw_fv (g1 u.T (by simp)) (by decide)
  have q2:=qw_fv (g1 u.Want (by simp)) (by decide)
  have q3:=qw_fv (g1 u.H (by simp)) (by decide)
  have q4:=qw_fv (g1 u.Err (by simp)) (by decide)
  exact⟨by show qw (fv u.T)≤_;omega,by show qw (fv u.Want)≤_;omega,by show qw (fv u.H)≤_;omega,by show qw (fv u.Err)≤_;omega,Vh (QR_rv g2 (by decide)) (by decide),by show(rv u.Y).length=_;rw[Vn];exact hp.l.1 u hu⟩
 have fineY:Qec y->Wi big (tK k) y=some (dP (TskR (tK k)∧JudOk (tK k) (y.Tries.map backA) (fv y.T) (rv y.Y)∧fv y.T=fv (tK k).End)):=λhp=>by
  obtain⟨c1,c2,c3⟩:=bY hp
  have:=Qxq (n:=big) (T:=fv y.T) hn hw c1 (by omega) (by rw[List.length_map];omega) c2 c3 (by rw[Vn];omega)
  rwa [←Qxl hp] at this
 rw[a1,sbind]
 by_cases hR:TskR (tK k)
 case neg=>
  have hF:Wi big (tK k) y=some false:=by
   by_cases hp:Qec y
   . rw[fineY hp,dP_f λg=>hR g.1]
   . exact fineN hp
  rw[if_neg hR]
  simp only[]
  rw[Xv (show(2:Int)≠0 by decide),Bool.not_false,bifT,sbind,Xv (show(2:Int)≠0 by decide),bifF,bifF,hF,sbind,bifF,sbind]
  have hA:=Yf (n:=big) hn hw
  rw[dP_f hR] at hA
  unfold Zx
  rw[hA,sbind,Bool.not_false,bifT,sbind,sbind,Bool.not_false,bifT,w40];rfl
 rw[if_pos hR]
 simp only[]
 have hr:=hR.2.1
 have hmo:=hr.most
 have hmo1:k.Rules.Most≤200:=hmo.2
 have hmo2:1≤k.Rules.Most:=hmo.1
 have vr:=hw.r.all
 have qS:qw (fv (tK k).Start)≤2:=qw_fv hw.s (by decide)
 have qE:qw (fv (tK k).End)≤2:=qw_fv hw.e (by decide)
 have qY0:QR 129 (rv (tK k).Y):=Vh (QR_rv hw.y (by decide)) (by decide)
 have hok:=Qmw (p:=(tK k).Problem) (r:=(tK k).Rules) (E:=fv (tK k).End) (d:=(tK k).Y.length) hr (qw_fv vr.2.2.1 (by decide)) (qw_fv vr.2.2.2.1 (by decide)) qE (tK k).Rules.Most.toNat [] (fv (tK k).Start) (rv (tK k).Y) (fv (tK k).First) (by show 0+k.Rules.Most.toNat≤12;omega) qS (qw_fv hw.f (by decide)) qY0 (Vn _) (λ_ h=>by cases h)
 have hform:=Qix (p:=(tK k).Problem) (E:=fv (tK k).End) hr (tK k).Rules.Most.toNat [] (fv (tK k).Start) (rv (tK k).Y) (fv (tK k).First) hR.2.2.2.1 hR.2.2.2.2
 have hzero:=Qmx (p:=(tK k).Problem) (r:=(tK k).Rules) (E:=fv (tK k).End) (tK k).Rules.Most.toNat [] (fv (tK k).Start) (rv (tK k).Y) (fv (tK k).First)
 obtain⟨W',hrun⟩:=Qxp (p:=(tK k).Problem) (E:=fv (tK k).End) (F:=fv (tK k).First) (S:=fv (tK k).Start) (Y0:=rv (tK k).Y) hr (tK k).Rules.Most.toNat [] (fv (tK k).Start) (rv (tK k).Y) (fv (tK k).First) ⟨rfl,⟨rfl,rfl⟩,⟨(λ_ h=>by cases h),hR.2.2.2.1⟩,hR.2.2.2.2,(λ_ _ h=>by cases h),(λ_ _ h=>by cases h)⟩
 have hend:JudOk (tK k) (y.Tries.map backA) (fv y.T) (rv y.Y)->fv y.T=fv (tK k).End->adaptQ (tK k).Problem (tK k).Rules (fv (tK k).End) (tK k).Rules.Most.toNat [] (fv (tK k).Start) (rv (tK k).Y) (fv (tK k).First)=((y.Tries.map backA,fv y.T,rv y.Y),⟨0,0,0,0⟩):=λhJ hT=>Q2j hJ hT _ (by have:=hJ.m.2;omega)
 generalize adaptQ (tK k).Problem (tK k).Rules (fv (tK k).End) (tK k).Rules.Most.toNat [] (fv (tK k).Start) (rv (tK k).Y) (fv (tK k).First)=g at *
 obtain⟨⟨tr,T,Z⟩,F⟩:=g
 simp only[] at hok hform hzero hrun hend ⊢
 obtain⟨l,l1,l2,l3⟩:=hform
 rw[List.nil_append] at l1
 obtain⟨o1,o2,o3,o4,o5⟩:=hok
 have o5':tr.length≤k.Rules.Most.toNat:=by
  have:tr.length≤0+k.Rules.Most.toNat:=o5
  omega
 have hl12:tr.length≤12:=by omega
 have hd1:1≤(tK k).Y.length∧(tK k).Y.length≤6:=by
  have h1:=hR.1.1.1.1
  have h2:=hR.2.2.1
  exact⟨by omega,by omega⟩
 have qZ:QR 4000 Z:=Vh o3 (by decide)
 have hJ:JudOk (tK k) tr T Z:=Qyn hrun o1 o4 rfl hd1.1 hd1.2 (by omega) (by show(tr.length:Int)≤k.Rules.Most;omega) (λt ht=>Qly l2 t (by rw[←l1];exact ht))
 have eM:(⟨tr.map toTryA,toF T,toR Z⟩:Qi)=mA tr T Z:=rfl
 rw[eM]
 have hFs:=Qxq (n:=big) hn hw o1 (by omega) (by omega) o2 qZ (by omega)
 have hTold:=Q2l (n:=big) hn hw hR o1 (by omega) (by omega) o2 qZ (by omega) hJ
 have hSame:=Qlv (n:=big) (K:=4000) hn (by decide) (by decide) o1 o2 qZ
 have hA:=Yf (n:=big) hn hw
 rw[dP_t hR] at hA
 have sol:((bif !Qx F ⟨0,0,0,0⟩ then some ((⟨[],⟨⟨false,[]⟩,[]⟩,[]⟩:Qi),F) else some (mA tr T Z,F)):Option (Qi×Qc))=some (bif Qx F ⟨0,0,0,0⟩ then mA tr T Z else noH,F):=by
  cases Qx F ⟨0,0,0,0⟩<;>rfl
 have key:∀ b:Bool,(bif b then (bif Qx F ⟨0,0,0,0⟩ then (Xx big (bif Qx F ⟨0,0,0,0⟩ then mA tr T Z else noH) y).bind λr36=>bif r36 then (Jt big).bind λr38=>some r38 else some false else some false) else
  (Zx big (tK k) (mA tr T Z)).bind λr42=>(We big (tK k)).bind λr55=>bif !r55 then (Jt big).bind λr57=>some r57 else bif r42.2 then (Xx big r42.1 (mA tr T Z)).bind λr59=>bif r59 then (Jt big).bind λr61=>some r61 else some false else some false)=some true∨b=true:=λb=>by
  cases b
  . refine .inl ?_
    rw[bifF,hTold,sbind,hA,sbind,Bool.not_true,bifF]
    simp only[]
    rw[bifT,hSame,sbind,bifT,w40];rfl
  . exact .inr rfl
 have fin:(Wi big (tK k) y).bind (λr27=>bif r27 then (bif Qx F ⟨0,0,0,0⟩ then (Xx big (bif Qx F ⟨0,0,0,0⟩ then mA tr T Z else noH) y).bind λr36=>bif r36 then (Jt big).bind λr38=>some r38 else some false else some false) else
  (Zx big (tK k) (mA tr T Z)).bind λr42=>(We big (tK k)).bind λr55=>bif !r55 then (Jt big).bind λr57=>some r57 else bif r42.2 then (Xx big r42.1 (mA tr T Z)).bind λr59=>bif r59 then (Jt big).bind λr61=>some r61 else some false else some false)=some true:=by
  by_cases hp:Qec y
  case neg=>
   rw[fineN hp,sbind]
   exact(key false).resolve_right (by decide)
  rw[fineY hp,sbind]
  by_cases hc:TskR (tK k)∧JudOk (tK k) (y.Tries.map backA) (fv y.T) (rv y.Y)∧fv y.T=fv (tK k).End
  case neg=>
   rw[dP_f hc]
   exact(key false).resolve_right (by decide)
  obtain⟨_,c2,c3⟩:=hc
  have he:=hend c2 c3
  have e1:tr=y.Tries.map backA:=congrArg (λq=>q.1.1) he
  have e2:T=fv y.T:=congrArg (λq=>q.1.2.1) he
  have e3:Z=rv y.Y:=congrArg (λq=>q.1.2.2) he
  have e4:F=⟨0,0,0,0⟩:=congrArg (λq=>q.2) he
  have e5:y=mA tr T Z:=by rw[e1,e2,e3];exact Qxl hp
  rw[dP_t ⟨hR,c2,c3⟩,bifT,e4,Wa,bifT,bifT,e5,hSame,sbind,bifT,w40];rfl
 rw[sol,sbind]
 simp only[]
 by_cases h0:F.Kind=0
 . have hF:=hzero h0
   have hT:T=fv (tK k).End:=l3 h0
   rw[hF,Wa,bifT,bifT,hFs,sbind,dP_t ⟨hR,hJ,hT⟩,Bool.not_true,bifF]
   rw[hF,Wa] at fin
   exact fin
 . have e0:=Qp5 h0
   rw[e0,bifF,bifF]
   rw[e0] at fin
   exact fin
end Go.Proofs.YtlihkcaoachkdaaGreatDoor
