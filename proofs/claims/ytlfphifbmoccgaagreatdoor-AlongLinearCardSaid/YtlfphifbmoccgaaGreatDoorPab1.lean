import Derived.KernelRfl
import Derived.Test.YtlfphifbmoccgaaGreatDoorMod
import Derived.Test.YtlfphifbmoccgaaGreatDoorModa
import Derived.Test.YtlfphifbmoccgaaGreatDoorModab
import Derived.Test.YtlfphifbmoccgaaGreatDoorP1
import Derived.Test.YtlfphifbmoccgaaGreatDoorP2
import Derived.Test.YtlfphifbmoccgaaGreatDoorPa1
namespace Go.Proofs.YtlfphifbmoccgaaGreatDoor
open Go Go.RowKit
theorem Q9a{f g:Qd}(h:Qo f g=true):f=g:=by cases f;cases g;simpa [Qo] using h
theorem Q50{l:List Rat}:scaleQ 1 l=l:=by
 unfold scaleQ
 conv=>rhs;rw[←List.map_id l]
 exact List.map_congr_left λq _=>by show 1*q=q;grind
theorem Q9b:qw 1=1:=by unfold qw;rw[show(1:Rat).num=1 from rfl,show(1:Rat).den=1 from rfl,show(1:Int).natAbs=1 from rfl,toL1];rfl
set_option maxRecDepth 100000
theorem Q7a{t:Qm}{lim:Int}{T H:Rat}{Y P a:List Rat}{c:Rat}{i:Nat}{kss:List (List Rat)}{f}(h:stageQ t lim T H Y P a c i kss=.inl f):f.Kind≠0:=by
 unfold stageQ at h;split at h;cases h;show(6:Int)≠0;decide;cases hf:fieldQ t lim (T+H*c) (fromQ H Y a kss) P with
 | inl e=>rw[hf] at h;cases h;have:=Qwl hf;show e.1≠0;omega
 | inr k=>rw[hf] at h;cases h
theorem Qwo{t:Qm}{lim:Int}{T H:Rat}{Y P:List Rat}:∀ {r:List (List Rat×Rat)}{i:Nat}{yss kss:List (List Rat)}{f},stagesQ t lim T H Y P r i yss kss=.inl f->f.Kind≠0
 | [],i,yss,kss,f,h=>by simp only[stagesQ] at h;cases h
 | x::r,i,yss,kss,f,h=>by
   simp only[stagesQ] at h;cases hs:stageQ t lim T H Y P x.1 x.2 i kss with
   | inl g=>rw[hs] at h;cases h;exact Q7a hs
   | inr w=>rw[hs] at h;exact Qwo h
theorem Jam{t:Qm}{s:Qt}{lim:Int}{T H:Rat}{Y P:List Rat}{f}(h:doQ t s lim T H Y P=.inl f):f.Kind≠0:=by
 unfold doQ at h;cases hst:stagesQ t lim T H Y P (List.zip (s.A.map rv) (rv s.C)) 0 [] [] with
 | inl g=>rw[hst] at h;cases h;exact Qwo hst
 | inr z=>
   rw[hst] at h;simp only[] at h;unfold endQ at h;split at h;cases h;show(6:Int)≠0;decide;split at h;cases h;show(6:Int)≠0;decide;cases h
set_option maxRecDepth 100000
def tTry(t:Jr):Q3:=⟨tF t.T,tF t.Want,tF t.H,tF t.Err,t.Y.map tF,t.Ok⟩
def tHis(h:Ja):Jh:=⟨h.Tries.map tTry,tF h.T,h.Y.map tF⟩
theorem Q2b{n:Nat}{h:Ja}(hn:big≤n)(h1:h.Tries.length≤1000000)(h2:h.Y.length≤1000000)(h3:∀ t∈h.Tries,t.Y.length≤1000000):Qbt n h=some (tHis h):=by unfold Qbt Jf;rw[sbind,Kd hn h2,sbind];rw[Qbz (λi=>((h.Tries.take i).map tTry,(i:Int))) h.Tries.length (h.Tries.map tTry)];rfl;intro i hi;have hp:h.Tries[i]?=some h.Tries[i]:=List.getElem?_eq_getElem hi;have hy:=h3 h.Tries[i] (List.getElem_mem hi);generalize h.Tries[i]=t at hp hy;rw[decide_eq_true (show(i:Int)<(h.Tries.length:Int) by omega),bifT,Kq hp,sbind,sbind,sbind,sbind,sbind,Kd hn hy,sbind,Wr (by simp;omega) (by simp;omega),sbind,w1 (by omega),Qd7 tTry hp];rfl;rw[decide_eq_false (by omega),bifF,List.take_length];unfold big at hn;omega;rfl
def SmaT(t:Jr):Prop:=FL 4 2 [t.T,t.Want,t.H,t.Err]∧FL 8 2 t.Y
theorem Ja3{n:Nat}{h:Ja}(hn:big≤n):∃ v,X9 n h 3 2=some v∧(v=false->h.Tries.length≤3∧(h.T.N.length≤2∧h.T.D.length≤2)∧FL 8 2 h.Y∧∀ t∈h.Tries,SmaT t):=by
 unfold X9 Zt;simp only[jn_eq,bifd];by_cases h1:(3:Int)<(h.Tries.length:Int)
 . rw[if_pos h1];exact⟨true,rfl,λh=>by cases h⟩
 have e9:=Qb0 h.T 2;rw[show((2:Nat):Int)=2 from rfl] at e9;rw[if_neg h1,e9,sbind];by_cases h2:h.T.N.length≤2∧h.T.D.length≤2
 case neg=>rw[decide_eq_false h2];exact⟨true,rfl,λh=>by cases h⟩
 rw[decide_eq_true h2,Bool.not_true,bifF];have hb4:∀ l,∃ v,Qu n l 4 2=some v∧(v=false->FL 4 2 l):=λl=>Vp (many:=4) (k:=2) hn (by decide);have hb8:∀ l,∃ v,Qu n l 8 2=some v∧(v=false->FL 8 2 l):=λl=>Vp (many:=8) (k:=2) hn (by decide);obtain⟨v,g1,g2⟩:=hb8 h.Y;rw[g1,sbind];cases v
 case true=>exact⟨true,rfl,λh=>by cases h⟩
 rw[bifF]
 have hl:=Qmm (f:=λ(s62:Int)=>
  if s62<(h.Tries.length:Int) then (
   (getI h.Tries s62).bind λy76=>
   (some ([y76.T,y76.Want,y76.H,y76.Err]:List Qc)).bind λr78=>
   (Qu n r78 4 2).bind λr80=>
   bif r80 then (bif true then some (Lp.out (Lp.out true)) else some (Lp.go (wrap64 (s62+(1:Int)))))
   else (
    (getI h.Tries s62).bind λy82=>
    (Qu n y82.Y 8 2).bind λr84=>
    bif r84 then some (Lp.out (Lp.out true)) else some (Lp.go (wrap64 (s62+(1:Int))))))
  else (
   some (Lp.out (Lp.go ())))) (n:=n) (K:=λ(_:Unit)=>some false) (r:=true) (λi=>∀ t,h.Tries[i]?=some t->Qu n [t.T,t.Want,t.H,t.Err] 4 2=some false∧Qu n t.Y 8 2=some false) h.Tries.length (λi hi=>by
  have hp:h.Tries[i]?=some h.Tries[i]:=List.getElem?_eq_getElem hi;generalize h.Tries[i]=t at hp;obtain⟨v,k1,k2⟩:=hb4 [t.T,t.Want,t.H,t.Err];obtain⟨w,k3,k4⟩:=hb8 t.Y;rw[if_pos (by omega),Kq hp,sbind,sbind,k1,sbind,sbind,k3,sbind];cases v
  . cases w
    . rw[bifF,bifF,w1 (by omega)]
      exact⟨λ_=>rfl,λg=>absurd (λd hd=>by rw[hp] at hd;cases hd;exact⟨k1,k3⟩) g⟩
    . exact⟨λg=>(by have:=(g t hp).2;rw[k3] at this;cases this),λ_=>rfl⟩
  . exact⟨λg=>(by have:=(g t hp).1;rw[k1] at this;cases this),λ_=>rfl⟩) (by rw[if_neg (by omega)]) (by unfold big at hn;omega)
 rw[hl];by_cases hx:∀ i,i<h.Tries.length->∀ t,h.Tries[i]?=some t->Qu n [t.T,t.Want,t.H,t.Err] 4 2=some false∧Qu n t.Y 8 2=some false
 . rw[if_pos hx]
   refine⟨false,rfl,λ_=>⟨by omega,h2,g2 rfl,λt ht=>?_⟩⟩;obtain⟨i,hi⟩:=List.getElem?_of_mem ht;obtain⟨v,k1,k2⟩:=hb4 [t.T,t.Want,t.H,t.Err];obtain⟨w,k3,k4⟩:=hb8 t.Y;obtain⟨a1,a2⟩:=hx i (Ve hi) t hi;rw[k1] at a1;rw[k3] at a2;exact⟨k2 (Option.some.inj a1),k4 (Option.some.inj a2)⟩
 . rw[if_neg hx];exact⟨true,rfl,λh=>by cases h⟩
def okT(l:List Q3):List Q3:=l.filter (·.Ok)
def nT(t:Q3):Q3:=⟨toF (fv t.T),toF (fv t.Want),toF (fv t.H),toF (fv t.Err),toR (rv t.Y),true⟩
def FT(k:Nat)(t:Q3):Prop:=FR k [t.T,t.Want,t.H,t.Err]∧FR k t.Y∧t.Y.length≤1000000
theorem Qpf{n k:Nat}{l:List Qa}(hn:big≤n)(h1:1≤k)(hk:k<1099511627776)(h:FR k l)(hl:l.length≤1000000):Qd2 n l=some (toR (rv l)):=by unfold Qd2;rw[Qnx hn,sbind,Qao (k:=k) hn h1 hk (Jp (by rw[Q9b];exact h1)) h hl,sbind,Q5,Q50]
theorem Q39(l:List Q3):(okT l).length≤l.length:=List.length_filter_le _ _
theorem Qu5{n k:Nat}{h:Jh}(hn:big≤n)(h1:1≤k)(hk:k<1099511627776)(hl:h.Tries.length≤1000000)(ht:∀ t∈h.Tries,FT k t):Qes n h=some ((okT h.Tries).map nT):=by unfold Qes;rw[Qez (λi=>(okT (h.Tries.take i)).map nT) h.Tries];rw[List.take_length];rfl;intro i x hx;obtain⟨g1,g2,g3⟩:=ht x (Jt hx);have hi:=Ve hx;have hle:=Q39 (h.Tries.take i);rw[List.length_take] at hle;rw[Qkv hx];have ea:okT (h.Tries.take i++[x])=okT (h.Tries.take i)++okT [x]:=List.filter_append _ _;rw[ea,List.map_append];cases ho:x.Ok;rw[bifF,show okT [x]=[] from by unfold okT;simp[ho],List.map_nil,List.append_nil];rw[bifT,show okT [x]=[x] from by unfold okT;simp[ho]];unfold Qaj;rw[sbind,Qpf hn h1 hk g1 (by simp),sbind,show getI (toR (rv [x.T,x.Want,x.H,x.Err])) 0=some (toF (fv x.T)) from rfl,sbind,show getI (toR (rv [x.T,x.Want,x.H,x.Err])) 1=some (toF (fv x.Want)) from rfl,sbind,show getI (toR (rv [x.T,x.Want,x.H,x.Err])) 2=some (toF (fv x.H)) from rfl,sbind,show getI (toR (rv [x.T,x.Want,x.H,x.Err])) 3=some (toF (fv x.Err)) from rfl,sbind,Qpf hn h1 hk g2 g3,sbind,Wr (by simp;omega) (by simp;omega),sbind];rfl;rfl
def okR(l:List Jr):List Jr:=l.filter (·.Ok)
theorem Q4a(l:List Jr):(okR l).length≤l.length:=List.length_filter_le _ _
theorem Q4b(l:List Jr)(x:Jr):okR (l++[x])=if x.Ok=true then okR l++[x] else okR l:=by have e:okR (l++[x])=okR l++okR [x]:=List.filter_append _ _;rw[e];cases ho:x.Ok;rw[if_neg (by decide),show okR [x]=[] from by unfold okR;simp[ho],List.append_nil];rw[if_pos rfl,show okR [x]=[x] from by unfold okR;simp[ho]]
theorem Jan{n:Nat}{h:Ja}(hn:big≤n)(hl:h.Tries.length≤1000000):Qi4 n h=some ((okR h.Tries).map (·.T)++[h.T],(okR h.Tries).map (·.Y)++[h.Y]):=by unfold Qi4;have hle:=Q4a h.Tries;rw[Qbz (λi=>((okR (h.Tries.take i)).map (·.T),(okR (h.Tries.take i)).map (·.Y),(i:Int))) h.Tries.length ((okR h.Tries).map (·.T),(okR h.Tries).map (·.Y))];rw[Wr (by simp;omega) (by simp;omega),sbind,Wr (by simp;omega) (by simp;omega),sbind];intro i hi;have hp:h.Tries[i]?=some h.Tries[i]:=List.getElem?_eq_getElem hi;generalize h.Tries[i]=t at hp;have hle:=Q4a (h.Tries.take i);rw[List.length_take] at hle;simp only[jn_eq];rw[decide_eq_true (show(i:Int)<(h.Tries.length:Int) by omega),bifT,Kq hp,sbind,Qkv hp,Q4b,w1 (by omega)];cases t.Ok;rw[bifF,if_neg (by decide)];rw[bifT,if_pos rfl,sbind,Wr (by simp;omega) (by simp;omega),sbind,sbind,Wr (by simp;omega) (by simp;omega),sbind,List.map_append,List.map_append];rfl;rw[decide_eq_false (show ¬(h.Tries.length:Int)<(h.Tries.length:Int) by omega),bifF,List.take_length];unfold big at hn;omega;rfl
theorem Qw8{n:Nat}{h:Ja}(hn:big≤n)(hl:h.Tries.length≤1000000):Qas n h=some ((okR h.Tries).map (·.H)):=by unfold Qas;rw[Qbz (λi=>((okR (h.Tries.take i)).map (·.H),(i:Int))) h.Tries.length ((okR h.Tries).map (·.H))];intro i hi;have hp:h.Tries[i]?=some h.Tries[i]:=List.getElem?_eq_getElem hi;generalize h.Tries[i]=t at hp;have hle:=Q4a (h.Tries.take i);rw[List.length_take] at hle;simp only[jn_eq];rw[decide_eq_true (show(i:Int)<(h.Tries.length:Int) by omega),bifT,Kq hp,sbind,Qkv hp,Q4b,w1 (by omega)];cases t.Ok;rw[bifF,if_neg (by decide)];rw[bifT,if_pos rfl,sbind,Wr (by simp;omega) (by simp;omega),sbind,List.map_append];rfl;rw[decide_eq_false (by omega),bifF,List.take_length];unfold big at hn;omega;rfl
set_option maxRecDepth 100000
def RulW(k:Nat)(r:Qck):Prop:=FR k [r.Tol,r.Safe,r.Low,r.High,r.Least]
theorem RulW.all{k:Nat}{r:Qck}(h:RulW k r):Fk k r.Tol∧Fk k r.Safe∧Fk k r.Low∧Fk k r.High∧Fk k r.Least:=
 ⟨h _ (by simp),h _ (by simp),h _ (by simp),h _ (by simp),h _ (by simp)⟩
set_option maxRecDepth 100000
theorem sg_lt{a b:Rat}:(a - b).num.sign<0↔a<b:=by rw[Int.sign_neg_iff,←Int.not_le,Rat.num_nonneg,←Rat.le_iff_sub_nonneg,Rat.not_le]
theorem sg_gt{a b:Rat}:0<(a - b).num.sign↔b<a:=by
 have e:(a - b).num=-(b - a).num:=by rw[←Qz1,Rat.neg_sub]
 rw[Int.sign_pos_iff,e,←sg_lt,Int.sign_neg_iff];omega
theorem sg_le{a b:Rat}:(a - b).num.sign≤0↔a≤b:=by rw[←Int.not_lt,sg_gt,Rat.not_lt]
theorem sg_ge{a b:Rat}:0≤(a - b).num.sign↔b≤a:=by rw[←Int.not_lt,sg_lt,Rat.not_lt]
theorem Qyt{a:Rat}:0<a.num.sign↔0<a:=by have:=@sg_gt a 0;rwa [show a - 0=a by grind] at this
theorem Q1i{a:Rat}:0≤a.num.sign↔0≤a:=by have:=@sg_ge a 0;rwa [show a - 0=a by grind] at this
set_option maxRecDepth 100000
theorem Q7b{p:Qh}{T H:Rat}{Y:List Rat}{f}(h:stepQ p T H Y=.inl f):f.Kind≠0:=by unfold stepQ at h;split at h;exact Jam h;cases h;show(2:Int)≠0;decide
set_option maxRecDepth 100000
def canF(x:Qa):Prop:=x=toF (fv x)
theorem Qpg{n k:Nat}{l:List (List Qa)}(hn:big≤n)(hk:k<1099511627776)(h:∀ r∈l,FR k r):Qcv n l=some (dP (∀ r∈l,∀ x∈r,canF x)):=by
 classical
 unfold Qcv;rw[Qav (λ_ (r:List Qa)=>∀ x∈r,canF x) (r:=false),Qgz];by_cases g:∀ r∈l,∀ x∈r,canF x;rw[if_pos g,dP_t g];rw[if_neg g,dP_f g];intro i r hr;have hrk:=h r (Jt hr)
 have key:((rangeL (λ(_:Nat) (x33:Qa) (_:Unit)=>
  (Yn n x33).bind λr35=>
  bif !r35 then (
   some (Lp.out (Lp.out (false))))
  else (
   some (Lp.go ()))) r 0 ()).bind (lpK λ(_:Unit)=>
 some (Lp.go ())))=if (∀(i:Nat) x,r[i]?=some x->canF x) then (some (Lp.go ()):Option (Lp Unit Bool)) else some (Lp.out false):=by refine Qav (λ_ (x:Qa)=>canF x) r (λi x hx=>?_);rw[Qlz hn (Fk_Fw (hrk x (Jt hx)) (by omega)),sbind];exact⟨λhc=>by rw[decide_eq_true (show x=toF (fv x) from hc)];rfl,λhc=>by rw[decide_eq_false (show ¬ x=toF (fv x) from hc)];rfl⟩
 rw[Qgz] at key;exact⟨λg=>by rw[key,if_pos g],λg=>by rw[key,if_neg g]⟩
def nextT(h:Jh)(i:Nat):Qa:=match h.Tries[i+1]? with | some u=>u.T | none=>h.T
def nextY(h:Jh)(i:Nat):List Qa:=match h.Tries[i+1]? with | some u=>u.Y | none=>h.Y
structure Q4c(h:Jh):Prop where
 c:(∀ t∈h.Tries,∀ r∈[[t.T,t.Want,t.H,t.Err],t.Y],∀ x∈r,canF x)∧∀ r∈[[h.T],h.Y],∀ x∈r,canF x
 l:(∀ t∈h.Tries,t.Y.length=h.Y.length)∧1≤h.Y.length∧h.Y.length≤6
 m:h.Tries.length≤200
 s:∀ t∈h.Tries,0<fv t.Want∧0<fv t.H∧fv t.H≤fv t.Want∧0≤fv t.Err
 n:∀(i:Nat) t,h.Tries[i]?=some t->(t.Ok=true->fv (nextT h i)=fv t.T+fv t.H)∧(t.Ok=false->fv (nextT h i)=fv t.T∧rv (nextY h i)=rv t.Y)
theorem Qyu{n k:Nat}{h:Jh}(hn:big≤n)(h1:1≤k)(hk:k<100000000)(hl:h.Tries.length≤1000000)(ht:∀ t∈h.Tries,FT k t)(hT:Fk k h.T)(hY:FR k h.Y)(hYl:h.Y.length≤1000000):
 Qig n h=some (dP (Q4c h)):=by
 classical
 have pk:∀ t∈h.Tries,Fk k t.T∧Fk k t.Want∧Fk k t.H∧Fk k t.Err:=λt hm=>by have g:=(ht t hm).1;exact⟨g _ (by simp),g _ (by simp),g _ (by simp),g _ (by simp)⟩
 unfold Qig Qli;have eP:Qid n h=some (dP ((∀ t∈h.Tries,∀ r∈[[t.T,t.Want,t.H,t.Err],t.Y],∀ x∈r,canF x)∧∀ r∈[[h.T],h.Y],∀ x∈r,canF x)):=by
  unfold Qid
  rw[Qav (λ_ (t:Q3)=>∀ r∈[[t.T,t.Want,t.H,t.Err],t.Y],∀ x∈r,canF x) (r:=false),Qgz,Qpg (k:=k) hn (by omega) (λr hr=>by
   rcases List.mem_cons.1 hr with rfl | hr
   . intro x hx;rw[List.mem_singleton.1 hx];exact hT
   . rw[List.mem_singleton.1 hr];exact hY),sbind]
  . by_cases g:∀ t∈h.Tries,∀ r∈[[t.T,t.Want,t.H,t.Err],t.Y],∀ x∈r,canF x
    . rw[if_pos g];exact Qz6 ⟨λa=>⟨g,a⟩,λa=>a.2⟩
    . rw[if_neg g,dP_f λa=>g a.1]
  . intro i t hi
    have hm:=Jt hi
    have e:Qcv n [[t.T,t.Want,t.H,t.Err],t.Y]=some (dP (∀ r∈[[t.T,t.Want,t.H,t.Err],t.Y],∀ x∈r,canF x)):=Qpg (k:=k) hn (by omega) (λr hr=>by
     rcases List.mem_cons.1 hr with rfl | hr
     . exact(ht t hm).1
     . rw[List.mem_singleton.1 hr];exact(ht t hm).2.1)
    unfold Qaj;rw[sbind,e,sbind];exact⟨λg=>by rw[dP_t g];rfl,λg=>by rw[dP_f g];rfl⟩
 have eL:Qf6 h=some (dP ((∀ t∈h.Tries,t.Y.length=h.Y.length)∧1≤h.Y.length∧h.Y.length≤6)):=by
  unfold Qf6;simp only[jn_eq];rw[Qav (λ_ (t:Q3)=>t.Y.length=h.Y.length) (r:=false),Qgz]
  . by_cases g:∀ t∈h.Tries,t.Y.length=h.Y.length
    . rw[if_pos g]
      by_cases g1:(1:Int)≤(h.Y.length:Int)
      . rw[decide_eq_true g1,bifT];exact Qdv ⟨λa=>⟨g,by omega,by omega⟩,λa=>by have:=a.2.2;omega⟩
      . rw[decide_eq_false g1,bifF,dP_f λa=>g1 (by have:=a.2.1;omega)]
    . rw[if_neg g,dP_f λa=>g a.1]
  . intro i t hi
    exact⟨λg=>by rw[decide_eq_true (by omega)];rfl,λg=>by rw[decide_eq_false (by omega)];rfl⟩
 have eS:Qie n h=some (dP (∀ t∈h.Tries,0<fv t.Want∧0<fv t.H∧fv t.H≤fv t.Want∧0≤fv t.Err)):=by
  unfold Qie;simp only[jn_eq];rw[Qav (λ_ (t:Q3)=>0<fv t.Want∧0<fv t.H∧fv t.H≤fv t.Want∧0≤fv t.Err) (r:=false),Qgz]
  . by_cases g:∀ t∈h.Tries,0<fv t.Want∧0<fv t.H∧fv t.H≤fv t.Want∧0≤fv t.Err
    . rw[if_pos g,dP_t g]
    . rw[if_neg g,dP_f g]
  . intro i t hi
    obtain⟨p1,p2,p3,p4⟩:=pk t (Jt hi);rw[Qcg (k:=k) hn h1 (by omega) p2,sbind,Qcg (k:=k) hn h1 (by omega) p3,sbind,Qnw (k:=k) hn h1 (by omega) p3 p2,sbind,Qcg (k:=k) hn h1 (by omega) p4,sbind];by_cases c1:(fv t.Want).num.sign≤0
    . rw[decide_eq_true c1];exact⟨λg=>absurd (Qyt.2 g.1) (by omega),λ_=>rfl⟩
    rw[decide_eq_false c1];by_cases c2:(fv t.H).num.sign≤0
    . rw[decide_eq_true c2];exact⟨λg=>absurd (Qyt.2 g.2.1) (by omega),λ_=>rfl⟩
    rw[decide_eq_false c2];by_cases c3:0<(fv t.H - fv t.Want).num.sign
    . rw[decide_eq_true c3];exact⟨λg=>absurd (sg_le.2 g.2.2.1) (by omega),λ_=>rfl⟩
    rw[decide_eq_false c3];by_cases c4:(fv t.Err).num.sign<0
    . rw[decide_eq_true c4];exact⟨λg=>absurd (Q1i.2 g.2.2.2) (by omega),λ_=>rfl⟩
    rw[decide_eq_false c4];exact⟨λ_=>rfl,λg=>absurd ⟨Qyt.1 (by omega),Qyt.1 (by omega),sg_le.1 (by omega),Q1i.1 (by omega)⟩ g⟩
 have eC:Qif n h=some (dP (∀(i:Nat) t,h.Tries[i]?=some t->(t.Ok=true->fv (nextT h i)=fv t.T+fv t.H)∧(t.Ok=false->fv (nextT h i)=fv t.T∧rv (nextY h i)=rv t.Y))):=by
  unfold Qif Qix;simp only[jn_eq];rw[Qav (λi (t:Q3)=>(t.Ok=true->fv (nextT h i)=fv t.T+fv t.H)∧(t.Ok=false->fv (nextT h i)=fv t.T∧rv (nextY h i)=rv t.Y)) (r:=false)]
  . by_cases g:∀(i:Nat) t,h.Tries[i]?=some t->(t.Ok=true->fv (nextT h i)=fv t.T+fv t.H)∧(t.Ok=false->fv (nextT h i)=fv t.T∧rv (nextY h i)=rv t.Y)
    . rw[if_pos g,dP_t g]
    . rw[if_neg g,dP_f g]
  . intro i t hi
    have hlt:=Ve hi;obtain⟨p1,p2,p3,p4⟩:=pk t (Jt hi);have pY:=(ht t (Jt hi)).2.1;have hqa:=Qae (qw_fv p1 h1) (qw_fv p3 h1)
    have core:∀(a:Qa) (y:List Qa),Fk k a->FR k y->∀(K:Bool->Option (Lp Unit Bool)),
     ((bif t.Ok then (Wf n t.T t.H).bind λr1=>(Yy n a r1).bind λr3=>some r3 else (Yy n a t.T).bind λr12=>bif r12 then (Vk n y t.Y).bind λr14=>some r14 else some false).bind K)=K (dP ((t.Ok=true->fv a=fv t.T+fv t.H)∧(t.Ok=false->fv a=fv t.T∧rv y=rv t.Y))):=λa y ha hy K=>by
     cases ho:t.Ok with
     | true=>
       rw[bifT,Vw (k:=k) hn h1 (by omega) p1 p3,sbind,Qdm (k:=k+k+1) hn (by omega) (by omega) (Vg ha (by omega)) (Jp hqa),sbind,sbind,Q5,decP];congr 1;exact dP_c ⟨λg=>⟨λ_=>g,(λg'=>by cases g')⟩,λg=>g.1 rfl⟩
     | false=>
       rw[bifF,Qdm (k:=k) hn h1 (by omega) ha p1,sbind];by_cases c:fv a=fv t.T
       . rw[decide_eq_true c,bifT,Qcz (k:=k) hn h1 (by omega) hy pY,sbind,sbind,decP]
         congr 1;exact dP_c ⟨λg=>⟨(λg'=>by cases g'),λ_=>⟨c,g⟩⟩,λg=>(g.2 rfl).2⟩
       . rw[decide_eq_false c,bifF,sbind,dP_f λg=>c (g.2 rfl).1]
    have fin:∀ P:Prop,((P->(λs:Bool=>bif !s then some (Lp.out false) else some (Lp.go ()):Bool->Option (Lp Unit Bool)) (dP P)=some (.go ()))∧(¬ P->(λs:Bool=>bif !s then some (Lp.out false) else some (Lp.go ()):Bool->Option (Lp Unit Bool)) (dP P)=some (.out false))):=λP=>⟨λg=>by rw[dP_t g];rfl,λg=>by rw[dP_f g];rfl⟩
    rw[w1 (by omega)];by_cases c:i+1<h.Tries.length
    . have hp:h.Tries[i+1]?=some h.Tries[i+1]:=List.getElem?_eq_getElem c
      have hm:=List.getElem_mem c;generalize h.Tries[i+1]=u at hp hm;have eT:nextT h i=u.T:=by unfold nextT;rw[hp]
      have eY:nextY h i=u.Y:=by unfold nextY;rw[hp]
      rw[decide_eq_true (show((i+1:Nat):Int)<(h.Tries.length:Int) by omega),bifT,Kq hp,sbind,sbind,core u.T u.Y (pk u hm).1 (ht u hm).2.1,eT,eY];exact fin _
    . have hp:h.Tries[i+1]?=none:=List.getElem?_eq_none (by omega)
      have eT:nextT h i=h.T:=by unfold nextT;rw[hp]
      have eY:nextY h i=h.Y:=by unfold nextY;rw[hp]
      rw[decide_eq_false (show ¬((i+1:Nat):Int)<(h.Tries.length:Int) by omega),bifF,core h.T h.Y hT hY,eT,eY];exact fin _
 rw[eP,sbind,bifnP];by_cases g1:(∀ t∈h.Tries,∀ r∈[[t.T,t.Want,t.H,t.Err],t.Y],∀ x∈r,canF x)∧∀ r∈[[h.T],h.Y],∀ x∈r,canF x
 case neg=>rw[if_neg g1,sbind,dP_f λa=>g1 a.c];rfl
 rw[if_pos g1,eL,sbind,bifnP];by_cases g2:(∀ t∈h.Tries,t.Y.length=h.Y.length)∧1≤h.Y.length∧h.Y.length≤6
 case neg=>rw[if_neg g2,sbind,dP_f λa=>g2 a.l];rfl
 rw[if_pos g2];by_cases g3:(200:Int)<(h.Tries.length:Int)
 . rw[decide_eq_true g3,bifT,sbind,dP_f λa=>by have:=a.m;omega];rfl
 rw[decide_eq_false g3,bifF,eS,sbind,bifnP];by_cases g4:∀ t∈h.Tries,0<fv t.Want∧0<fv t.H∧fv t.H≤fv t.Want∧0≤fv t.Err
 case neg=>rw[if_neg g4,sbind,dP_f λa=>g4 a.s];rfl
 rw[if_pos g4,eC,sbind,bifnP];by_cases g5:∀(i:Nat) t,h.Tries[i]?=some t->(t.Ok=true->fv (nextT h i)=fv t.T+fv t.H)∧(t.Ok=false->fv (nextT h i)=fv t.T∧rv (nextY h i)=rv t.Y)
 . rw[if_pos g5,sbind,dP_t ⟨g1,g2,by omega,g4,g5⟩];rfl
 . rw[if_neg g5,sbind,dP_f λa=>g5 a.n];rfl
set_option maxRecDepth 100000
def SmaK(k:Nat)(t:Jr):Prop:=FL 4 k [t.T,t.Want,t.H,t.Err]∧FL 8 k t.Y
theorem Qw9{n a k:Nat}{h:Ja}(hn:big≤n)(ha:a≤1000)(hk:k≤1000):∃ v,X9 n h (a:Int) (k:Int)=some v∧(v=false->h.Tries.length≤a∧(h.T.N.length≤k∧h.T.D.length≤k)∧FL 8 k h.Y∧∀ t∈h.Tries,SmaK k t):=by
 unfold X9 Zt;simp only[jn_eq,bifd];by_cases h1:(a:Int)<(h.Tries.length:Int)
 . rw[if_pos h1];exact⟨true,rfl,λh=>by cases h⟩
 have e9:=Qb0 h.T k;rw[if_neg h1,e9,sbind];by_cases h2:h.T.N.length≤k∧h.T.D.length≤k
 case neg=>rw[decide_eq_false h2];exact⟨true,rfl,λh=>by cases h⟩
 rw[decide_eq_true h2,Bool.not_true,bifF];have hb4:∀ l,∃ v,Qu n l 4 (k:Int)=some v∧(v=false->FL 4 k l):=λl=>Vp (many:=4) (k:=k) hn (by decide);have hb8:∀ l,∃ v,Qu n l 8 (k:Int)=some v∧(v=false->FL 8 k l):=λl=>Vp (many:=8) (k:=k) hn (by decide);obtain⟨v,g1,g2⟩:=hb8 h.Y;rw[g1,sbind];cases v
 case true=>exact⟨true,rfl,λh=>by cases h⟩
 rw[bifF]
 have hl:=Qmm (f:=λ(s62:Int)=>
  if s62<(h.Tries.length:Int) then (
   (getI h.Tries s62).bind λy76=>
   (some ([y76.T,y76.Want,y76.H,y76.Err]:List Qc)).bind λr78=>
   (Qu n r78 4 (k:Int)).bind λr80=>
   bif r80 then (bif true then some (Lp.out (Lp.out true)) else some (Lp.go (wrap64 (s62+(1:Int)))))
   else (
    (getI h.Tries s62).bind λy82=>
    (Qu n y82.Y 8 (k:Int)).bind λr84=>
    bif r84 then some (Lp.out (Lp.out true)) else some (Lp.go (wrap64 (s62+(1:Int))))))
  else (
   some (Lp.out (Lp.go ())))) (n:=n) (K:=λ(_:Unit)=>some false) (r:=true) (λi=>∀ t,h.Tries[i]?=some t->Qu n [t.T,t.Want,t.H,t.Err] 4 (k:Int)=some false∧Qu n t.Y 8 (k:Int)=some false) h.Tries.length (λi hi=>by
  have hp:h.Tries[i]?=some h.Tries[i]:=List.getElem?_eq_getElem hi;generalize h.Tries[i]=t at hp;obtain⟨v,k1,k2⟩:=hb4 [t.T,t.Want,t.H,t.Err];obtain⟨w,k3,k4⟩:=hb8 t.Y;rw[if_pos (by omega),Kq hp,sbind,sbind,k1,sbind,sbind,k3,sbind];cases v
  . cases w
    . rw[bifF,bifF,w1 (by omega)]
      exact⟨λ_=>rfl,λg=>absurd (λd hd=>by rw[hp] at hd;cases hd;exact⟨k1,k3⟩) g⟩
    . exact⟨λg=>(by have:=(g t hp).2;rw[k3] at this;cases this),λ_=>rfl⟩
  . exact⟨λg=>(by have:=(g t hp).1;rw[k1] at this;cases this),λ_=>rfl⟩) (by rw[if_neg (by omega)]) (by unfold big at hn;omega)
 rw[hl];by_cases hx:∀ i,i<h.Tries.length->∀ t,h.Tries[i]?=some t->Qu n [t.T,t.Want,t.H,t.Err] 4 (k:Int)=some false∧Qu n t.Y 8 (k:Int)=some false
 . rw[if_pos hx]
   refine⟨false,rfl,λ_=>⟨by omega,h2,g2 rfl,λt ht=>?_⟩⟩;obtain⟨i,hi⟩:=List.getElem?_of_mem ht;obtain⟨v,k1,k2⟩:=hb4 [t.T,t.Want,t.H,t.Err];obtain⟨w,k3,k4⟩:=hb8 t.Y;obtain⟨a1,a2⟩:=hx i (Ve hi) t hi;rw[k1] at a1;rw[k3] at a2;exact⟨k2 (Option.some.inj a1),k4 (Option.some.inj a2)⟩
 . rw[if_neg hx];exact⟨true,rfl,λh=>by cases h⟩
theorem Jao{k:Nat}{t:Jr}(hB:Qf5 t)(h:SmaK k t):FT k (tTry t):=by obtain⟨b1,b2,b3,b4,b5,_⟩:=hB;obtain⟨s1,s2⟩:=h;have g1:=s1.2 t.T (by simp);have g2:=s1.2 t.Want (by simp);have g3:=s1.2 t.H (by simp);have g4:=s1.2 t.Err (by simp);have yl:=s2.1;refine⟨λx hx=>?_,FR_tF b5 s2,by show(t.Y.map tF).length≤_;rw[List.length_map];omega⟩;rcases List.mem_cons.1 hx with rfl | hx;exact Fk_tF b1 g1;rcases List.mem_cons.1 hx with rfl | hx;exact Fk_tF b2 g2;rcases List.mem_cons.1 hx with rfl | hx;exact Fk_tF b3 g3;rw[List.mem_singleton.1 hx];exact Fk_tF b4 g4
set_option maxRecDepth 100000
noncomputable def alongQ(p:Qh)(V:List Rat):List Q3->Nat->List Rat->Qd ⊕ List (List Rat)
 | [],_,_=>.inr []
 | t::l,i,U=>match tiltQ p (fv t.T) (fv t.H) (rv t.Y) U V with
   | .inl f=>.inl ⟨f.Kind,((i+1:Nat):Int),f.Stage,f.At⟩
   | .inr z=>match alongQ p V l (i+1) z.2.1 with
     | .inl f=>.inl f
     | .inr r=>.inr (z.2.1::r)
def AlR(p:Qh)(h:Jh):Prop:=prbR p∧Q4c h∧(h.Y.length:Int)=p.Tape.Dim
noncomputable def nodesQ(p:Qh)(h:Jh)(U V:List Rat):Qd ⊕ List (List Rat):=
 @ite _ (AlR p h∧U.length=h.Y.length∧V.length=p.P.length) (Classical.propDecidable _) (alongQ p V ((okT h.Tries).map nT) 0 U) (.inl ⟨2,0,0,0⟩)
theorem Qyv{p:Qh}{V:List Rat}(ht:∀(t:Q3) (U:List Rat) f,tiltQ p (fv t.T) (fv t.H) (rv t.Y) U V=.inl f->f.Kind≠0):∀ {l:List Q3}{i:Nat}{U:List Rat}{f},alongQ p V l i U=.inl f->f.Kind≠0
 | [],i,U,f,h=>by simp only[alongQ] at h;cases h
 | t::l,i,U,f,h=>by
   simp only[alongQ] at h;cases hs:tiltQ p (fv t.T) (fv t.H) (rv t.Y) U V with
   | inl g=>rw[hs] at h;cases h;exact ht t U g hs
   | inr z=>
     rw[hs] at h;simp only[] at h;cases hr:alongQ p V l (i+1) z.2.1 with
     | inl g=>rw[hr] at h;cases h;exact Qyv ht hr
     | inr r=>rw[hr] at h;cases h
theorem Q9c{p:Qh}{T H:Rat}{Y U V:List Rat}{f}(h:tiltQ p T H Y U V=.inl f):f.Kind≠0:=by
 unfold tiltQ at h;cases hs:stepQ p T H Y with
 | inl g=>
   rw[hs] at h;simp only[] at h;split at h;cases h;show(2:Int)≠0;decide;cases h;exact Q7b hs
 | inr z=>
   rw[hs] at h;simp only[] at h;split at h;cases h;show(2:Int)≠0;decide;cases hd:tdoQ p.Tape p.Scheme (limQ p.Bits) T H U V (rv p.P) z.ys with
   | inr w=>rw[hd] at h;cases h
   | inl g=>
     rw[hd] at h;cases h;unfold tdoQ at hd;have st:∀ {r:List ((List Rat×Rat)×List Rat)}{i:Nat}{k}{e:Qd},tstagesQ p.Tape (limQ p.Bits) T H U V (rv p.P) r i k=.inl e->e.Kind≠0:=by
      intro r
      induction r with
      | nil=>intro i k e h;simp only[tstagesQ] at h;cases h
      | cons x r ih=>
        intro i k e h;simp only[tstagesQ] at h;cases s:tstageQ p.Tape (limQ p.Bits) T H U V (rv p.P) x.2 x.1.1 x.1.2 i k with
        | inr w=>rw[s] at h;exact ih h
        | inl g=>
          rw[s] at h;cases h;unfold tstageQ at s;split at s;cases s;show(6:Int)≠0;decide;cases hp:pfieldQ p.Tape (limQ p.Bits) (T+H*x.1.2) x.2 (rv p.P) 0 (fromQ H U x.1.1 k) V with
          | inr q=>rw[hp] at s;cases s
          | inl q=>
            rw[hp] at s;cases s;have:=Qu3 hp;show q.1≠0;omega
     cases hz:tstagesQ p.Tape (limQ p.Bits) T H U V (rv p.P) (List.zip (pairQ p.Scheme) z.ys) 0 [] with
     | inl e=>rw[hz] at hd;cases hd;exact st hz
     | inr k=>
       rw[hz] at hd;simp only[] at hd;unfold tendQ at hd;split at hd;cases hd;show(6:Int)≠0;decide;split at hd;cases hd;show(6:Int)≠0;decide;cases hd
theorem Jb1{j k:Nat}{t:Q3}(h:FT j t)(hk:j≤k):FT k t:=⟨J6 h.1 hk,J6 h.2.1 hk,h.2.2⟩
theorem Jap{k:Nat}{t:Q3}(h:FT k t):Fk k t.T∧Fk k t.H∧FR k t.Y:=⟨h.1 t.T (by simp),h.1 t.H (by simp),h.2.1⟩
theorem FT_nT{k:Nat}{t:Q3}(h1:1≤k)(h:FT k t):FT k (nT t):=by obtain⟨a,b,c⟩:=h;refine⟨λx hx=>?_,Kl (QR_rv b h1),by show(toR (rv t.Y)).length≤_;rw[Q7,Jb];exact c⟩;have g:∀ y∈[t.T,t.Want,t.H,t.Err],Fk k (toF (fv y)):=λy hy=>Jp (qw_fv (a y hy) h1);rcases List.mem_cons.1 hx with rfl | hx;exact g t.T (by simp);rcases List.mem_cons.1 hx with rfl | hx;exact g t.Want (by simp);rcases List.mem_cons.1 hx with rfl | hx;exact g t.H (by simp);rw[List.mem_singleton.1 hx];exact g t.Err (by simp)
theorem Qxa{n k:Nat}{p:Qh}{h:Jh}{u v:List Qa}(hn:big≤n)(h0:129≤k)(hk:k<8000)(hw:PrbW k p)(hl:h.Tries.length≤1000)(ht:∀ t∈h.Tries,FT k t)(hT:Fk k h.T)(hY:FR k h.Y)(hYl:h.Y.length≤1000)(hu:FR k u)(hul:u.length≤1000)(hv:FR k v):
 Qg6 n p h u v=some (match nodesQ p h (rv u) (rv v) with | .inl f=>([],f) | .inr r=>(toRR (rv u::r),⟨0,0,0,0⟩))∧∀ r,nodesQ p h (rv u) (rv v)=.inr r->∀ a∈r,QR 129 a∧a.length≤6:=by
 have hle:=Q39 h.Tries;unfold Qg6 Qj2 nodesQ;simp only[jn_eq];rw[Qyq hn h0 hk hw,Qyu hn (by omega) (by omega) (by omega) ht hT hY (by omega),Jb,Jb];have noR:¬(AlR p h∧u.length=h.Y.length∧v.length=p.P.length)->∀ r,@ite (Qd ⊕ List (List Rat)) (AlR p h∧u.length=h.Y.length∧v.length=p.P.length) (Classical.propDecidable _) (alongQ p (rv v) ((okT h.Tries).map nT) 0 (rv u)) (.inl ⟨2,0,0,0⟩)=.inr r->∀ a∈r,QR 129 a∧a.length≤6:=λg r hr=>by rw[if_neg g] at hr;cases hr
 by_cases c1:prbR p
 case neg=>
  have g:¬(AlR p h∧u.length=h.Y.length∧v.length=p.P.length):=λg=>c1 g.1.1;exact⟨by rw[if_neg g,sbind,dP_f c1];rfl,noR g⟩
 by_cases c2:Q4c h
 case neg=>
  have g:¬(AlR p h∧u.length=h.Y.length∧v.length=p.P.length):=λg=>c2 g.1.2.1;exact⟨by rw[if_neg g,sbind,dP_t c1,bifT,sbind,dP_f c2];rfl,noR g⟩
 by_cases c3:(h.Y.length:Int)=p.Tape.Dim
 case neg=>
  have g:¬(AlR p h∧u.length=h.Y.length∧v.length=p.P.length):=λg=>c3 g.1.2.2;exact⟨by rw[if_neg g,sbind,dP_t c1,bifT,sbind,dP_t c2,bifT,decide_eq_false c3];rfl,noR g⟩
 by_cases c4:u.length=h.Y.length
 case neg=>
  have g:¬(AlR p h∧u.length=h.Y.length∧v.length=p.P.length):=λg=>c4 g.2.1;exact⟨by rw[if_neg g,sbind,dP_t c1,bifT,sbind,dP_t c2,bifT,decide_eq_true c3,sbind,decide_eq_false (show ¬(u.length:Int)=(h.Y.length:Int) by omega)];rfl,noR g⟩
 by_cases c5:v.length=p.P.length
 case neg=>
  have g:¬(AlR p h∧u.length=h.Y.length∧v.length=p.P.length):=λg=>c5 g.2.2;exact⟨by rw[if_neg g,sbind,dP_t c1,bifT,sbind,dP_t c2,bifT,decide_eq_true c3,sbind,decide_eq_true (show(u.length:Int)=(h.Y.length:Int) by omega),decide_eq_false (show ¬(v.length:Int)=(p.P.length:Int) by omega)];rfl,noR g⟩
 rw[if_pos ⟨⟨c1,c2,c3⟩,c4,c5⟩,sbind,dP_t c1,bifT,sbind,dP_t c2,bifT,decide_eq_true c3,sbind,decide_eq_true (show(u.length:Int)=(h.Y.length:Int) by omega),decide_eq_true (show(v.length:Int)=(p.P.length:Int) by omega)];simp only[Bool.not_true,bifF];rw[Qnx hn,sbind,Qao hn (by omega) (by omega) (Jp (by rw[Q9b];omega)) hu (by omega),sbind,Q5,Q50,Qu5 hn (by omega) (by omega) (by omega) ht,sbind]
 have hA:∀ t∈(okT h.Tries).map nT,FT k t∧t.Y.length≤6:=λt hm=>by obtain⟨x,hx,rfl⟩:=List.mem_map.1 hm;have hx':=(List.mem_filter.1 hx).1;refine⟨FT_nT (by omega) (ht x hx'),?_⟩;show(toR (rv x.Y)).length≤6;rw[Q7,Jb,c2.l.1 x hx'];exact c2.l.2.2
 have hAl:((okT h.Tries).map nT).length≤1000:=by rw[List.length_map];omega
 generalize (okT h.Tries).map nT=A at hA hAl
 have key:∀(l:List Q3) (i:Nat) (U:List Rat) (B:List (List Rat)) (K:(List Qa)×(List (List Qa))->Option ((List (List Qa))×Qd)),(∀ t∈l,FT k t∧t.Y.length≤6)->QR k U->i+l.length≤1000->B.length≤i+1 →
  ((rangeL (λ(i32:Nat) (x33:Q3) (s31:(List Qa)×(List (List Qa)))=>
    (V9 n p x33.T x33.H x33.Y s31.1 v).bind λr35=>
    bif !(Qo r35.2 (⟨0,0,0,0⟩:Qd)) then (
     some (Lp.out ((([]:List (List Qa)),(⟨r35.2.Kind,wrap64 ((i32:Int)+(1:Int)),r35.2.Stage,r35.2.At⟩:Qd)))))
    else (
     (appM 24 s31.2 ([r35.1.Next]:List (List Qa))).bind λy37=>
     some (Lp.go (r35.1.Next,y37)))) l i (toR U,toRR B)).bind (lpK K)=match alongQ p (rv v) l i U with | .inl f=>some ([],f) | .inr r=>K (toR (r.getLastD U),toRR (B++r)))∧∀ r,alongQ p (rv v) l i U=.inr r->∀ a∈r,QR 129 a∧a.length≤6:=by
  intro l
  induction l with
  | nil=>
    intro i U B K _ _ _ _;simp only[alongQ,rangeL];exact⟨by rw[List.append_nil];rfl,λr hr=>by cases hr;exact λ_ h=>by cases h⟩
  | cons t l ih=>
    intro i U B K hm hU hi hB;rw[List.length_cons] at hi;obtain⟨ft,fl⟩:=hm t (.head _);obtain⟨f1,f2,f3⟩:=Jap ft;obtain⟨d1,x1,z1⟩:=Qb1 (t:=t.T) (h:=t.H) (y:=t.Y) (u:=toR U) (v:=v) hn h0 hk hw f1 f2 f3 (Kl hU) hv;rw[Ky] at d1 x1 z1;simp only[alongQ,rangeL];rw[d1,sbind];cases hs:tiltQ p (fv t.T) (fv t.H) (rv t.Y) U (rv v) with
    | inl f=>
      have hf:=x1 f hs;obtain⟨a1,a2,a3,a4⟩:=f;simp only[];rw[Kv hf,Bool.not_false,bifT,sbind,w1 (by omega)];exact⟨rfl,λr hr=>by cases hr⟩
    | inr z=>
      obtain⟨_,b1,b2,_⟩:=z1 z hs;simp only[];rw[Ku,Bool.not_true,bifF,Wr (by rw[Qc0];simp;omega) (by rw[Qc0];simp;omega),sbind,sbind];have e7:toRR B++[toR z.2.1]=toRR (B++[z.2.1]):=by unfold toRR;rw[List.map_append];rfl
      simp only[];rw[e7];obtain⟨i1,i2⟩:=ih (i+1) z.2.1 (B++[z.2.1]) K (λx hx=>hm x (.tail _ hx)) (Jo b1 h0) (by omega) (by simp;omega);cases hr:alongQ p (rv v) l (i+1) z.2.1 with
      | inl f=>
        rw[hr] at i1;exact⟨i1,λr h=>by cases h⟩
      | inr r=>
        rw[hr] at i1;refine⟨?_,λr' h'=>?_⟩
        . refine i1.trans ?_
          simp only[];rw[List.append_assoc,List.getLastD_cons];rfl
        . cases h'
          intro a ha;rcases List.mem_cons.1 ha with rfl | ha
          . exact⟨b1,by omega⟩
          . exact i2 r hr a ha
 obtain⟨k1,k2⟩:=key A 0 (rv u) [rv u] (λs39=>some (s39.2,(⟨0,0,0,0⟩:Qd))) hA (QR_rv hu (by omega)) (by omega) (by simp);refine⟨?_,k2⟩;refine k1.trans ?_;cases alongQ p (rv v) A 0 (rv u)<;>rfl
theorem Qxb{α:Type}:∀(r:List α) (u:α),(u::r)[r.length]?=some (r.getLastD u)
 | [],u=>rfl
 | x::r,u=>by rw[List.getLastD_cons];exact Qxb r x
theorem Qe2{n k:Nat}{p:Qh}{h:Jh}{u v:List Qa}(hn:big≤n)(h0:129≤k)(hk:k<8000)(hw:PrbW k p)(hl:h.Tries.length≤1000)(ht:∀ t∈h.Tries,FT k t)(hT:Fk k h.T)(hY:FR k h.Y)(hYl:h.Y.length≤1000)(hu:FR k u)(hul:u.length≤1000)(hv:FR k v):
 Xh n p h u v=some (match nodesQ p h (rv u) (rv v) with | .inl f=>([],f) | .inr r=>(toR (r.getLastD (rv u)),⟨0,0,0,0⟩))∧(∀ f,nodesQ p h (rv u) (rv v)=.inl f->f.Kind≠0)∧∀ r,nodesQ p h (rv u) (rv v)=.inr r->QR k (r.getLastD (rv u))∧r.length≤1000∧(r.getLastD (rv u)).length≤1000:=by
 obtain⟨e1,e2⟩:=Qxa hn h0 hk hw hl ht hT hY hYl hu hul hv;unfold Xh;rw[e1,sbind]
 have hk2:∀ f,nodesQ p h (rv u) (rv v)=.inl f->f.Kind≠0:=λf hf=>by unfold nodesQ at hf;split at hf;exact Qyv (λt U f h=>Q9c h) hf;cases hf;show(2:Int)≠0;decide
 have hlen:∀ {l:List Q3}{i:Nat}{U:List Rat}{r},alongQ p (rv v) l i U=.inr r->r.length=l.length:=by
  intro l
  induction l with
  | nil=>intro i U r h;simp only[alongQ] at h;cases h;rfl
  | cons t l ih=>
    intro i U r h;simp only[alongQ] at h;cases hs:tiltQ p (fv t.T) (fv t.H) (rv t.Y) U (rv v) with
    | inl g=>rw[hs] at h;cases h
    | inr z=>
      rw[hs] at h;simp only[] at h;cases hr:alongQ p (rv v) l (i+1) z.2.1 with
      | inl g=>rw[hr] at h;cases h
      | inr r=>rw[hr] at h;cases h;simp[ih hr]
 cases hq:nodesQ p h (rv u) (rv v) with
 | inl f=>
   have hf:=hk2 f hq;refine⟨?_,λg hg=>by cases hg;exact hf,λr hr=>by cases hr⟩;obtain⟨a1,a2,a3,a4⟩:=f;simp only[];rw[Kv hf,Bool.not_false,bifT]
 | inr r=>
   have hm:=e2 r hq;have hr:r.length≤1000:=by unfold nodesQ at hq;split at hq;have:=hlen hq;rw[List.length_map] at this;have:=Q39 h.Tries;omega;cases hq
   have hlast:QR k (r.getLastD (rv u))∧(r.getLastD (rv u)).length≤1000:=by have hmem:=List.mem_of_getElem? (Qxb r (rv u));rcases List.mem_cons.1 hmem with e | e;rw[e];exact⟨QR_rv hu (by omega),by rw[Jb];exact hul⟩;obtain⟨a1,a2⟩:=hm _ e;exact⟨Jo a1 h0,by omega⟩
   refine⟨?_,(λg hg=>by cases hg),λr' hr'=>by cases hr';exact⟨hlast.1,hr,hlast.2⟩⟩;simp only[];rw[Ku,Bool.not_true,bifF,Qc0,List.length_cons,w64 (by omega) (by omega),show((r.length+1:Nat):Int) - 1=(r.length:Int) by omega,Kq (show(toRR (rv u::r))[r.length]?=some (toR (r.getLastD (rv u))) by unfold toRR;rw[List.getElem?_map,Qxb];rfl),sbind]
theorem Q1j{p:Qh}{c:Rat}{V1 V2:List Rat}:∀ {l:List Q3}{i:Nat}{U1 U2:List Rat}{r1 r2 r3},alongQ p V1 l i U1=.inr r1->alongQ p V2 l i U2=.inr r2->alongQ p (linQ c V1 V2) l i (linQ c U1 U2)=.inr r3->r3.getLastD (linQ c U1 U2)=linQ c (r1.getLastD U1) (r2.getLastD U2)
 | [],i,U1,U2,r1,r2,r3,h1,h2,h3=>by simp only[alongQ] at h1 h2 h3;cases h1;cases h2;cases h3;rfl
 | t::l,i,U1,U2,r1,r2,r3,h1,h2,h3=>by
   simp only[alongQ] at h1 h2 h3;cases s1:tiltQ p (fv t.T) (fv t.H) (rv t.Y) U1 V1 with
   | inl f=>rw[s1] at h1;cases h1
   | inr z1=>
   cases s2:tiltQ p (fv t.T) (fv t.H) (rv t.Y) U2 V2 with
   | inl f=>rw[s2] at h2;cases h2
   | inr z2=>
   cases s3:tiltQ p (fv t.T) (fv t.H) (rv t.Y) (linQ c U1 U2) (linQ c V1 V2) with
   | inl f=>rw[s3] at h3;cases h3
   | inr z3=>
   have e:=Q38 s1 s2 s3;rw[s1] at h1;rw[s2] at h2;rw[s3] at h3;simp only[] at h1 h2 h3;rw[e] at h3;cases q1:alongQ p V1 l (i+1) z1.2.1 with
   | inl f=>rw[q1] at h1;cases h1
   | inr w1=>
   cases q2:alongQ p V2 l (i+1) z2.2.1 with
   | inl f=>rw[q2] at h2;cases h2
   | inr w2=>
   cases q3:alongQ p (linQ c V1 V2) l (i+1) (linQ c z1.2.1 z2.2.1) with
   | inl f=>rw[q3] at h3;cases h3
   | inr w3=>
   rw[q1] at h1;rw[q2] at h2;rw[q3] at h3;cases h1;cases h2;cases h3;rw[List.getLastD_cons,List.getLastD_cons,List.getLastD_cons];exact Q1j q1 q2 q3
set_option maxRecDepth 100000
theorem w42:Xw big=some true:=by kernel_rfl
theorem Qyw{n:Nat}{p:Qx}{h:Ja}(hn:big≤n):∃ v,Qa2 n p h=some v∧(v=false->((p.Tape.Code.length≤10∧p.Tape.Outs.length≤10∧∀ c∈p.Tape.Code,c.N.N.length≤2∧c.N.D.length≤2)∧(p.Scheme.Name.length≤50∧p.Scheme.A.length≤4∧FL 4 4 p.Scheme.B∧FL 4 4 p.Scheme.C∧FL 4 4 p.Scheme.E∧∀ r∈p.Scheme.A,FL 4 4 r)∧FL 6 2 p.P)∧p.Bits≤400∧h.Tries.length≤5∧(h.T.N.length≤6∧h.T.D.length≤6)∧FL 8 6 h.Y∧∀ t∈h.Tries,SmaK 6 t):=by
 unfold Qa2;simp only[jn_eq];obtain⟨v,e1,e2⟩:=Qhs (p:=p) (a:=10) (b:=4) (k:=2) hn (by decide) (by decide);rw[show((10:Nat):Int)=10 from rfl,show((4:Nat):Int)=4 from rfl,show((2:Nat):Int)=2 from rfl] at e1;rw[e1,sbind];cases v
 case true=>exact⟨true,rfl,λh=>by cases h⟩
 rw[bifF];by_cases c1:(3:Int)<(p.Scheme.B.length:Int)
 . rw[decide_eq_true c1];exact⟨true,rfl,λh=>by cases h⟩
 rw[decide_eq_false c1,bifF];by_cases c2:(400:Int)<p.Bits
 . rw[decide_eq_true c2];exact⟨true,rfl,λh=>by cases h⟩
 rw[decide_eq_false c2,bifF];obtain⟨v,e3,e4⟩:=Qw9 (a:=5) (k:=6) (h:=h) hn (by decide) (by decide);rw[show((5:Nat):Int)=5 from rfl,show((6:Nat):Int)=6 from rfl] at e3;rw[e3,sbind];cases v
 case true=>exact⟨true,rfl,λh=>by cases h⟩
 obtain⟨g1,g2,g3,g4⟩:=e4 rfl;rw[bifF];by_cases c3:(4:Int)<(h.Y.length:Int)
 . rw[decide_eq_true c3];exact⟨true,rfl,λh=>by cases h⟩
 rw[decide_eq_false c3,bifF,Qw8 hn (by omega),sbind];exact⟨_,rfl,λ_=>⟨e2 rfl,by omega,g1,g2,g3,g4⟩⟩
theorem Qyx(p:Qx)(h:Ja)(b:Vr)(c:Qc)(hB:Vv p)(hH:Qho h)(hb:Qb4 b)(hc:J1 c):∃ n,Yh n p h b c=some true:=by
 refine⟨big,?_⟩;have hn:big≤big:=Nat.le_refl _;unfold Yh;simp only[jn_eq];obtain⟨v,e1,e2⟩:=Qyw (p:=p) (h:=h) hn;rw[e1,sbind];cases v
 case true=>rw[bifT,bifT,w42];rfl
 obtain⟨⟨⟨t1,t2,t3⟩,⟨s1,s2,s3,s4,s5,s6⟩,p1⟩,hbits,g1,g2,g3,g4⟩:=e2 rfl;obtain⟨v,e5,e6⟩:=Qe0 (b:=b.a0) hn;rw[bifF,e5,sbind];cases v
 case true=>rw[bifT,bifT,w42];rfl
 obtain⟨u1,v1⟩:=e6 rfl;obtain⟨v,e7,e8⟩:=Qe0 (b:=b.a1) hn;rw[bifF,e7,sbind];cases v
 case true=>rw[bifT,bifT,w42];rfl
 obtain⟨u2,v2⟩:=e8 rfl;have e9:=Qb0 c 2;rw[show((2:Nat):Int)=2 from rfl] at e9;rw[bifF,e9,sbind];by_cases hcl:c.N.length≤2∧c.D.length≤2
 case neg=>rw[decide_eq_false hcl,Bool.not_false,bifT,w42];rfl
 rw[decide_eq_true hcl,Bool.not_true,bifF];obtain⟨⟨bu1,bv1,_⟩,⟨bu2,bv2,_⟩,_⟩:=hb;obtain⟨b1,b2,b3,_⟩:=hH;have hw:=Qvp (bits:=2000) hB (by decide) (e2 rfl).1;have hFT:∀ t∈h.Tries,FT 6 (tTry t):=λt ht=>Jao (b1.2 t ht) (g4 t ht);have hyl:=g3.1;have hcF:Fk 2 (tF c):=Fk_tF hc hcl;have hU1:=FR_tF bu1 u1;have hU2:=FR_tF bu2 u2;have hV1:=FR_tF bv1 v1;have hV2:=FR_tF bv2 v2;have lU1:(b.a0.U.map tF).length≤6:=by have:=u1.1;rw[List.length_map];omega
 have lU2:(b.a1.U.map tF).length≤6:=by have:=u2.1;rw[List.length_map];omega
 have lV1:(b.a0.V.map tF).length≤1000:=by have:=v1.1;rw[List.length_map];omega
 have to:∀ x:Qc,Jf x=some (tF x):=λ_=>rfl;rw[Qj7 hn (by omega) (by omega) (by omega) (by have:=s3.1;omega) (by have:=s4.1;omega) (by have:=s5.1;omega) (λr hr=>by have:=(s6 r hr).1;omega) (by have:=p1.1;omega),sbind,Q2b hn (by omega) (by omega) (λt ht=>by have:=(hFT t ht).2.2;rwa [show(tTry t).Y.length=t.Y.length from List.length_map _] at this),sbind,to,sbind,Kd hn (by have:=u1.1;omega),sbind,Kd hn (by have:=u2.1;omega),Kd hn (by have:=v1.1;omega),Kd hn (by have:=v2.1;omega)];rw[show(⟨(tP p).Tape,(tP p).Scheme,(tP p).P,2000⟩:Qh)=⟨tT p.Tape,tS p.Scheme,p.P.map tF,2000⟩ from rfl];generalize (⟨tT p.Tape,tS p.Scheme,p.P.map tF,2000⟩:Qh)=q at hw ⊢;have hTl:(tHis h).Tries.length≤5:=by show(h.Tries.map tTry).length≤5;rw[List.length_map];exact g1
 have hTF:∀ t∈(tHis h).Tries,FT 129 t:=λx hx=>by obtain⟨t,ht,rfl⟩:=List.mem_map.1 hx;exact Jb1 (hFT t ht) (by decide)
 have hTT:Fk 129 (tHis h).T:=Vg (Fk_tF b2 g2) (by decide);have hTY:FR 129 (tHis h).Y:=J6 (FR_tF b3 g3) (by decide);have hTYl:(tHis h).Y.length≤8:=by show(h.Y.map tF).length≤8;rw[List.length_map];exact hyl
 generalize tHis h=y at *;generalize b.a0.U.map tF=U1 at *;generalize b.a1.U.map tF=U2 at *;generalize b.a0.V.map tF=V1 at *;generalize b.a1.V.map tF=V2 at *;generalize tF c=k at *;obtain⟨ru,k1,_,k2⟩:=Qon (n:=big) hn hcF (by decide) (by decide) hU1 hU2 (by omega);obtain⟨rw_,k3,_,k4⟩:=Qon (n:=big) hn hcF (by decide) (by decide) hV1 hV2 lV1;obtain⟨d1,x1,z1⟩:=Qe2 (n:=big) (p:=q) (h:=y) (u:=U1) (v:=V1) hn (by decide) (by decide) hw (by omega) hTF hTT hTY (by omega) (J6 hU1 (by decide)) (by omega) (J6 hV1 (by decide));obtain⟨d2,x2,z2⟩:=Qe2 (n:=big) (p:=q) (h:=y) (u:=U2) (v:=V2) hn (by decide) (by decide) hw (by omega) hTF hTT hTY (by omega) (J6 hU2 (by decide)) (by omega) (J6 hV2 (by decide))
 have bl:∀ {A B:List Qa},FR 2 A->FR 2 B->FR 129 (toR (linQ (fv k) (rv A) (rv B))):=λhA hB=>by rw[←Q0d];exact Kl (Jo (Qjw (Qgy (qw_fv hcF (by decide)) (QR_rv hA (by decide))) (QR_rv hB (by decide))) (by decide))
 have fin:∀(U3 V3:List Qa) (ok yes:Bool),FR 129 U3->FR 129 V3->U3.length≤6->(ok=true->U1.length=U2.length∧U3=toR (linQ (fv k) (rv U1) (rv U2)))->(yes=true->V1.length=V2.length∧V3=toR (linQ (fv k) (rv V1) (rv V2))) →
  ∀(r80:List Qa×Qd),Xh big q y U3 V3=some r80 →
  ∀(r72 r78:List Qa×Qd),Xh big q y U1 V1=some r72->Xh big q y U2 V2=some r78 →
  ok=true->yes=true->Qo r72.2 ⟨0,0,0,0⟩=true->Qo r78.2 ⟨0,0,0,0⟩=true->Qo r80.2 ⟨0,0,0,0⟩=true →
  ((Ke big k r72.1).bind λr87=>(K8 big [r87,r78.1]).bind λr89=>bif r89.2 then (Vk big r80.1 r89.1).bind λr98=>bif r98 then (Xw big).bind λr100=>some r100 else some false else some false)=some true:=by
  intro U3 V3 ok yes hU3 hV3 hU3l hok hyes r80 hr80 r72 r78 hr72 hr78 h1 h2 q1 q2 q3;obtain⟨o1,o2⟩:=hok h1;obtain⟨o3,o4⟩:=hyes h2;obtain⟨d3,x3,z3⟩:=Qe2 (n:=big) (p:=q) (h:=y) (u:=U3) (v:=V3) hn (by decide) (by decide) hw (by omega) hTF hTT hTY (by omega) hU3 (by omega) hV3;rw[d1] at hr72;rw[d2] at hr78;rw[d3] at hr80;cases hr72;cases hr78;cases hr80
  have no:∀ {f:Qd},f.Kind≠0->¬ Qo f ⟨0,0,0,0⟩=true:=fun {f} hf g=>by have:=Q9a g;rw[this] at hf;exact hf rfl
  cases n1:nodesQ q y (rv U1) (rv V1) with
  | inl f=>rw[n1] at q1;exact absurd q1 (no (x1 f n1))
  | inr w1=>
  cases n2:nodesQ q y (rv U2) (rv V2) with
  | inl f=>rw[n2] at q2;exact absurd q2 (no (x2 f n2))
  | inr w2=>
  cases n3:nodesQ q y (rv U3) (rv V3) with
  | inl f=>rw[n3] at q3;exact absurd q3 (no (x3 f n3))
  | inr w3=>
  obtain⟨b1,_,b1l⟩:=z1 w1 n1;obtain⟨b2,_,b2l⟩:=z2 w2 n2;obtain⟨b3,_,b3l⟩:=z3 w3 n3
  have cnd:∀ {U V:List Rat}{w},nodesQ q y U V=.inr w->(AlR q y∧U.length=y.Y.length∧V.length=q.P.length)∧alongQ q V ((okT y.Tries).map nT) 0 U=.inr w:=fun {U V w} g=>by
   unfold nodesQ at g;split at g
   . rename_i hc;exact⟨hc,g⟩
   . cases g
  obtain⟨⟨_,l1,_⟩,m1⟩:=cnd n1;obtain⟨⟨_,l2,_⟩,m2⟩:=cnd n2;obtain⟨_,m3⟩:=cnd n3;have hl:w3.getLastD (rv U3)=linQ (fv k) (w1.getLastD (rv U1)) (w2.getLastD (rv U2)):=by rw[o2,Ky];rw[o2,o4,Ky,Ky] at m3;exact Q1j m1 m2 m3
  have hll:∀ {U:List Rat}{V w},U.length=y.Y.length->alongQ q V ((okT y.Tries).map nT) 0 U=.inr w->(w.getLastD U).length=y.Y.length:=by
   have gen:∀ {l:List Q3}{i:Nat}{U V:List Rat}{w},(∀ t∈l,t.Y.length=y.Y.length)->U.length=y.Y.length->alongQ q V l i U=.inr w->(w.getLastD U).length=y.Y.length:=by
    intro l
    induction l with
    | nil=>intro i U V w _ hU h;simp only[alongQ] at h;cases h;exact hU
    | cons t l ih=>
      intro i U V w hm hU h;simp only[alongQ] at h;cases hs:tiltQ q (fv t.T) (fv t.H) (rv t.Y) U V with
      | inl g=>rw[hs] at h;cases h
      | inr z=>
        rw[hs] at h;simp only[] at h;cases hr:alongQ q V l (i+1) z.2.1 with
        | inl g=>rw[hr] at h;cases h
        | inr r=>
          rw[hr] at h;cases h;rw[List.getLastD_cons];refine ih (λx hx=>hm x (.tail _ hx)) ?_ hr;obtain⟨a1,a2,a3,a4⟩:=Qku hs;have hl2:=(Qba a1).2.1;have hd:=(Qba a1).1.1.1;unfold tdoQ at a4;cases hz:tstagesQ q.Tape (limQ q.Bits) (fv t.T) (fv t.H) U V (rv q.P) (List.zip (pairQ q.Scheme) z.1.ys) 0 [] with
          | inl e=>rw[hz] at a4;cases a4
          | inr kk=>
            rw[hz] at a4;simp only[] at a4;rw[Qkt a4,Qg0 (Qm3 (by unfold limQ;omega) (by have:=hd.2.2.1;omega) (λ_ h=>by cases h) hz),hU]
   intro U V w hU h;refine gen (λt hm=>?_) hU h;obtain⟨x,hx,rfl⟩:=List.mem_map.1 hm;show(toR (rv x.Y)).length=_;rw[Q7,Jb];exact(cnd n1).1.1.2.1.l.1 x (List.mem_filter.1 hx).1
  have hl1:=hll l1 m1;have hl2:=hll l2 m2;obtain⟨rr,r1,r2,r3⟩:=Qon (n:=big) hn hcF (k:=129) (by decide) (by decide) (Kl b1) (Kl b2) (by rw[Q7];omega);rw[Q7,Q7,if_pos (by omega),Ky,Ky] at r3;have q3:QR 262 (linQ (fv k) (w1.getLastD (rv U1)) (w2.getLastD (rv U2))):=by rw[←hl];exact Jo b3 (by decide)
  simp only[];rw[r1,sbind,r3,sbind];simp only[];rw[bifT,Qcz (k:=262) hn (by decide) (by decide) (Kl (Jo b3 (by decide))) (Kl q3),sbind,Ky,Ky,decide_eq_true hl,bifT,w42];rfl
 simp only[sbind];rw[k1,sbind,k2,sbind,k3,sbind,k4,sbind];have hex:∀(U3 V3:List Qa),FR 129 U3->FR 129 V3->U3.length≤6->∃ r,Xh big q y U3 V3=some r:=λU3 V3 a b c=>⟨_,(Qe2 (n:=big) (p:=q) (h:=y) (u:=U3) (v:=V3) hn (by decide) (by decide) hw (by omega) hTF hTT hTY (by omega) a (by omega) b).1⟩
 generalize hA:(if U1.length=U2.length then (toR (linQ (fv k) (rv U1) (rv U2)),true) else ([],false):List Qa×Bool)=A;generalize hA':(if V1.length=V2.length then (toR (linQ (fv k) (rv V1) (rv V2)),true) else ([],false):List Qa×Bool)=A';have a1:FR 129 A.1:=by
  rw[←hA];split
  . exact bl hU1 hU2
  . intro _ hx;cases hx
 have a2:FR 129 A'.1:=by
  rw[←hA'];split
  . exact bl hV1 hV2
  . intro _ hx;cases hx
 have a3:A.1.length≤6:=by
  rw[←hA];split
  . rename_i hl
    show(toR _).length≤6;rw[Q7,Qvo (by rw[Jb,Jb];omega),Jb];exact lU1
  . exact Nat.zero_le _
 have a4:A.2=true->U1.length=U2.length∧A.1=toR (linQ (fv k) (rv U1) (rv U2)):=λho=>by
  rw[←hA] at ho ⊢;split at ho
  . rename_i hl
    rw[if_pos hl];exact⟨hl,rfl⟩
  . cases ho
 have a5:A'.2=true->V1.length=V2.length∧A'.1=toR (linQ (fv k) (rv V1) (rv V2)):=λho=>by
  rw[←hA'] at ho ⊢;split at ho
  . rename_i hl
    rw[if_pos hl];exact⟨hl,rfl⟩
  . cases ho
 obtain⟨r72,e72⟩:=hex U1 V1 (J6 hU1 (by decide)) (J6 hV1 (by decide)) lU1;obtain⟨r78,e78⟩:=hex U2 V2 (J6 hU2 (by decide)) (J6 hV2 (by decide)) lU2;obtain⟨r80,e80⟩:=hex A.1 A'.1 a1 a2 a3;have f0:=fin A.1 A'.1 A.2 A'.2 a1 a2 a3 a4 a5 r80 e80 r72 r78 e72 e78;rw[e72,sbind,e78,sbind,e80,sbind];cases h1:A.2
 case false=>rw[Bool.not_false,bifT,bifT,w42];rfl
 rw[Bool.not_true,bifF];cases h2:A'.2
 case false=>rw[Bool.not_false,bifT,bifT,w42];rfl
 rw[Bool.not_true,bifF];cases h3:Qo r72.2 ⟨0,0,0,0⟩
 case false=>rw[Bool.not_false,bifT,bifT,w42];rfl
 rw[Bool.not_true,bifF];cases h4:Qo r78.2 ⟨0,0,0,0⟩
 case false=>rw[Bool.not_false,bifT,bifT,w42];rfl
 rw[Bool.not_true,bifF];cases h5:Qo r80.2 ⟨0,0,0,0⟩
 case false=>rw[Bool.not_false,bifT,w42];rfl
 rw[Bool.not_true,bifF];exact f0 h1 h2 h3 h4 h5
end Go.Proofs.YtlfphifbmoccgaaGreatDoor
