import Derived.Test.YtlihkcaoachkdaaGreatDoorP1
import Derived.KernelRfl
namespace Go.Proofs.YtlihkcaoachkdaaGreatDoor
open Go Go.RowKit
structure PrbW(k:Nat)(p:Ql):Prop where
 t:∀ c∈p.Tape.Code,Fk k c.N
 d:-9223372036854775808≤p.Tape.Dim∧p.Tape.Dim≤9223372036854775807
 s:SchW k p.Scheme
 p:FR k p.P
def prbR(p:Ql):Prop:=tapeR p.Tape∧schR p.Scheme∧(p.P.length:Int)=p.Tape.Par
theorem PrbW.tw{k:Nat}{p:Ql}(h:PrbW k p)(hk:k<1048576):TW p.Tape:=λc hc=>Fk_Fw (h.t c hc) (by omega)
theorem Qmt{n k:Nat}{p:Ql}(hn:big≤n)(h0:129≤k)(hk:k<8000)(hw:PrbW k p):Zt n p=some (dP (prbR p)):=
 Qrd hn (by omega) (by omega) (hw.tw (by omega)) hw.d hw.s
theorem PrbW.ok{n k:Nat}{p:Ql}{t h:Qa}{y:List Qa}(hw:PrbW k p)(hn:big≤n)(hk:k<8000)(hr:prbR p)(ht:Fk k t)(hh:Fk k h)(hy:FR k y)(hl:(y.length:Int)=p.Tape.Dim):PrbOK n k p t h y:=
 ⟨⟨hr.1,by rw[Qkm hn (hw.tw (by omega)) hw.d,dP_t hr.1],hw.t⟩,hw.s,hr.2.1,hw.p,hr.2.2,ht,hh,hy,hl⟩
def toM(z:MadeQ):Yl:=⟨toRR z.ys,toRR z.ks,toR z.next,toR z.err⟩
def noM:Yl:=⟨[],[],[],[]⟩
noncomputable def stepQ(p:Ql)(T H:Rat)(Y:List Rat):Qc ⊕ MadeQ:=
 @ite _ (prbR p∧(Y.length:Int)=p.Tape.Dim) (Classical.propDecidable _) (doQ p.Tape p.Scheme (limQ p.Bits) T H Y (rv p.P)) (.inl ⟨2,0,0,0⟩)
theorem Qgr{n k:Nat}{p:Ql}{t h:Qa}{y:List Qa}(hn:big≤n)(h0:129≤k)(hk:k<8000)(hw:PrbW k p)(ht:Fk k t)(hh:Fk k h)(hy:FR k y):
 Qbh n p t h y=some (match stepQ p (fv t) (fv h) (rv y) with | .inl f=>(noM,f) | .inr z=>(toM z,⟨0,0,0,0⟩))∧∀ f,stepQ p (fv t) (fv h) (rv y)=.inl f->f.Kind≠0:=by
 unfold Qbh stepQ
 simp only[jn_eq]
 rw[Qmt hn h0 hk hw,sbind,bifnP,Vn]
 by_cases hr:prbR p
 case neg=>rw[if_neg hr,if_neg (λh=>hr h.1),bifT];exact⟨rfl,λf h=>by cases h;decide⟩
 rw[if_pos hr]
 by_cases hl:(y.length:Int)=p.Tape.Dim
 case neg=>rw[decide_eq_false hl,if_neg (λh=>hl h.2),Bool.not_false,bifT];exact⟨rfl,λf h=>by cases h;decide⟩
 rw[decide_eq_true hl,if_pos ⟨hr,hl⟩,Bool.not_true,bifF]
 have ok:=hw.ok hn hk hr ht hh hy hl
 unfold Qdh
 rw[sbind]
 obtain⟨r,e1,e2⟩:=Q05 (g:=⟨⟨0,0⟩,min (max p.Bits 0) 4096⟩) hn h0 hk ok rfl
 rw[e1,sbind]
 cases hd:doQ p.Tape p.Scheme (limQ p.Bits) (fv t) (fv h) (rv y) (rv p.P) with
 | inl f=>
   rw[hd] at e2
   obtain⟨e3,e4⟩:=e2
   refine⟨?_,λg hg=>by cases hg;exact e4⟩
   rw[e3]
   obtain⟨f1,f2,f3,f4⟩:=f
   rw[Xv e4,Bool.not_false,bifT];rfl
 | inr z=>
   rw[hd] at e2
   obtain⟨g',e3,_⟩:=e2
   subst e3
   simp only[]
   rw[Wa,Bool.not_true,bifF]
   exact⟨rfl,λg hg=>by cases hg⟩
theorem Qtr{t:Q2}{lim:Int}{T H:Rat}{Y P:List Rat}{m:Nat}(hlim:lim≤4096)(hm:t.Outs.length=m)(hY:Y.length=m):∀ {r:List (List Rat×Rat)}{i:Nat}{yss kss:List (List Rat)}{z},(∀ a∈kss,a.length=m)->(∀ a∈yss,a.length=m)->stagesQ t lim T H Y P r i yss kss=.inr z →
 (∀ a∈z.2,a.length=m)∧(∀ a∈z.1,a.length=m)∧(∃ e,z.1=yss++e)∧∃ e,z.2=kss++e
 | [],i,yss,kss,z,h1,h2,h=>by
   simp only[stagesQ] at h
   cases h
   exact⟨h1,h2,⟨[],by simp⟩,[],by simp⟩
 | x::r,i,yss,kss,z,h1,h2,h=>by
   simp only[stagesQ] at h
   cases hs:stageQ t lim T H Y P x.1 x.2 i kss with
   | inl f=>rw[hs] at h;cases h
   | inr w=>
     rw[hs] at h
     have hw:w.2.length=m∧w.1.length=m:=by
      unfold stageQ at hs
      split at hs
      . cases hs
      . cases hf:fieldQ t lim (T+H*x.2) (fromQ H Y x.1 kss) P with
        | inl e=>rw[hf] at hs;cases hs
        | inr k=>
          rw[hf] at hs;cases hs
          exact⟨by rw[(Qto hlim hf).1,hm],by show(fromQ H Y x.1 kss).length=m;rw[Qms (by rw[hY];exact h1),hY]⟩
     obtain⟨g1,g2,⟨e,g3⟩,e',g4⟩:=Qtr hlim hm hY (λa ha=>by
      rcases List.mem_append.1 ha with ha | ha
      . exact h1 a ha
      . rw[List.mem_singleton.1 ha];exact hw.1) (λa ha=>by
      rcases List.mem_append.1 ha with ha | ha
      . exact h2 a ha
      . rw[List.mem_singleton.1 ha];exact hw.2) h
     exact⟨g1,g2,⟨w.1::e,by rw[g3];simp⟩,w.2::e',by rw[g4];simp⟩
def fresh(out:List Zl)(i:Nat)(s:List UInt8):Prop:=∀ w,out.getLast?=some w->w.At+w.Text.length≤i∧∀ c r,s=c::r->w.At+w.Text.length=(i:Int)->goC w.Kind c.toNat=false
def FKs(k:Nat)(l:List Qe):Prop:=∀ f∈l,Fk k (tF f)
structure SchWr(k:Nat)(s:Ja):Prop where
 a:∀ r∈s.A,FKs k r
 al:∀ r∈s.A,r.length≤1000000
 b:FKs k s.B
 bl:s.B.length≤1000000
 c:FKs k s.C
 cl:s.C.length≤1000000
 e:FKs k s.E
 el:s.E.length≤1000000
 nl:s.Name.length≤1000000
structure PrbWr(k:Nat)(p:Q4):Prop where
 t:∀ x∈p.Tape.Code,Fk k (tF x.N)
 o:p.Tape.Outs.length≤1000000
 s:SchWr k p.Scheme
 pk:FKs k p.P
 pl:p.P.length≤1000000
theorem Qts{lim:Int}:∀ {l:List Rat}{i:Nat},fitQ lim l i=none->∀ q∈l,(qz q:Int)≤lim
 | [],_,_,q,hq=>by cases hq
 | x::l,i,h,q,hq=>by
   simp only[fitQ] at h
   split at h
   . rename_i hx
     rcases List.mem_cons.1 hq with rfl | hq
     . exact hx
     . exact Qts h q hq
   . cases h
theorem Qxh{lim:Int}{l:List Rat}(hlim:lim≤4096)(h:fitQ lim l 0=none):QR 129 l:=λq hq=>by
 have h1:=Qts h q hq
 have h2:=qw_qz (q:=q) (b:=4096) (by omega)
 omega
theorem Qmu{p:Ql}{T H:Rat}{Y:List Rat}{z:MadeQ}(h:stepQ p T H Y=.inr z):prbR p∧(Y.length:Int)=p.Tape.Dim∧QR 129 z.next∧z.next.length=Y.length∧QR 129 z.err:=by
 unfold stepQ at h
 by_cases hc:prbR p∧(Y.length:Int)=p.Tape.Dim
 case neg=>rw[if_neg hc] at h;cases h
 rw[if_pos hc] at h
 refine⟨hc.1,hc.2,?_⟩
 have hdim:=hc.1.1.1
 unfold doQ at h
 cases hz:stagesQ p.Tape (limQ p.Bits) T H Y (rv p.P) (List.zip (p.Scheme.A.map rv) (rv p.Scheme.C)) 0 [] [] with
 | inl e=>rw[hz] at h;cases h
 | inr w=>
   rw[hz] at h
   simp only[] at h
   obtain⟨g1,g2,g3,g4⟩:=Qtr (m:=Y.length) (by unfold limQ;omega) (by have:=hdim.2.2.1;omega) rfl (λ_ h=>by cases h) (λ_ h=>by cases h) hz
   unfold endQ at h
   have hlim:limQ p.Bits≤4096:=by unfold limQ;omega
   split at h
   . cases h
   . rename_i hf
     split at h
     . cases h
     . rename_i hf2
       cases h
       exact⟨Qxh hlim hf,Qms g1,Qxh hlim hf2⟩
structure TryQ where
 T:Rat
 H:Rat
 Err:Rat
 Y:List Rat
def toTry(t:TryQ):Qm:=⟨toF t.T,toF t.H,toF t.H,toF t.Err,toR t.Y,true⟩
def noH:Qi:=⟨[],⟨⟨false,[]⟩,[]⟩,[]⟩
def posQ(hs:List Rat):Prop:=(∀ h∈hs,0<h.num.sign)∧hs.length≤200
theorem Qsx{n k:Nat}{hs:List Qa}(hn:big≤n)(h1:1≤k)(hk:k<1048576)(hh:FR k hs):Qe3 n hs=some (dP (posQ (rv hs))):=by
 classical
 unfold Qe3
 rw[Wp (λ_ (x:Qa)=>0<(fv x).num.sign) (r:=false),Z6]
 . have e:(∀ a∈hs,0<(fv a).num.sign)↔∀ h∈rv hs,0<h.num.sign:=by
    constructor
    . intro g h hm
      obtain⟨x,hx,rfl⟩:=List.mem_map.1 hm
      exact g x hx
    . intro g x hx;exact g (fv x) (List.mem_map_of_mem hx)
   by_cases g:∀ a∈hs,0<(fv a).num.sign
   . rw[if_pos g];exact Y5 ⟨λh=>⟨e.1 g,by rw[Vn];omega⟩,λh=>by have:=h.2;rw[Vn] at this;omega⟩
   . rw[if_neg g,dP_f λh=>g (e.2 h.1)]
 . intro i x hx
   rw[Vx hn h1 (by omega) (hh x (Q6 hx)),sbind]
   constructor
   . intro h;rw[decide_eq_false (by omega)];rfl
   . intro h;rw[decide_eq_true (by omega)];rfl
theorem Qi1{l:List Rat}:scaleQ 1 l=l:=by
 unfold scaleQ
 conv=>rhs;rw[←List.map_id l]
 exact List.map_congr_left λq _=>by show 1*q=q;grind
theorem Qn5{k:Nat}{l:List Rat}(h1:1≤k)(h:QR k l):qw (normQ l)≤k:=by
 have key:∀(l:List Rat) (b:Rat),QR k l->qw b≤k->qw (l.foldl (λb x=>maxQ b (absQ x)) b)≤k:=by
  intro l
  induction l with
  | nil=>intro b _ hb;exact hb
  | cons x l ih=>intro b hl hb;exact ih _ (λq hq=>hl q (.tail _ hq)) (Qz3 hb (by rw[Qwa];exact hl x (.head _)))
 exact key l 0 h (by rw[Qdl];exact h1)
theorem Qju:qw 1=1:=by
 unfold qw;rw[show(1:Rat).num=1 from rfl,show(1:Rat).den=1 from rfl,show(1:Int).natAbs=1 from rfl,toL1];rfl
set_option maxRecDepth 100000
theorem Fk_tF{k:Nat}{x:Qe}(hB:Jb x)(h:x.N.length≤k∧x.D.length≤k):Fk k (tF x):=⟨hB.2.1.2,h.1,hB.2.2.1.2,h.2⟩
theorem FR_tF{many k:Nat}{l:List Qe}(hB:J0 l)(h:FL many k l):FR k (l.map tF):=λx hx=>by
 obtain⟨y,hy,rfl⟩:=List.mem_map.1 hx
 exact Fk_tF (hB.2 y hy) (h.2 y hy)
theorem Q2e{a b k:Nat}{p:Q4}{bits:Int}(hB:W7 p)(hk:k≤129)
 (h:(p.Tape.Code.length≤a∧p.Tape.Outs.length≤a∧∀ c∈p.Tape.Code,c.N.N.length≤k∧c.N.D.length≤k)∧(p.Scheme.Name.length≤50∧p.Scheme.A.length≤b∧FL b 4 p.Scheme.B∧FL b 4 p.Scheme.C∧FL b 4 p.Scheme.E∧∀ r∈p.Scheme.A,FL b 4 r)∧FL 6 k p.P) :
 PrbW 129 ⟨tT p.Tape,tS p.Scheme,p.P.map tF,bits⟩:=by
 obtain⟨bt,bs,bp,_⟩:=hB
 obtain⟨⟨t1,t2,t3⟩,⟨s1,s2,s3,s4,s5,s6⟩,p1⟩:=h
 refine⟨λc hc=>?_,bt.2.2.1,⟨λr hr=>?_,Y7 (FR_tF bs.2.2.2.1 s3) (by omega),Y7 (FR_tF bs.2.1 s4) (by omega),Y7 (FR_tF bs.2.2.2.2.1 s5) (by omega),by show p.Scheme.Name.length≤_;omega⟩,Y7 (FR_tF bp p1) hk⟩
 . obtain⟨d,hd,rfl⟩:=List.mem_map.1 hc
   exact J9 (Fk_tF (bt.1.2 d hd).2.2.2.1 (t3 d hd)) hk
 . obtain⟨d,hd,rfl⟩:=List.mem_map.1 hr
   exact Y7 (FR_tF (bs.2.2.1.2 d hd) (s6 d hd)) (by omega)
theorem PrbW.mono{j k:Nat}{p:Ql}(h:PrbW j p)(hk:j≤k):PrbW k p:=
 ⟨λc hc=>J9 (h.t c hc) hk,h.d,⟨λr hr=>Y7 (h.s.a r hr) hk,Y7 h.s.b hk,Y7 h.s.c hk,Y7 h.s.e hk,h.s.n⟩,Y7 h.p hk⟩
set_option maxRecDepth 100000
theorem Qym{t:Q2}{lim:Int}{T H:Rat}{Y P a:List Rat}{c:Rat}{i:Nat}{kss:List (List Rat)}{f}(h:stageQ t lim T H Y P a c i kss=.inl f):f.Kind≠0:=by
 unfold stageQ at h
 split at h
 . cases h;show(6:Int)≠0;decide
 . cases hf:fieldQ t lim (T+H*c) (fromQ H Y a kss) P with
   | inl e=>rw[hf] at h;cases h;have:=Qpf hf;show e.1≠0;omega
   | inr k=>rw[hf] at h;cases h
theorem Qph{t:Q2}{lim:Int}{T H:Rat}{Y P:List Rat}:∀ {r:List (List Rat×Rat)}{i:Nat}{yss kss:List (List Rat)}{f},stagesQ t lim T H Y P r i yss kss=.inl f->f.Kind≠0
 | [],i,yss,kss,f,h=>by simp only[stagesQ] at h;cases h
 | x::r,i,yss,kss,f,h=>by
   simp only[stagesQ] at h
   cases hs:stageQ t lim T H Y P x.1 x.2 i kss with
   | inl g=>rw[hs] at h;cases h;exact Qym hs
   | inr w=>rw[hs] at h;exact Qph h
theorem Q06{t:Q2}{s:Qr}{lim:Int}{T H:Rat}{Y P:List Rat}{f}(h:doQ t s lim T H Y P=.inl f):f.Kind≠0:=by
 unfold doQ at h
 cases hst:stagesQ t lim T H Y P (List.zip (s.A.map rv) (rv s.C)) 0 [] [] with
 | inl g=>rw[hst] at h;cases h;exact Qph hst
 | inr z=>
   rw[hst] at h
   simp only[] at h
   unfold endQ at h
   split at h
   . cases h;show(6:Int)≠0;decide
   . split at h
     . cases h;show(6:Int)≠0;decide
     . cases h
theorem PrbWr.mono{j k:Nat}{p:Q4}(h:PrbWr j p)(hk:j≤k):PrbWr k p:=
 ⟨λx hx=>J9 (h.t x hx) hk,h.o,⟨λr hr f hf=>J9 (h.s.a r hr f hf) hk,h.s.al,λf hf=>J9 (h.s.b f hf) hk,h.s.bl,λf hf=>J9 (h.s.c f hf) hk,h.s.cl,λf hf=>J9 (h.s.e f hf) hk,h.s.el,h.s.nl⟩,λf hf=>J9 (h.pk f hf) hk,h.pl⟩
set_option maxRecDepth 100000
def TQ(k m:Nat)(t:TryQ):Prop:=qw t.T≤k∧qw t.H≤k∧qw t.Err≤k∧QR k t.Y∧t.Y.length=m
set_option maxRecDepth 100000
set_option maxRecDepth 100000
def tTry(t:Jw):Qm:=⟨tF t.T,tF t.Want,tF t.H,tF t.Err,t.Y.map tF,t.Ok⟩
def tHis(h:Jq):Qi:=⟨h.Tries.map tTry,tF h.T,h.Y.map tF⟩
theorem Qul{n:Nat}{h:Jq}(hn:big≤n)(h1:h.Tries.length≤1000000)(h2:h.Y.length≤1000000)(h3:∀ t∈h.Tries,t.Y.length≤1000000):Yy n h=some (tHis h):=by
 unfold Yy Jc
 rw[sbind,Zb hn h2,sbind]
 rw[Qfh (λi=>((h.Tries.take i).map tTry,(i:Int))) h.Tries.length (h.Tries.map tTry)]
 . rfl
 . intro i hi
   have hp:h.Tries[i]?=some h.Tries[i]:=List.getElem?_eq_getElem hi
   have hy:=h3 h.Tries[i] (List.getElem_mem hi)
   generalize h.Tries[i]=t at hp hy
   rw[decide_eq_true (show(i:Int)<(h.Tries.length:Int) by omega),bifT,Ku hp,sbind,sbind,sbind,sbind,sbind,Zb hn hy,sbind,V7 (by simp;omega) (by simp;omega),sbind,w1 (by omega),Wz tTry hp];rfl
 . rw[decide_eq_false (by omega),bifF,List.take_length]
 . unfold big at hn;omega
 . rfl
def okT(l:List Qm):List Qm:=l.filter (·.Ok)
def nT(t:Qm):Qm:=⟨toF (fv t.T),toF (fv t.Want),toF (fv t.H),toF (fv t.Err),toR (rv t.Y),true⟩
def FT(k:Nat)(t:Qm):Prop:=FR k [t.T,t.Want,t.H,t.Err]∧FR k t.Y∧t.Y.length≤1000000
theorem Qcy{n k:Nat}{l:List Qa}(hn:big≤n)(h1:1≤k)(hk:k<1099511627776)(h:FR k l)(hl:l.length≤1000000):Z3 n l=some (toR (rv l)):=by
 unfold Z3
 rw[Z5 hn,sbind,Yj (k:=k) hn h1 hk (Qz (by rw[Qju];exact h1)) h hl,sbind,Qt,Qi1]
theorem Qre(l:List Qm):(okT l).length≤l.length:=List.length_filter_le _ _
theorem Qbo{n k:Nat}{h:Qi}(hn:big≤n)(h1:1≤k)(hk:k<1099511627776)(hl:h.Tries.length≤1000000)(ht:∀ t∈h.Tries,FT k t):Z0 n h=some ((okT h.Tries).map nT):=by
 unfold Z0
 rw[Za (λi=>(okT (h.Tries.take i)).map nT) h.Tries]
 . rw[List.take_length];rfl
 . intro i x hx
   obtain⟨g1,g2,g3⟩:=ht x (Q6 hx)
   have hi:=J7 hx
   have hle:=Qre (h.Tries.take i)
   rw[List.length_take] at hle
   rw[Qkl hx]
   have ea:okT (h.Tries.take i++[x])=okT (h.Tries.take i)++okT [x]:=List.filter_append _ _
   rw[ea,List.map_append]
   cases ho:x.Ok
   . rw[bifF,show okT [x]=[] from by unfold okT;simp[ho],List.map_nil,List.append_nil]
   . rw[bifT,show okT [x]=[x] from by unfold okT;simp[ho]]
     unfold Vc
     rw[sbind,Qcy hn h1 hk g1 (by simp),sbind,show getI (toR (rv [x.T,x.Want,x.H,x.Err])) 0=some (toF (fv x.T)) from rfl,sbind,show getI (toR (rv [x.T,x.Want,x.H,x.Err])) 1=some (toF (fv x.Want)) from rfl,sbind,show getI (toR (rv [x.T,x.Want,x.H,x.Err])) 2=some (toF (fv x.H)) from rfl,sbind,show getI (toR (rv [x.T,x.Want,x.H,x.Err])) 3=some (toF (fv x.Err)) from rfl,sbind,Qcy hn h1 hk g2 g3,sbind,V7 (by simp;omega) (by simp;omega),sbind]
     rfl
 . rfl
def begT(h:Qi):Rat:=match okT h.Tries with | []=>fv h.T | t::_=>fv t.T
def begY(h:Qi):List Rat:=match okT h.Tries with | []=>rv h.Y | t::_=>rv t.Y
def szs(h:Qi):List Rat:=(okT h.Tries).map (fv ·.H)
theorem Qo3{n k:Nat}{p:Ql}{h:Qi}(hn:big≤n)(h1:1≤k)(hk:k<1099511627776)(hl:h.Tries.length≤1000000)(ht:∀ t∈h.Tries,FT k t)(hT:Fk k h.T)(hY:FR k h.Y)(hYl:h.Y.length≤1000000):
 Qao n p h=Z4 n p (toF (begT h)) (toR (begY h)) (toR (szs h)):=by
 have hle:=Qre h.Tries
 have eN:Xe n h=some (((okT h.Tries).map nT).map (·.T)++[toF (fv h.T)],((okT h.Tries).map nT).map (·.Y)++[toR (rv h.Y)]):=by
  unfold Xe
  rw[Qbo hn h1 hk hl ht,sbind]
  generalize hA:(okT h.Tries).map nT=A
  have hAl:A.length≤1000000:=by rw[←hA,List.length_map];omega
  rw[Za (λi=>((A.take i).map (·.T),(A.take i).map (·.Y))) A]
  . rw[List.take_length]
    show((Jg n h.T).bind _)=_
    rw[Jj hn (Fk_Fw hT (by omega)),sbind,V7 (by simp;omega) (by simp;omega),sbind,Qcy hn h1 hk hY hYl,sbind,V7 (by simp;omega) (by simp;omega),sbind]
  . intro i x hx
    have hi:=J7 hx
    rw[V7 (by simp;omega) (by simp;omega),sbind,V7 (by simp;omega) (by simp;omega),sbind,Wz (·.T) hx,Wz (·.Y) hx]
  . rfl
 have eS:Zy n h=some (toR (szs h)):=by
  unfold Zy
  rw[Qbo hn h1 hk hl ht,sbind]
  have e:toR (szs h)=((okT h.Tries).map nT).map (·.H):=by unfold toR szs;rw[List.map_map,List.map_map];rfl
  rw[e]
  generalize hA:(okT h.Tries).map nT=A
  have hAl:A.length≤1000000:=by rw[←hA,List.length_map];omega
  rw[Za (λi=>(A.take i).map (·.H)) A]
  . rw[List.take_length];rfl
  . intro i x hx
    have hi:=J7 hx
    rw[V7 (by simp;omega) (by simp;omega),sbind,Wz (·.H) hx]
  . rfl
 unfold Qao
 rw[eN,sbind,eS]
 have e1:getI (((okT h.Tries).map nT).map (·.T)++[toF (fv h.T)]) 0=some (toF (begT h)):=by
  unfold begT
  cases okT h.Tries with
  | nil=>rfl
  | cons t l=>exact Ku (i:=0) rfl
 have e2:getI (((okT h.Tries).map nT).map (·.Y)++[toR (rv h.Y)]) 0=some (toR (begY h)):=by
  unfold begY
  cases okT h.Tries with
  | nil=>rfl
  | cons t l=>exact Ku (i:=0) rfl
 rw[e1,sbind,e2,sbind,sbind]
 cases Z4 n p (toF (begT h)) (toR (begY h)) (toR (szs h))<;>rfl
set_option maxRecDepth 100000
theorem Q2f(q:Rat):0≤(absQ q).num:=by
 unfold absQ
 split
 . show 0≤-q.num;omega
 . omega
theorem Q07(l:List Rat):0≤(normQ l).num:=by
 have key:∀(l:List Rat) (b:Rat),0≤b.num->0≤(l.foldl (λb x=>maxQ b (absQ x)) b).num:=by
  intro l
  induction l with
  | nil=>intro b hb;exact hb
  | cons x l ih=>
    intro b hb
    refine ih _ ?_
    show 0≤(maxQ b (absQ x)).num
    unfold maxQ
    split
    . exact Q2f x
    . exact hb
 exact key l 0 (Int.le_refl _)
theorem Qeb{α R:Type}{f:Nat->α->Unit->Option (Lp Unit R)}{K:Unit->Option R}(xs:List α)(hb:∀ i x,xs[i]?=some x->f i x ()=some (.go ())):(rangeL f xs 0 ()).bind (lpK K)=K ():=Za (λ_=>()) xs hb rfl
theorem Qrf{n k:Nat}(hn:big≤n)(hk:k<1099511627776){l:List (List Rat)}(h:∀ r∈l,QR k r):X8 n (l.map toR)=some true:=by
 classical
 unfold X8
 rw[Qeb]
 intro i r hr
 obtain⟨q,hq,rfl⟩:=List.mem_map.1 (Q6 hr)
 rw[Qeb]
 intro j x hx
 obtain⟨y,hy,rfl⟩:=List.mem_map.1 (Q6 hx)
 rw[Qdq hn (Fk_Fw (Qz (h q hq y hy)) (by omega)),sbind,Qt]
 simp
def mH(tr:List TryQ)(T:Rat)(Y:List Rat):Qi:=⟨tr.map toTry,toF T,toR Y⟩
theorem Q2g{k m:Nat}{t:TryQ}(h:TQ k m t):QR k [t.T,t.H,t.H,t.Err]:=λq hq=>by
 rcases List.mem_cons.1 hq with rfl | hq
 . exact h.1
 rcases List.mem_cons.1 hq with rfl | hq
 . exact h.2.1
 rcases List.mem_cons.1 hq with rfl | hq
 . exact h.2.1
 rw[List.mem_singleton.1 hq];exact h.2.2.1
theorem Qz7(tr:List TryQ):okT (tr.map toTry)=tr.map toTry:=by
 unfold okT
 rw[List.filter_eq_self]
 intro x hx
 obtain⟨t,_,rfl⟩:=List.mem_map.1 hx
 rfl
set_option maxRecDepth 100000
set_option maxRecDepth 100000
theorem fl_eq{z q d:Int}(h0:0<d)(h1:q*d≤z)(h2:z<q*d+d):z / d=q:=by
 apply Int.le_antisymm
 . have:z / d<q+1:=(Int.ediv_lt_iff_lt_mul h0).2 (by rw[Int.add_mul,Int.one_mul];exact h2)
   omega
 . exact(Int.le_ediv_iff_mul_le h0).2 h1
theorem Q08(s:Bool)(x d:Nat)(hd:0<d)(z v:Int)(hz:z=if s=true then -((x / d:Nat):Int) else ((x / d:Nat):Int))(hv:v=if s=true then -(x:Int) else (x:Int)):
 z.natAbs≤x∧(z*(d:Int)).natAbs≤x∧(v - z*(d:Int)).natAbs≤x∧(v - z*(d:Int)<0->v / (d:Int)=z - 1)∧(0≤v - z*(d:Int)->v / (d:Int)=z):=by
 have hq:=Nat.div_mul_le_self x d
 have hq2:x<x / d*d+d:=Nat.lt_div_mul_add hd
 have hle:=Nat.div_le_self x d
 generalize x / d=q at *
 have e1:z*(d:Int)=if s=true then -((q*d:Nat):Int) else ((q*d:Nat):Int):=by
  rw[hz];cases s
  . rw[if_neg (by decide),if_neg (by decide),Int.natCast_mul]
  . rw[if_pos rfl,if_pos rfl,Int.natCast_mul,Int.neg_mul]
 have k1:v - z*(d:Int)<0->v / (d:Int)=z - 1:=λh=>fl_eq (by omega) (by
  rw[Int.sub_mul,Int.one_mul];rw[e1] at h ⊢;rw[hv] at h ⊢
  cases s
  . rw[if_neg (by decide),if_neg (by decide)] at h;omega
  . rw[if_pos rfl,if_pos rfl];omega) (by rw[Int.sub_mul,Int.one_mul];omega)
 have k2:0≤v - z*(d:Int)->v / (d:Int)=z:=λh=>fl_eq (by omega) (by omega) (by
  rw[e1] at h ⊢;rw[hv] at h ⊢
  cases s
  . rw[if_neg (by decide),if_neg (by decide)];omega
  . rw[if_pos rfl,if_pos rfl] at h ⊢;omega)
 refine⟨?_,?_,?_,k1,k2⟩
 . rw[hz];cases s
   . rw[if_neg (by decide)];omega
   . rw[if_pos rfl];omega
 . rw[e1];cases s
   . rw[if_neg (by decide)];omega
   . rw[if_pos rfl];omega
 . rw[e1,hv];cases s
   . rw[if_neg (by decide),if_neg (by decide)];omega
   . rw[if_pos rfl,if_pos rfl];omega
theorem Qwd{z:Int}{a:Qd}(ha:Ww a)(h:z.natAbs≤val a.Abs):Ww (toW z):=⟨Zg _,by
 show(toL z.natAbs).length<_
 exact Nat.lt_of_le_of_lt (Nat.le_trans (Vp h) (Jo ha.1)) ha.2⟩
theorem Qp1{n:Nat}{a:Qd}{d:List Nat}(hn:big≤n)(ha:Ww a)(hd:Wd d)(hl:d.length<4398046511104)(h0:val d≠0):∃ r,Qc4 n a ⟨false,d⟩=some (toW (wv a / (val d:Int)),r):=by
 unfold Qc4
 simp only[jn_eq]
 have l1:=ha.2
 have hb:Ww ⟨false,d⟩:=⟨hd,hl⟩
 rw[Qdb hn l1 hl ha.1 hd,if_neg h0,sbind]
 simp only[]
 rw[Bool.not_true,bifF,Wc,sbind]
 have vb:wv (⟨false,d⟩:Qd)=(val d:Int):=rfl
 have hs:(a.Neg != false)=a.Neg:=by cases a.Neg<;>rfl
 rw[hs]
 obtain⟨g1,g2,g3,g4,g5⟩:=Q08 a.Neg (val a.Abs) (val d) (by omega) _ (wv a) rfl rfl
 have hdp:(0:Int)<(val d:Int):=by omega
 generalize (if a.Neg=true then -((val a.Abs / val d:Nat):Int) else ((val a.Abs / val d:Nat):Int))=z at *
 have wz:=Qwd ha g1
 have wm:=Qwd ha g2
 have wr:=Qwd ha g3
 have tri:∀ x:Int,-1≤x.sign∧x.sign≤1:=λx=>by
  rcases Int.lt_trichotomy x 0 with h | h | h
  . rw[Int.sign_eq_neg_one_of_neg h];omega
  . rw[h];decide
  . rw[Int.sign_eq_one_of_pos h];omega
 have tr:=tri (wv a - z*(val d:Int))
 rw[Qg9 hn wz hb,sbind,Xs,vb,Qen hn ha wm,sbind,Xs,Qbl hn wr,sbind,Qbl hn hb,sbind,Xs,vb,Int.sign_eq_one_of_pos hdp,Int.mul_one,w64 (by omega) (by omega)]
 by_cases hneg:(wv a - z*(val d:Int)).sign<0
 . rw[decide_eq_true hneg,bifT,Qif hn (by decide) (by decide),sbind,Qen hn wz ⟨Zg _,by show(toL 1).length<_;rw[toL1];decide⟩,sbind,Xs,Xs,Qha hn wr hb,sbind,g4 (Int.sign_neg_iff.1 hneg)]
   exact⟨_,rfl⟩
 . rw[decide_eq_false hneg,bifF,g5 (Int.not_lt.1 λh=>hneg (Int.sign_neg_iff.2 h))]
   exact⟨_,rfl⟩
def floorQ(q:Rat):Int:=q.num / (q.den:Int)
theorem Q09{z:Int}{d:Nat}(hd:d≠0):floorQ (mkRat z d)=z / (d:Int):=by
 obtain⟨e1,e2⟩:=Qa7 (z:=z) hd
 unfold floorQ
 rw[e1,e2]
 have g1:(Nat.gcd z.natAbs d:Int) ∣ z:=Int.dvd_natAbs.1 (Int.natCast_dvd_natCast.2 (Nat.gcd_dvd_left _ _))
 have g2:Nat.gcd z.natAbs d ∣ d:=Nat.gcd_dvd_right _ _
 have gp:0<Nat.gcd z.natAbs d:=Nat.gcd_pos_of_pos_right _ (by omega)
 generalize Nat.gcd z.natAbs d=g at *
 obtain⟨x,rfl⟩:=g1
 obtain⟨y,rfl⟩:=g2
 rw[Int.mul_ediv_cancel_left _ (by omega),Nat.mul_div_cancel_left _ gp,Int.natCast_mul,Int.mul_ediv_mul_of_pos _ _ (by omega)]
theorem Qrg{n k:Nat}{f:Qa}(hn:big≤n)(h1:1≤k)(hk:k<1099511627776)(hf:Fk k f):Qd4 n f=some (toW (floorQ (fv f))):=by
 obtain⟨w,d,e1,e2,e3,e4,e5,e6,e7⟩:=Qa8 hn hf h1 (by omega)
 unfold Qd4
 obtain⟨r,hr⟩:=Qp1 hn (a:=w) (d:=d) ⟨e2,by omega⟩ e4 (by omega) e6
 rw[e1,sbind,hr,sbind,←e7,Q09 e6]
theorem Qum{n:Nat}{w:Qd}{d:List Nat}(hn:big≤n)(hw:Ww w)(hd:Wd d)(hl:d.length<4398046511104)(h0:val d≠0):Qbi n w d=some (toF (mkRat (wv w) (val d)),true):=by
 unfold Qbi
 rw[Qib hn (by omega) hd,sbind,decide_eq_false h0,bifF,Zk hn hw hd hl h0,sbind]
set_option maxRecDepth 100000
def fracsR(r:Qw):Prop:=∀ x∈[r.Tol,r.Safe,r.Low,r.High,r.Least],numR x
structure RulR(r:Qw):Prop where
 f:fracsR r
 tol:0≤(fv r.Tol).num.sign
 safe:0<(fv r.Safe).num.sign
 safe1:(fv r.Safe - 1).num.sign≤0
 low:0<(fv r.Low).num.sign
 low1:(fv r.Low - 1).num.sign<0
 high:0≤(fv r.High - 1).num.sign
 least:0<(fv r.Least).num.sign
 fine:1≤r.Fine∧r.Fine≤1024
 most:1≤r.Most∧r.Most≤200
def RulW(k:Nat)(r:Qw):Prop:=FR k [r.Tol,r.Safe,r.Low,r.High,r.Least]
theorem RulW.all{k:Nat}{r:Qw}(h:RulW k r):Fk k r.Tol∧Fk k r.Safe∧Fk k r.Low∧Fk k r.High∧Fk k r.Least:=
 ⟨h _ (by simp),h _ (by simp),h _ (by simp),h _ (by simp),h _ (by simp)⟩
theorem Qo4{n k:Nat}{l:List Qa}(hn:big≤n)(hk:k<1048576)(hl:FR k l):Qcg n l=some (dP (∀ x∈l,numR x)):=by
 unfold Qcg
 rw[Wp (λ_ (x:Qa)=>numR x) (r:=false),Z6]
 . by_cases h:∀ x∈l,numR x
   . rw[if_pos h,dP_t h]
   . rw[if_neg h,dP_f h]
 . intro i x hx
   simp only[jn_eq]
   have e:=Qxf hn hk (hl x (Q6 hx))
   have e2:∀(K:Bool->Option (Lp Unit Bool)),((K1 n x).bind λr28=>bif !r28 then K true else (Vf n x).bind λr30=>K (decide ((190:Int)<r30)))=(((K1 n x).bind λr69=>bif !r69 then some true else (Vf n x).bind λr71=>some (decide ((190:Int)<r71))).bind K):=by
    intro K
    cases K1 n x with
    | none=>rfl
    | some v=>
      cases v
      . rfl
      . rw[Option.bind_some,Option.bind_some]
        cases Vf n x<;>rfl
   refine⟨λh=>?_,λh=>?_⟩
   . refine(e2 λs=>bif s then some (Lp.out false) else some (Lp.go ())).trans ?_
     rw[e,dP_t h];rfl
   . refine(e2 λs=>bif s then some (Lp.out false) else some (Lp.go ())).trans ?_
     rw[e,dP_f h];rfl
theorem Qgs{n k:Nat}{f:Qa}(hn:big≤n)(h1:1≤k)(hk:k<1099511627776)(hf:Fk k f):Qas n f=some (decide (0<(fv f).num.sign)):=by
 unfold Qas
 rw[Vx hn h1 hk hf,sbind]
theorem Qrh{n k:Nat}{r:Qw}(hn:big≤n)(h1:1≤k)(hk:k<1048576)(hr:RulW k r):Qd6 n r=some (dP (RulR r)):=by
 obtain⟨w1,w2,w3,w4,w5⟩:=hr.all
 have k1:Fk k (toF 1):=Qz (by rw[Qju];exact h1)
 have hk':k<1099511627776:=by omega
 unfold Qd6 Qgf
 simp only[jn_eq]
 rw[Z5 hn,sbind,Qo4 hn hk hr,sbind,bifnP]
 by_cases c1:∀ x∈[r.Tol,r.Safe,r.Low,r.High,r.Least],numR x
 case neg=>rw[if_neg c1,sbind,dP_f λh=>c1 h.f];rfl
 rw[if_pos c1,Vx hn h1 hk' w1,sbind]
 by_cases c2:(fv r.Tol).num.sign<0
 . rw[decide_eq_true c2,bifT,sbind,dP_f λh=>by have:=h.tol;omega];rfl
 rw[decide_eq_false c2,bifF,Qgs hn h1 hk' w2,sbind]
 by_cases c3:0<(fv r.Safe).num.sign
 case neg=>rw[decide_eq_false c3,Bool.not_false,bifT,bifT,sbind,dP_f λh=>c3 h.safe];rfl
 rw[decide_eq_true c3,Bool.not_true,bifF,K7 (k:=k) hn h1 hk' w2 k1,sbind,Qt]
 by_cases c4:0<(fv r.Safe - 1).num.sign
 . rw[decide_eq_true c4,bifT,sbind,dP_f λh=>by have:=h.safe1;omega];rfl
 rw[decide_eq_false c4,bifF,Qgs hn h1 hk' w3,sbind]
 by_cases c5:0<(fv r.Low).num.sign
 case neg=>rw[decide_eq_false c5,Bool.not_false,bifT,bifT,sbind,dP_f λh=>c5 h.low];rfl
 rw[decide_eq_true c5,Bool.not_true,bifF,K7 (k:=k) hn h1 hk' w3 k1,sbind,Qt]
 by_cases c6:0≤(fv r.Low - 1).num.sign
 . rw[decide_eq_true c6,bifT,sbind,dP_f λh=>by have:=h.low1;omega];rfl
 rw[decide_eq_false c6,bifF,K7 (k:=k) hn h1 hk' w4 k1,sbind,Qt]
 by_cases c7:(fv r.High - 1).num.sign<0
 . rw[decide_eq_true c7,bifT,sbind,dP_f λh=>by have:=h.high;omega];rfl
 rw[decide_eq_false c7,bifF,Qgs hn h1 hk' w5,sbind]
 by_cases c8:0<(fv r.Least).num.sign
 case neg=>rw[decide_eq_false c8,Bool.not_false,bifT,sbind,dP_f λh=>c8 h.least];rfl
 rw[decide_eq_true c8,Bool.not_true,bifF]
 by_cases c9:r.Fine<1
 . rw[decide_eq_true c9,bifT,bifT,sbind,dP_f λh=>by have:=h.fine;omega];rfl
 rw[decide_eq_false c9,bifF]
 by_cases c10:1024<r.Fine
 . rw[decide_eq_true c10,bifT,sbind,dP_f λh=>by have:=h.fine;omega];rfl
 rw[decide_eq_false c10,bifF]
 by_cases c11:r.Most<1
 . rw[decide_eq_true c11,bifT,bifT,sbind,dP_f λh=>by have:=h.most;omega];rfl
 rw[decide_eq_false c11,bifF]
 by_cases c12:200<r.Most
 . rw[decide_eq_true c12,bifT,sbind,dP_f λh=>by have:=h.most;omega];rfl
 rw[decide_eq_false c12,bifF,sbind,dP_t ⟨c1,by omega,c3,by omega,c5,by omega,by omega,c8,by omega,by omega⟩];rfl
def accQ(r:Qw)(e:Rat):Prop:=(e - fv r.Tol).num.sign≤0
def underQ(r:Qw)(w:Rat):Prop:=(w - fv r.Least).num.sign<0
def cutQ(T E W:Rat):Rat:=if 0<(W - (E - T)).num.sign then E - T else W
def downQ(x:Rat)(fine:Int):Rat:=mkRat (floorQ (x*(fine:Rat))) fine.toNat
def factorQ(r:Qw)(e:Rat):Rat:=
 if e=0 then fv r.High else
 if (downQ (fv r.Safe*fv r.Tol / e) r.Fine - fv r.Low).num.sign<0 then fv r.Low else
 if 0<(downQ (fv r.Safe*fv r.Tol / e) r.Fine - fv r.High).num.sign then fv r.High else downQ (fv r.Safe*fv r.Tol / e) r.Fine
theorem Qik{n k:Nat}{r:Qw}{e:Rat}(hn:big≤n)(h1:1≤k)(hk:k<1099511627776)(hr:Fk k r.Tol)(he:qw e≤k):Qam n r (toF e)=some (dP (accQ r e)):=by
 unfold Qam
 rw[K7 hn h1 hk (Qz he) hr,sbind,Qt,decP];rfl
theorem Qgt{n k:Nat}{r:Qw}{e:Rat}(hn:big≤n)(h1:1≤k)(hk:k<1099511627776)(hr:Fk k r.Least)(he:qw e≤k):Yu n r (toF e)=some (dP (underQ r e)):=by
 unfold Yu
 rw[K7 hn h1 hk (Qz he) hr,sbind,Qt,decP];rfl
theorem Qih{n k:Nat}{e:Qa}{T W:Rat}(hn:big≤n)(h1:1≤k)(hk:k<100000000)(hT:qw T≤k)(hE:Fk k e)(hW:qw W≤k):Qei n (toF T) e (toF W)=some (toF (cutQ T (fv e) W)):=by
 unfold Qei cutQ
 have hq:=Qq4 (qw_fv hE h1) hT
 rw[Qie (k:=k) hn h1 (by omega) hE (Qz hT),sbind,Qt,K7 (k:=k+k+1) hn (by omega) (by omega) (Qz (by omega)) (Qz hq),sbind,Qt,Qt]
 by_cases h:0<(W - (fv e - T)).num.sign
 . rw[decide_eq_true h,if_pos h];rfl
 . rw[decide_eq_false h,if_neg h,bifF,Jj hn (Fk_Fw (Qz hW) (by omega)),sbind,Qt]
theorem Qxi{z:Int}{k:Nat}(h1:1≤k)(h:(toL z.natAbs).length≤k):qw (z:Rat)≤k:=by
 unfold qw
 rw[show((z:Rat)).num=z from rfl,show((z:Rat)).den=1 from rfl,toL1];omega
theorem Qmv{fine:Int}(h:1≤fine∧fine≤1024):(toL fine.natAbs).length≤1:=Y3 (n:=fine.natAbs) (k:=1) (by rw[Vw,Zj];omega)
theorem Qtt(q:Rat):(floorQ q).natAbs≤q.num.natAbs:=by
 unfold floorQ
 exact Int.natAbs_ediv_le_natAbs _ _
theorem Qsy{n k:Nat}{x:Rat}{fine:Int}(hn:big≤n)(h1:1≤k)(hk:k<100000000)(hx:qw x≤k)(hf:1≤fine∧fine≤1024):Qe2 n (toF x) fine=some (toF (downQ x fine)):=by
 unfold Qe2 downQ
 have hq:qw (fine:Rat)≤1:=Qxi (by omega) (Qmv hf)
 have hm:=Qaz hx hq
 rw[Qgq hn (by omega) (by omega),sbind,Y9 (k:=k) hn h1 (by omega) (Qz hx) (Qz (by omega)),sbind,Qt,Qt,Qrg (k:=k+1) hn (by omega) (by omega) (Qz hm),sbind,Qt,Qif hn (by omega) (by omega),sbind]
 have hfl:(toL (floorQ (x*(fine:Rat))).natAbs).length≤k+1:=Nat.le_trans (Vp (Qtt _)) (Nat.le_trans (Qhy _) hm)
 have hv:val (toW fine).Abs=fine.toNat:=by
  show val (toL fine.natAbs)=_
  rw[Jd];omega
 rw[Qum hn (w:=toW (floorQ (x*(fine:Rat)))) (d:=(toW fine).Abs) ⟨Zg _,by show(toL (floorQ (x*(fine:Rat))).natAbs).length<_;omega⟩ (Zg _) (by show(toL fine.natAbs).length<_;have:=Qmv hf;omega) (by rw[hv];omega),sbind,Xs,hv]
theorem Q2h{x:Rat}{fine:Int}{k:Nat}(hx:qw x≤k)(hf:1≤fine∧fine≤1024):qw (downQ x fine)≤k+1:=by
 unfold downQ
 have hq:qw (fine:Rat)≤1:=Qxi (by omega) (Qmv hf)
 have hm:=Qaz hx hq
 refine Qmp (by omega) (Nat.le_trans (Vp (Qtt _)) (Nat.le_trans (Qhy _) hm)) ?_
 have:=Qmv hf
 rw[show fine.toNat=fine.natAbs by omega];omega
theorem Qjv{n k:Nat}{r:Qw}{e:Rat}(hn:big≤n)(h1:1≤k)(hk:k<1000000)(hr:RulW k r)(hf:1≤r.Fine∧r.Fine≤1024)(he:qw e≤k):Qc5 n r (toF e)=some (toF (factorQ r e)):=by
 obtain⟨w1,w2,w3,w4,w5⟩:=hr.all
 have hm:=Qaz (qw_fv w2 h1) (qw_fv w1 h1)
 have hd:=Qzy hm he
 have hdn:=Q2h hd hf
 unfold Qc5 factorQ
 rw[Y9 (k:=k) hn h1 (by omega) w2 w1,sbind,Qm6 (k:=k+k) hn (by omega) (by omega) (Qz hm) (Qz (by omega)),sbind,Qt,Qt]
 by_cases h0:e=0
 . rw[if_pos h0,if_pos h0]
   simp only[]
   rw[Bool.not_false,bifT,Jj hn (Fk_Fw w4 (by omega)),sbind]
 rw[if_neg h0,if_neg h0]
 simp only[]
 rw[Bool.not_true,bifF,Qsy (k:=k+k+k) hn (by omega) (by omega) hd hf,sbind,K7 (k:=k+k+k+1) hn (by omega) (by omega) (Qz hdn) (J9 w3 (by omega)),sbind,Qt]
 generalize downQ (fv r.Safe*fv r.Tol / e) r.Fine=x at *
 by_cases g1:(x - fv r.Low).num.sign<0
 . rw[decide_eq_true g1,if_pos g1,bifT,Jj hn (Fk_Fw w3 (by omega)),sbind]
 rw[decide_eq_false g1,if_neg g1,bifF,K7 (k:=k+k+k+1) hn (by omega) (by omega) (Qz hdn) (J9 w4 (by omega)),sbind,Qt]
 by_cases g2:0<(x - fv r.High).num.sign
 . rw[decide_eq_true g2,if_pos g2,bifT,Jj hn (Fk_Fw w4 (by omega)),sbind]
 . rw[decide_eq_false g2,if_neg g2,bifF]
set_option maxRecDepth 100000
theorem sg_lt{a b:Rat}:(a - b).num.sign<0↔a<b:=by
 rw[Int.sign_neg_iff,←Int.not_le,Rat.num_nonneg,←Rat.le_iff_sub_nonneg,Rat.not_le]
theorem sg_gt{a b:Rat}:0<(a - b).num.sign↔b<a:=by
 have e:(a - b).num=-(b - a).num:=by rw[←Qsk,Rat.neg_sub]
 rw[Int.sign_pos_iff,e,←sg_lt,Int.sign_neg_iff];omega
theorem sg_le{a b:Rat}:(a - b).num.sign≤0↔a≤b:=by rw[←Int.not_lt,sg_gt,Rat.not_lt]
theorem sg_ge{a b:Rat}:0≤(a - b).num.sign↔b≤a:=by rw[←Int.not_lt,sg_lt,Rat.not_lt]
theorem Qdc{a:Rat}:0<a.num.sign↔0<a:=by
 have:=@sg_gt a 0
 rwa [show a - 0=a by grind] at this
theorem Qn6{a:Rat}:0≤a.num.sign↔0≤a:=by
 have:=@sg_ge a 0
 rwa [show a - 0=a by grind] at this
theorem Q1a{x h:Rat}{fine:Int}{j:Nat}(hf:1≤fine∧fine≤1024)(h0:0<downQ x fine)(h1:downQ x fine≤h)(hj:qw h≤j):qw (downQ x fine)≤j+1:=by
 have hden:(downQ x fine).den≤1024:=by
  unfold downQ
  rw[(Qa7 (z:=floorQ (x*(fine:Rat))) (d:=fine.toNat) (by omega)).2]
  exact Nat.le_trans (Nat.div_le_self _ _) (by omega)
 generalize downQ x fine=y at *
 have hn:0<y.num:=by
  have:=Qdc.2 h0
  exact Int.sign_pos_iff.1 this
 rw[Rat.le_iff] at h1
 have hd1:(1:Int)≤(h.den:Int):=by have:=h.den_nz;omega
 have a1:y.num≤y.num*(h.den:Int):=by
  have:=Int.mul_le_mul_of_nonneg_left hd1 (Int.le_of_lt hn);rwa [Int.mul_one] at this
 have hpos:0≤h.num:=by
  rcases Int.lt_or_le h.num 0 with g | g
  . have:=Int.mul_neg_of_neg_of_pos g (show(0:Int)<(y.den:Int) by have:=y.den_nz;omega);omega
  . exact g
 have a2:h.num*(y.den:Int)≤h.num*1024:=Int.mul_le_mul_of_nonneg_left (by omega) hpos
 have a3:y.num.natAbs≤h.num.natAbs*1024:=by omega
 have l1:(toL y.num.natAbs).length≤j+1:=by
  refine Nat.le_trans (Vp a3) (Nat.le_trans Qaq ?_)
  have:=Nat.le_trans (Qhy h) hj
  have:(toL 1024).length≤1:=Y3 (n:=1024) (k:=1) (by rw[Vw,Zj];omega)
  omega
 have l2:(toL y.den).length≤1:=Y3 (n:=y.den) (k:=1) (by rw[Vw,Zj];omega)
 unfold qw;omega
theorem Qri{r:Qw}(hr:RulR r)(e:Rat):0<factorQ r e:=by
 have h1:=Qdc.1 hr.low
 have h2:=sg_ge.1 hr.high
 unfold factorQ
 split
 . grind
 . split
   . exact h1
   . rename_i g1
     split
     . grind
     . have g3:=Rat.not_lt.1 (λh=>g1 (sg_lt.2 h));grind
theorem Qiw{r:Qw}(hr:RulR r){j:Nat}(hl:qw (fv r.Low)≤j)(hh:qw (fv r.High)≤j)(e:Rat):qw (factorQ r e)≤j+1:=by
 have h1:=Qdc.1 hr.low
 unfold factorQ
 split
 . omega
 . split
   . omega
   . rename_i g1
     split
     . omega
     . rename_i g2
       have g3:=Rat.not_lt.1 (λh=>g1 (sg_lt.2 h))
       exact Q1a hr.fine (by grind) (Rat.not_lt.1 λh=>g2 (sg_gt.2 h)) hh
structure TryA where
 T:Rat
 Want:Rat
 H:Rat
 Err:Rat
 Y:List Rat
 Ok:Bool
def toTryA(t:TryA):Qm:=⟨toF t.T,toF t.Want,toF t.H,toF t.Err,toR t.Y,t.Ok⟩
noncomputable def tryA(r:Qw)(E T:Rat)(Y:List Rat)(W:Rat)(z:MadeQ):TryA:=⟨T,W,cutQ T E W,normQ z.err,Y,dP (accQ r (normQ z.err))⟩
noncomputable def adaptQ(p:Ql)(r:Qw)(E:Rat):Nat->List TryA->Rat->List Rat->Rat->(List TryA×Rat×List Rat)×Qc
 | 0,tr,T,Y,_=>if T=E then ((tr,T,Y),⟨0,0,0,0⟩) else ((tr,T,Y),⟨5,(tr.length:Int)+1,0,0⟩)
 | m+1,tr,T,Y,W=>if T=E then ((tr,T,Y),⟨0,0,0,0⟩) else
   bif dP (underQ r W) then ((tr,T,Y),⟨4,(tr.length:Int)+1,0,0⟩) else
   match stepQ p T (cutQ T E W) Y with
   | .inl f=>((tr,T,Y),⟨f.Kind,(tr.length:Int)+1,f.Stage,f.At⟩)
   | .inr z=>adaptQ p r E m (tr++[tryA r E T Y W z]) (bif dP (accQ r (normQ z.err)) then T+cutQ T E W else T) (bif dP (accQ r (normQ z.err)) then z.next else Y) (cutQ T E W*factorQ r (normQ z.err))
def gA:Nat->Nat×Nat
 | 0=>(2,2)
 | n+1=>((gA n).1+(gA n).2+1,max ((gA n).1+3) (gA n).2+3)
theorem gA_le:∀ n,n≤12->(gA n).1≤3000∧(gA n).2≤3000:=by decide
theorem Qwe:∀ n,2≤(gA n).1∧2≤(gA n).2
 | 0=>⟨Nat.le_refl _,Nat.le_refl _⟩
 | n+1=>by
   obtain⟨a,b⟩:=Qwe n
   exact⟨by show 2≤(gA n).1+(gA n).2+1;omega,by show 2≤max ((gA n).1+3) (gA n).2+3;omega⟩
theorem Qsz{T E W:Rat}{a b:Nat}(hT:qw T≤a)(hE:qw E≤2)(hW:qw W≤b):qw (cutQ T E W)≤max (a+3) b∧qw (T+cutQ T E W)≤max 2 (a+b+1):=by
 unfold cutQ
 split
 . have:=Qq4 hE hT
   refine⟨by omega,?_⟩
   rw[show T+(E - T)=E by grind];omega
 . have:=Qgp hT hW
   exact⟨by omega,by omega⟩
set_option maxRecDepth 100000
abbrev AdS:=Qy×(List Qm)×Qa×(List Qa)×Qa×Qc
def adBody(n:Nat)(s57:AdS):Option (Lp AdS AdS):=
 (W2 n s57.1 s57.2.1 s57.2.2.1 s57.2.2.2.1 s57.2.2.2.2.1).bind λr58=>
 bif !r58 then (
  jn (λ(j68:(Qy×(List Qm)×Qa×(List Qa)×Qa×Qc×Bool)->Option _)=>
   (Vq n s57.1 s57.2.1 s57.2.2.1 s57.2.2.2.1 s57.2.2.2.2.1).bind λr71=>
   (W3 r71 s57.2.2.2.2.2).bind λr73=>
   bif r73.1 then (
    j68 (s57.1,s57.2.1,s57.2.2.1,s57.2.2.2.1,s57.2.2.2.2.1,r73.2,true))
   else (
    (V6 n s57.1 s57.2.1 s57.2.2.1 s57.2.2.2.1 s57.2.2.2.2.1).bind λr75=>
    (W3 r75.1 r73.2).bind λr77=>
    j68 (r75.2.1,r75.2.2.2.2.2,r75.2.2.1,r75.2.2.2.1,r75.2.2.2.2.1,r77.2,r77.1))) (λ(s70:Qy×(List Qm)×Qa×(List Qa)×Qa×Qc×Bool)=>
   bif s70.2.2.2.2.2.2 then (
    some (Lp.out (s70.1,s70.2.1,s70.2.2.1,s70.2.2.2.1,s70.2.2.2.2.1,s70.2.2.2.2.2.1)))
   else (
    some (Lp.go (s70.1,s70.2.1,s70.2.2.1,s70.2.2.2.1,s70.2.2.2.2.1,s70.2.2.2.2.2.1)))))
 else (
  some (Lp.out (s57.1,s57.2.1,s57.2.2.1,s57.2.2.2.1,s57.2.2.2.2.1,s57.2.2.2.2.2)))
theorem Qz8(n:Nat)(x0:Qy):Zw n x0=(We n x0).bind λr1=>
 bif !r1 then (
  some ((⟨[],(⟨(⟨false,[]⟩:Qd),[]⟩:Qa),[]⟩:Qi),(⟨(2:Int),0,0,0⟩:Qc)))
 else (
  (Jg n x0.Start).bind λr3=>
  (Jx n (1:Int)).bind λr5=>
  (W1 n r5 x0.Y).bind λr7=>
  (Jg n x0.First).bind λr9=>
  (loopM (adBody n) n (x0,([]:List Qm),r3,r7,r9,(⟨0,0,0,0⟩:Qc))).bind λ(t55:AdS)=>
  some ((⟨t55.2.1,t55.2.2.1,t55.2.2.2.1⟩:Qi),t55.2.2.2.2.2)):=Eq.symm (Eq.symm rfl)
structure TskW(k:Qy):Prop where
 p:PrbW 4000 k.Problem
 r:RulW 2 k.Rules
 s:Fk 2 k.Start
 e:Fk 2 k.End
 f:Fk 2 k.First
 y:FR 2 k.Y
def TskR(k:Qy):Prop:=prbR k.Problem∧RulR k.Rules∧(k.Y.length:Int)=k.Problem.Tape.Dim∧fv k.Start≤fv k.End∧0<fv k.First
theorem Yf{n:Nat}{k:Qy}(hn:big≤n)(hw:TskW k):We n k=some (dP (TskR k)):=by
 unfold We TskR
 simp only[jn_eq]
 rw[Qmt hn (by decide) (by decide) hw.p,sbind,bifP]
 by_cases c1:prbR k.Problem
 case neg=>rw[if_neg c1,dP_f λh=>c1 h.1]
 rw[if_pos c1,Qrh hn (by decide) (by decide) hw.r,sbind,bifP]
 by_cases c2:RulR k.Rules
 case neg=>rw[if_neg c2,dP_f λh=>c2 h.2.1]
 rw[if_pos c2]
 by_cases c3:(k.Y.length:Int)=k.Problem.Tape.Dim
 case neg=>rw[decide_eq_false c3,bifF,dP_f λh=>c3 h.2.2.1]
 rw[decide_eq_true c3,bifT,K7 (k:=2) hn (by decide) (by decide) hw.e hw.s,sbind]
 by_cases c4:0≤(fv k.End - fv k.Start).num.sign
 case neg=>rw[decide_eq_false c4,bifF,dP_f λh=>c4 (sg_ge.2 h.2.2.2.1)]
 rw[decide_eq_true c4,bifT,Vx (k:=2) hn (by decide) (by decide) hw.f,sbind]
 by_cases c5:0<(fv k.First).num.sign
 . rw[decide_eq_true c5,dP_t ⟨c1,c2,c3,sg_ge.1 c4,Qdc.1 c5⟩]
 . rw[decide_eq_false c5,dP_f λh=>c5 (Qdc.2 h.2.2.2.2)]
theorem Qtu{f:Qc}(h:f.Kind≠0):Qx f ⟨0,0,0,0⟩=false:=by
 obtain⟨a,b,c,d⟩:=f
 exact Xv h
theorem Q2i{n:Nat}{k:Qy}(hn:big≤n)(hw:TskW k)(hp:prbR k.Problem)(hr:RulR k.Rules):∀(m:Nat) (tr:List TryA) (T:Rat) (Y:List Rat) (W:Rat) (n':Nat),
 ((tr.length+m:Nat):Int)=k.Rules.Most->tr.length+m≤12->m<n'->qw T≤(gA tr.length).1->qw W≤(gA tr.length).2->QR 129 Y->(Y.length:Int)=k.Problem.Tape.Dim →
 ∃ w,loopM (adBody n) n' (k,tr.map toTryA,toF T,toR Y,toF W,⟨0,0,0,0⟩) =
   some (k,(adaptQ k.Problem k.Rules (fv k.End) m tr T Y W).1.1.map toTryA,toF (adaptQ k.Problem k.Rules (fv k.End) m tr T Y W).1.2.1,toR (adaptQ k.Problem k.Rules (fv k.End) m tr T Y W).1.2.2,w,(adaptQ k.Problem k.Rules (fv k.End) m tr T Y W).2):=by
 obtain⟨v1,v2,v3,v4,v5⟩:=hw.r.all
 have hE:qw (fv k.End)≤2:=qw_fv hw.e (by decide)
 have over:∀ {tr:List TryA}{T:Rat}{Y:List Rat}{W:Rat},qw T≤3000->W2 n k (tr.map toTryA) (toF T) (toR Y) (toF W)=some (decide (T=fv k.End)):=λhT=>by
  unfold W2
  rw[Kv (k:=3000) hn (by decide) (by decide) (Qz hT) (J9 hw.e (by decide)),sbind,Qt]
 intro m
 induction m with
 | zero=>
   intro tr T Y W n' hm h12 hn' hT hW hY hYl
   obtain⟨b1,b2⟩:=gA_le tr.length (by omega)
   refine⟨toF W,Qbw ?_ (by omega)⟩
   unfold adBody
   simp only[jn_eq]
   rw[over (by omega),sbind]
   unfold adaptQ
   by_cases hTE:T=fv k.End
   . rw[decide_eq_true hTE,if_pos hTE];rfl
   rw[decide_eq_false hTE,if_neg hTE,Bool.not_false,bifT]
   unfold Vq W3
   rw[List.length_map,decide_eq_true (by omega),bifT,sbind,sbind,w1 (by omega)]
   rw[Xv (by decide)]
   rfl
 | succ m ih=>
   intro tr T Y W n' hm h12 hn' hT hW hY hYl
   obtain⟨b1,b2⟩:=gA_le tr.length (by omega)
   by_cases hTE:T=fv k.End
   . refine⟨toF W,Qbw ?_ (by omega)⟩
     unfold adBody adaptQ
     rw[over (by omega),sbind,decide_eq_true hTE,if_pos hTE];rfl
   by_cases hu:underQ k.Rules W
   . refine⟨toF W,Qbw ?_ (by omega)⟩
     unfold adBody adaptQ
     simp only[jn_eq]
     rw[over (by omega),sbind,decide_eq_false hTE,if_neg hTE,Bool.not_false,bifT,dP_t hu,bifT]
     unfold Vq W3
     rw[List.length_map,decide_eq_false (by omega),bifF,Qgt (k:=3000) hn (by decide) (by decide) (J9 v5 (by decide)) (by omega),sbind,dP_t hu,bifT,sbind,sbind,w1 (by omega),Xv (by decide)]
     rfl
   obtain⟨c1,c2⟩:=Qsz (E:=fv k.End) hT hE hW
   have hst:=Qwe tr.length
   have hcut:qw (cutQ T (fv k.End) W)≤3900:=by omega
   obtain⟨d1,d2⟩:=Qgr (k:=4000) (p:=k.Problem) (t:=toF T) (h:=toF (cutQ T (fv k.End) W)) (y:=toR Y) hn (by decide) (by decide) hw.p (Qz (by omega)) (Qz (by omega)) (Kx (Vh hY (by decide)))
   rw[Qt,Qt,Va] at d1 d2
   have hmay:Vq n k (tr.map toTryA) (toF T) (toR Y) (toF W)=some ⟨0,0,0,0⟩:=by
    unfold Vq
    rw[List.length_map,decide_eq_false (by omega),bifF,Qgt (k:=3000) hn (by decide) (by decide) (J9 v5 (by decide)) (by omega),sbind,dP_f hu,bifF]
   cases hs:stepQ k.Problem T (cutQ T (fv k.End) W) Y with
   | inl f=>
     have hk:=d2 f hs
     refine⟨toF W,Qbw ?_ (by omega)⟩
     unfold adBody adaptQ
     simp only[jn_eq]
     rw[over (by omega),sbind,decide_eq_false hTE,if_neg hTE,Bool.not_false,bifT,hmay,sbind,dP_f hu,bifF]
     unfold V6 W3
     rw[sbind,Wa,Qih (k:=3900) hn (by decide) (by decide) (by omega) (J9 hw.e (by decide)) (by omega),sbind,d1,hs]
     simp only[jn_eq]
     rw[sbind,Qtu hk,List.length_map,w1 (by omega)]
     simp only[Bool.not_true,Bool.not_false,bifT,bifF,sbind]
     rw[Xv hk]
     rfl
   | inr z=>
     obtain⟨_,_,z1,z2,z3⟩:=Qmu hs
     have hne:=Qn5 (k:=129) (l:=z.err) (by decide) z3
     have hfa:=Qiw hr (j:=2) (qw_fv v3 (by decide)) (qw_fv v4 (by decide)) (normQ z.err)
     have hml:=Qaz c1 hfa
     obtain⟨n',rfl⟩:∃ q,n'=q+1:=⟨n' - 1,by omega⟩
     have hlen:(tr++[tryA k.Rules (fv k.End) T Y W z]).length=tr.length+1:=by simp
     have hgo:adBody n (k,tr.map toTryA,toF T,toR Y,toF W,⟨0,0,0,0⟩)=some (Lp.go (k,(tr++[tryA k.Rules (fv k.End) T Y W z]).map toTryA,toF (bif dP (accQ k.Rules (normQ z.err)) then T+cutQ T (fv k.End) W else T),toR (bif dP (accQ k.Rules (normQ z.err)) then z.next else Y),toF (cutQ T (fv k.End) W*factorQ k.Rules (normQ z.err)),⟨0,0,0,0⟩)):=by
      unfold adBody
      simp only[jn_eq]
      rw[over (by omega),sbind,decide_eq_false hTE,Bool.not_false,bifT,hmay,sbind]
      unfold V6 W3
      rw[sbind,Wa,Qih (k:=3900) hn (by decide) (by decide) (by omega) (J9 hw.e (by decide)) (by omega),sbind,d1,hs]
      simp only[jn_eq]
      rw[sbind,Wa]
      simp only[Bool.not_true,bifF]
      rw[show(toM z).Err=toR z.err from rfl,show(toM z).Next=toR z.next from rfl,Qig (k:=129) hn (by decide) (by decide) (Kx z3),sbind,Va,Qik (k:=129) hn (by decide) (by decide) (J9 v1 (by decide)) hne,sbind,V7 (by simp;omega) (by simp;omega),sbind]
      unfold Qdi
      have e1:tr.map toTryA++[(⟨toF T,toF W,toF (cutQ T (fv k.End) W),toF (normQ z.err),toR Y,dP (accQ k.Rules (normQ z.err))⟩:Qm)]=(tr++[tryA k.Rules (fv k.End) T Y W z]).map toTryA:=by rw[List.map_append];rfl
      rw[e1,Wy (k:=3900) hn (by decide) (by decide) (Qz (by omega)) (Qz hcut),Qjv (k:=129) hn (by decide) (by decide) (λx hx=>J9 (hw.r x hx) (by decide)) hr.fine hne,sbind,sbind,Y9 (k:=3900) hn (by decide) (by decide) (Qz hcut) (Qz (by omega)),Qt,Qt,Qt]
      cases dP (accQ k.Rules (normQ z.err))
      . rfl
      . rfl
     rw[Qop hgo]
     have hq:adaptQ k.Problem k.Rules (fv k.End) (m+1) tr T Y W=adaptQ k.Problem k.Rules (fv k.End) m (tr++[tryA k.Rules (fv k.End) T Y W z]) (bif dP (accQ k.Rules (normQ z.err)) then T+cutQ T (fv k.End) W else T) (bif dP (accQ k.Rules (normQ z.err)) then z.next else Y) (cutQ T (fv k.End) W*factorQ k.Rules (normQ z.err)):=by
      conv=>lhs;unfold adaptQ
      rw[if_neg hTE,dP_f hu,bifF,hs]
     rw[hq]
     refine ih _ _ _ _ n' (by rw[hlen];omega) (by rw[hlen];omega) (by omega) ?_ ?_ ?_ ?_
     . rw[hlen]
       show qw _≤(gA tr.length).1+(gA tr.length).2+1
       cases dP (accQ k.Rules (normQ z.err))
       . rw[bifF];omega
       . rw[bifT];omega
     . rw[hlen]
       show qw _≤max ((gA tr.length).1+3) (gA tr.length).2+3
       omega
     . cases dP (accQ k.Rules (normQ z.err))
       . exact hY
       . exact z1
     . cases dP (accQ k.Rules (normQ z.err))
       . exact hYl
       . rw[bifT,z2];exact hYl
theorem Qds{n:Nat}{k:Qy}(hn:big≤n)(hw:TskW k)(hm:RulR k.Rules->k.Rules.Most≤12)(hyl:k.Y.length≤1000):
 Zw n k=some (@ite _ (TskR k) (Classical.propDecidable _) (⟨(adaptQ k.Problem k.Rules (fv k.End) k.Rules.Most.toNat [] (fv k.Start) (rv k.Y) (fv k.First)).1.1.map toTryA,toF (adaptQ k.Problem k.Rules (fv k.End) k.Rules.Most.toNat [] (fv k.Start) (rv k.Y) (fv k.First)).1.2.1,toR (adaptQ k.Problem k.Rules (fv k.End) k.Rules.Most.toNat [] (fv k.Start) (rv k.Y) (fv k.First)).1.2.2⟩,(adaptQ k.Problem k.Rules (fv k.End) k.Rules.Most.toNat [] (fv k.Start) (rv k.Y) (fv k.First)).2) (noH,⟨2,0,0,0⟩)):=by
 rw[Qz8,Yf hn hw,sbind,bifnP]
 by_cases hr:TskR k
 case neg=>rw[if_neg hr,if_neg hr];rfl
 have h12:=hm hr.2.1
 have h1:=hr.2.1.most
 rw[if_pos hr,if_pos hr,Jj hn (Fk_Fw hw.s (by decide)),sbind,Z5 hn,sbind,Yj (k:=2) hn (by decide) (by decide) (Qz (by rw[Qju];decide)) hw.y (by omega),sbind,Qt,Qi1,Jj hn (Fk_Fw hw.f (by decide)),sbind]
 obtain⟨w,hl⟩:=Q2i hn hw hr.1 hr.2.1 k.Rules.Most.toNat [] (fv k.Start) (rv k.Y) (fv k.First) n (by simp;omega) (by simp;omega) (by unfold big at hn;omega) (qw_fv hw.s (by decide)) (qw_fv hw.f (by decide)) (Vh (QR_rv hw.y (by decide)) (by decide)) (by rw[Vn];exact hr.2.2.1)
 rw[List.map_nil] at hl
 rw[hl,sbind]
set_option maxRecDepth 100000
theorem Qtv{p:Ql}{r:Qw}{E:Rat}:∀(m:Nat) (tr:List TryA) (T:Rat) (Y:List Rat) (W:Rat),∃ l,(adaptQ p r E m tr T Y W).1.1=tr++l
 | 0,tr,T,Y,W=>by
   unfold adaptQ
   split<;>exact⟨[],(List.append_nil _).symm⟩
 | m+1,tr,T,Y,W=>by
   unfold adaptQ
   split
   . exact⟨[],(List.append_nil _).symm⟩
   cases dP (underQ r W)
   case true=>exact⟨[],(List.append_nil _).symm⟩
   rw[bifF]
   cases stepQ p T (cutQ T E W) Y with
   | inl f=>exact⟨[],(List.append_nil _).symm⟩
   | inr z=>
     obtain⟨l,hl⟩:=Qtv (p:=p) (r:=r) (E:=E) m (tr++[tryA r E T Y W z]) (bif dP (accQ r (normQ z.err)) then T+cutQ T E W else T) (bif dP (accQ r (normQ z.err)) then z.next else Y) (cutQ T E W*factorQ r (normQ z.err))
     exact⟨[tryA r E T Y W z]++l,by simp only[];rw[hl,List.append_assoc]⟩
theorem Qrj{p:Ql}{r:Qw}{E:Rat}(m2:Nat):∀(m:Nat) (tr:List TryA) (T:Rat) (Y:List Rat) (W:Rat),
 adaptQ p r E (m+m2) tr T Y W=adaptQ p r E m tr T Y W∨((adaptQ p r E m tr T Y W).2.Kind=5∧∃ l,(adaptQ p r E (m+m2) tr T Y W).1.1=(adaptQ p r E m tr T Y W).1.1++l)
 | 0,tr,T,Y,W=>by
   by_cases h:T=E
   . refine .inl ?_
     rw[Nat.zero_add]
     cases m2 with
     | zero=>rfl
     | succ q=>simp only[adaptQ,if_pos h]
   . refine .inr ⟨by simp only[adaptQ,if_neg h],?_⟩
     rw[show(adaptQ p r E 0 tr T Y W).1.1=tr by simp only[adaptQ,if_neg h]]
     exact Qtv _ _ _ _ _
 | m+1,tr,T,Y,W=>by
   rw[show m+1+m2=m+m2+1 by omega]
   by_cases h:T=E
   . exact .inl (by simp only[adaptQ,if_pos h])
   simp only[adaptQ,if_neg h]
   cases dP (underQ r W)
   case true=>exact .inl rfl
   rw[bifF,bifF]
   cases stepQ p T (cutQ T E W) Y with
   | inl f=>exact .inl rfl
   | inr z=>exact Qrj m2 m _ _ _ _
structure TA(K d:Nat)(x:TryA):Prop where
 t:qw x.T≤K
 w:qw x.Want≤K
 h:qw x.H≤K
 e:qw x.Err≤K
 y:QR K x.Y
 l:x.Y.length=d
theorem Qmw{p:Ql}{r:Qw}{E:Rat}{d:Nat}(hr:RulR r)(hl:qw (fv r.Low)≤2)(hh:qw (fv r.High)≤2)(hE:qw E≤2):∀(m:Nat) (tr:List TryA) (T:Rat) (Y:List Rat) (W:Rat),
 tr.length+m≤12->qw T≤(gA tr.length).1->qw W≤(gA tr.length).2->QR 129 Y->Y.length=d->(∀ t∈tr,TA 4000 d t) →
 (∀ t∈(adaptQ p r E m tr T Y W).1.1,TA 4000 d t)∧qw (adaptQ p r E m tr T Y W).1.2.1≤4000∧QR 129 (adaptQ p r E m tr T Y W).1.2.2∧(adaptQ p r E m tr T Y W).1.2.2.length=d∧(adaptQ p r E m tr T Y W).1.1.length≤tr.length+m
 | 0,tr,T,Y,W,h12,hT,hW,hY,hYl,htr=>by
   obtain⟨b1,b2⟩:=gA_le tr.length (by omega)
   unfold adaptQ
   split<;>exact⟨htr,by show qw T≤4000;omega,hY,hYl,Nat.le_refl _⟩
 | m+1,tr,T,Y,W,h12,hT,hW,hY,hYl,htr=>by
   obtain⟨b1,b2⟩:=gA_le tr.length (by omega)
   have hst:=Qwe tr.length
   have stay:(∀ t∈tr,TA 4000 d t)∧qw T≤4000∧QR 129 Y∧Y.length=d∧tr.length≤tr.length+(m+1):=⟨htr,by omega,hY,hYl,by omega⟩
   by_cases h:T=E
   . simp only[adaptQ,if_pos h];exact h ▸ stay
   simp only[adaptQ,if_neg h]
   cases dP (underQ r W)
   case true=>exact stay
   rw[bifF]
   obtain⟨c1,c2⟩:=Qsz (E:=E) hT hE hW
   cases hs:stepQ p T (cutQ T E W) Y with
   | inl f=>exact stay
   | inr z=>
     obtain⟨_,_,z1,z2,z3⟩:=Qmu hs
     have hne:=Qn5 (k:=129) (l:=z.err) (by decide) z3
     have hfa:=Qiw hr (j:=2) hl hh (normQ z.err)
     have hml:=Qaz c1 hfa
     have hlen:(tr++[tryA r E T Y W z]).length=tr.length+1:=by simp
     have ih:=Qmw (p:=p) (E:=E) (d:=d) hr hl hh hE m (tr++[tryA r E T Y W z]) (bif dP (accQ r (normQ z.err)) then T+cutQ T E W else T) (bif dP (accQ r (normQ z.err)) then z.next else Y) (cutQ T E W*factorQ r (normQ z.err)) (by rw[hlen];omega) (by
      rw[hlen]
      show qw _≤(gA tr.length).1+(gA tr.length).2+1
      cases dP (accQ r (normQ z.err))
      . rw[bifF];omega
      . rw[bifT];omega) (by
      rw[hlen]
      show qw _≤max ((gA tr.length).1+3) (gA tr.length).2+3
      omega) (by
      cases dP (accQ r (normQ z.err))
      . exact hY
      . exact z1) (by
      cases dP (accQ r (normQ z.err))
      . exact hYl
      . rw[bifT,z2];exact hYl) (λt ht=>by
      rcases List.mem_append.1 ht with ht | ht
      . exact htr t ht
      . rw[List.mem_singleton.1 ht]
        exact⟨by show qw T≤_;omega,by show qw W≤_;omega,by show qw (cutQ T E W)≤_;omega,by show qw (normQ z.err)≤_;omega,show QR 4000 Y from Vh hY (by decide),hYl⟩)
     rw[hlen] at ih
     obtain⟨i1,i2,i3,i4,i5⟩:=ih
     exact⟨i1,i2,i3,i4,Nat.le_trans i5 (by omega)⟩
def mA(tr:List TryA)(T:Rat)(Y:List Rat):Qi:=⟨tr.map toTryA,toF T,toR Y⟩
theorem Qpi(t:TryA):Vc (toTryA t)=some (toR [t.T,t.Want,t.H,t.Err]):=rfl
theorem Qp2{k m:Nat}{t:TryA}(h:TA k m t):QR k [t.T,t.Want,t.H,t.Err]:=λq hq=>by
 rcases List.mem_cons.1 hq with rfl | hq
 . exact h.t
 rcases List.mem_cons.1 hq with rfl | hq
 . exact h.w
 rcases List.mem_cons.1 hq with rfl | hq
 . exact h.h
 rw[List.mem_singleton.1 hq];exact h.e
theorem getTA{tr:List TryA}{i:Nat}{x:Qm}(h:(tr.map toTryA)[i]?=some x):∃ t,tr[i]?=some t∧x=toTryA t:=by
 rw[List.getElem?_map] at h
 cases ht:tr[i]? with
 | none=>rw[ht] at h;cases h
 | some t=>rw[ht] at h;cases h;exact⟨t,rfl,rfl⟩
theorem Qlv{n K m:Nat}{tr:List TryA}{T:Rat}{Y:List Rat}(hn:big≤n)(hK:K<274877906944)(h1:1≤K)(ht:∀ t∈tr,TA K m t)(hT:qw T≤K)(hY:QR K Y):Xx n (mA tr T Y) (mA tr T Y)=some true:=by
 unfold Xx Qhg
 simp only[jn_eq]
 have rowS:∀ {l:List Rat},QR K l->Vy n (toR l) (toR l)=some true:=λh=>by
  rw[Qa9 (k:=K) hn h1 (by omega) (Kx h) (Kx h)];simp
 rw[decide_eq_true trivial,Bool.not_true,bifF]
 show((Jn n (toF T) (toF T)).bind λr8=>bif !r8 then _ else (Vy n (toR Y) (toR Y)).bind λr10=>_)=_
 rw[Kv (k:=K) hn h1 (by omega) (Qz hT) (Qz hT),decide_eq_true rfl,sbind,Bool.not_true,bifF,rowS hY,sbind,Bool.not_true,bifF]
 rw[Qeb]
 intro i x hx
 obtain⟨t,hg,rfl⟩:=getTA hx
 have htt:=ht t (Q6 hg)
 rw[Ku hx,sbind,beq_self_eq_true,bifT,Qpi,sbind,sbind,rowS (Qp2 htt),sbind,bifT,show(toTryA t).Y=toR t.Y from rfl,rowS htt.y]
 rfl
def tR(r:Jh):Qw:=⟨tF r.Tol,tF r.Safe,tF r.Low,tF r.High,tF r.Least,r.Fine,r.Most⟩
def tK(k:Q3):Qy:=⟨tP k.Problem,tR k.Rules,tF k.Start,tF k.End,tF k.First,k.Y.map tF⟩
def F2(f:Qe):Prop:=f.N.length≤2∧f.D.length≤2
structure TskL(k:Q3):Prop where
 p:(k.Problem.Tape.Code.length≤10∧k.Problem.Tape.Outs.length≤10∧∀ c∈k.Problem.Tape.Code,c.N.N.length≤2∧c.N.D.length≤2)∧(k.Problem.Scheme.Name.length≤50∧k.Problem.Scheme.A.length≤4∧FL 4 4 k.Problem.Scheme.B∧FL 4 4 k.Problem.Scheme.C∧FL 4 4 k.Problem.Scheme.E∧∀ r∈k.Problem.Scheme.A,FL 4 4 r)∧FL 6 2 k.Problem.P
 r:F2 k.Rules.Tol∧F2 k.Rules.Safe∧F2 k.Rules.Low∧F2 k.Rules.High∧F2 k.Rules.Least
 m:k.Rules.Most≤12∨200<k.Rules.Most
 s:F2 k.Start
 e:F2 k.End
 f:F2 k.First
 y:FL 4 2 k.Y
theorem Qrk{r:Jh}:∃ v,X2 r 2=some v∧(v=false->F2 r.Tol∧F2 r.Safe∧F2 r.Low∧F2 r.High∧F2 r.Least):=by
 unfold X2
 simp only[jn_eq]
 have e:∀ g:Qe,Q9 g 2=some (!decide (g.N.length≤2∧g.D.length≤2)):=λg=>Qbn g 2
 simp only[e,sbind]
 by_cases h1:r.Tol.N.length≤2∧r.Tol.D.length≤2
 case neg=>rw[decide_eq_false h1];exact⟨true,rfl,λh=>by cases h⟩
 by_cases h2:r.Safe.N.length≤2∧r.Safe.D.length≤2
 case neg=>rw[decide_eq_true h1,decide_eq_false h2];exact⟨true,rfl,λh=>by cases h⟩
 by_cases h3:r.Low.N.length≤2∧r.Low.D.length≤2
 case neg=>rw[decide_eq_true h1,decide_eq_true h2,decide_eq_false h3];exact⟨true,rfl,λh=>by cases h⟩
 by_cases h4:r.High.N.length≤2∧r.High.D.length≤2
 case neg=>rw[decide_eq_true h1,decide_eq_true h2,decide_eq_true h3,decide_eq_false h4];exact⟨true,rfl,λh=>by cases h⟩
 by_cases h5:r.Least.N.length≤2∧r.Least.D.length≤2
 case neg=>rw[decide_eq_true h1,decide_eq_true h2,decide_eq_true h3,decide_eq_true h4,decide_eq_false h5];exact⟨true,rfl,λh=>by cases h⟩
 rw[decide_eq_true h1,decide_eq_true h2,decide_eq_true h3,decide_eq_true h4,decide_eq_true h5]
 exact⟨false,rfl,λ_=>⟨h1,h2,h3,h4,h5⟩⟩
theorem Qgu{n:Nat}{k:Q3}(hn:big≤n):∃ v,V5 n k=some v∧(v=false->TskL k):=by
 unfold V5
 simp only[jn_eq]
 have e:∀ g:Qe,Q9 g 2=some (!decide (g.N.length≤2∧g.D.length≤2)):=λg=>Qbn g 2
 obtain⟨v,e1,e2⟩:=Qq9 (p:=k.Problem) (a:=10) (b:=4) (k:=2) hn (by decide) (by decide)
 rw[show((10:Nat):Int)=10 from rfl,show((4:Nat):Int)=4 from rfl,show((2:Nat):Int)=2 from rfl] at e1
 obtain⟨w,e3,e4⟩:=Qrk (r:=k.Rules)
 obtain⟨u,e5,e6⟩:=Xu (l:=k.Y) (many:=4) (k:=2) hn (by decide)
 rw[show((4:Nat):Int)=4 from rfl,show((2:Nat):Int)=2 from rfl] at e5
 simp only[e1,e3,e5,e,sbind]
 cases v
 case true=>exact⟨true,rfl,λh=>by cases h⟩
 rw[bifF]
 by_cases c1:(300:Int)<k.Problem.Bits
 . rw[decide_eq_true c1];exact⟨true,rfl,λh=>by cases h⟩
 rw[decide_eq_false c1,bifF]
 cases w
 case true=>exact⟨true,rfl,λh=>by cases h⟩
 rw[bifF]
 have fin:(k.Rules.Most≤12∨200<k.Rules.Most)->∃ v,(bif !decide (k.Start.N.length≤2∧k.Start.D.length≤2) then some true else bif !decide (k.End.N.length≤2∧k.End.D.length≤2) then some true else bif !decide (k.First.N.length≤2∧k.First.D.length≤2) then some true else some u)=some v∧(v=false->TskL k):=λhM=>by
  by_cases h1:k.Start.N.length≤2∧k.Start.D.length≤2
  case neg=>rw[decide_eq_false h1];exact⟨true,rfl,λh=>by cases h⟩
  by_cases h2:k.End.N.length≤2∧k.End.D.length≤2
  case neg=>rw[decide_eq_true h1,decide_eq_false h2];exact⟨true,rfl,λh=>by cases h⟩
  by_cases h3:k.First.N.length≤2∧k.First.D.length≤2
  case neg=>rw[decide_eq_true h1,decide_eq_true h2,decide_eq_false h3];exact⟨true,rfl,λh=>by cases h⟩
  rw[decide_eq_true h1,decide_eq_true h2,decide_eq_true h3]
  exact⟨u,rfl,λh=>⟨e2 rfl,e4 rfl,hM,h1,h2,h3,e6 h⟩⟩
 by_cases c2:(12:Int)<k.Rules.Most
 . rw[decide_eq_true c2,bifT]
   by_cases c3:k.Rules.Most≤200
   . rw[decide_eq_true c3];exact⟨true,rfl,λh=>by cases h⟩
   rw[decide_eq_false c3,bifF]
   exact fin (.inr (by omega))
 . rw[decide_eq_false c2,bifF]
   exact fin (.inl (by omega))
theorem Qs0{k:Q3}(hB:V4 k)(h:TskL k):TskW (tK k):=by
 obtain⟨b1,b2,b3,b4,b5,b6,_⟩:=hB
 obtain⟨r1,r2,r3,r4,r5,_⟩:=b2
 obtain⟨l1,l2,l3,l4,l5⟩:=h.r
 refine⟨(Q2e (bits:=k.Problem.Bits) b1 (by decide) h.p).mono (by decide),λx hx=>?_,Fk_tF b3 h.s,Fk_tF b4 h.e,Fk_tF b5 h.f,FR_tF b6 h.y⟩
 rcases List.mem_cons.1 hx with rfl | hx
 . exact Fk_tF r1 l1
 rcases List.mem_cons.1 hx with rfl | hx
 . exact Fk_tF r2 l2
 rcases List.mem_cons.1 hx with rfl | hx
 . exact Fk_tF r3 l3
 rcases List.mem_cons.1 hx with rfl | hx
 . exact Fk_tF r4 l4
 rw[List.mem_singleton.1 hx];exact Fk_tF r5 l5
theorem Qii{n:Nat}{k:Q3}(hn:big≤n)(h:TskL k):Wv n k=some (tK k):=by
 obtain⟨⟨t1,t2,t3⟩,⟨s1,s2,s3,s4,s5,s6⟩,p1⟩:=h.p
 have y1:=h.y.1
 unfold Wv Qae Jc
 rw[Quf hn (by omega) (by omega) (by omega) (by have:=s3.1;omega) (by have:=s4.1;omega) (by have:=s5.1;omega) (λr hr=>by have:=(s6 r hr).1;omega) (by have:=p1.1;omega),sbind]
 simp only[sbind]
 rw[Zb hn (by omega),sbind];rfl
theorem w39:Ki big=some true:=by kernel_rfl
set_option maxRecDepth 100000
theorem Qrl{p:Ql}{r r':Qw}{E:Rat}(h1:r'.Tol=r.Tol)(h2:r'.Safe=r.Safe)(h3:r'.Low=r.Low)(h4:r'.High=r.High)(h5:r'.Least=r.Least)(h6:r'.Fine=r.Fine):∀(m:Nat) (tr:List TryA) (T:Rat) (Y:List Rat) (W:Rat),adaptQ p r' E m tr T Y W=adaptQ p r E m tr T Y W
 | 0,tr,T,Y,W=>by simp only[adaptQ]
 | m+1,tr,T,Y,W=>by
   have e1:underQ r'=underQ r:=by unfold underQ;rw[h5]
   have e2:accQ r'=accQ r:=by unfold accQ;rw[h1]
   have e3:factorQ r'=factorQ r:=by unfold factorQ;rw[h1,h2,h3,h4,h6]
   have e4:∀ z,tryA r' E T Y W z=tryA r E T Y W z:=λz=>by unfold tryA;rw[e2]
   simp only[adaptQ,e1,e2,e3,e4]
   by_cases h:T=E
   . rw[if_pos h,if_pos h]
   rw[if_neg h,if_neg h]
   cases dP (underQ r W)
   case true=>rfl
   rw[bifF,bifF]
   cases stepQ p T (cutQ T E W) Y with
   | inl f=>rfl
   | inr z=>exact Qrl h1 h2 h3 h4 h5 h6 m _ _ _ _
theorem Qun(k:Q3)(more:Int)(hB:V4 k)(hmr:-9223372036854775808≤more∧more≤9223372036854775807):∃ n,Wo n k more=some true:=by
 refine⟨big,?_⟩
 have hn:big≤big:=Nat.le_refl _
 unfold Wo
 simp only[jn_eq]
 obtain⟨v,e1,e2⟩:=Qgu (k:=k) hn
 rw[e1,sbind]
 cases v
 case true=>rw[bifT,bifT,w39];rfl
 have hL:=e2 rfl
 rw[bifF]
 by_cases c1:more<0
 . rw[decide_eq_true c1,bifT,bifT,w39];rfl
 rw[decide_eq_false c1,bifF]
 by_cases c2:4<more
 . rw[decide_eq_true c2,bifT,bifT,w39];rfl
 rw[decide_eq_false c2,bifF]
 by_cases c3:8<k.Rules.Most
 . rw[decide_eq_true c3,bifT,w39];rfl
 rw[decide_eq_false c3,bifF,Qii hn hL,sbind]
 have hw:=Qs0 hB hL
 have hlo:=hB.2.1.2.2.2.2.2.2.1.1
 have hy1:=hL.y.1
 have hyl:(tK k).Y.length≤1000:=by show(k.Y.map tF).length≤1000;rw[List.length_map];omega
 rw[show wrap64 ((tK k).Rules.Most+more)=k.Rules.Most+more from w64 (by show _≤k.Rules.Most+more;omega) (by show k.Rules.Most+more≤_;omega)]
 have a1:=Qds (n:=big) (k:=tK k) hn hw (λ_=>by show k.Rules.Most≤12;omega) hyl
 have hw2:TskW ⟨(tK k).Problem,⟨(tK k).Rules.Tol,(tK k).Rules.Safe,(tK k).Rules.Low,(tK k).Rules.High,(tK k).Rules.Least,(tK k).Rules.Fine,k.Rules.Most+more⟩,(tK k).Start,(tK k).End,(tK k).First,(tK k).Y⟩:=⟨hw.p,hw.r,hw.s,hw.e,hw.f,hw.y⟩
 have b1:=Qds (n:=big) hn hw2 (λ_=>by show k.Rules.Most+more≤12;omega) hyl
 rw[a1,sbind,b1,sbind,Yf hn hw,sbind,bifnP]
 by_cases hR:TskR (tK k)
 case neg=>
  rw[if_neg hR,if_neg hR]
  simp only[]
  rw[Wa,bifT,w39];rfl
 have hr:=hR.2.1
 have hmo:=hr.most
 have hmo1:1≤k.Rules.Most:=hmo.1
 have hR2:TskR ⟨(tK k).Problem,⟨(tK k).Rules.Tol,(tK k).Rules.Safe,(tK k).Rules.Low,(tK k).Rules.High,(tK k).Rules.Least,(tK k).Rules.Fine,k.Rules.Most+more⟩,(tK k).Start,(tK k).End,(tK k).First,(tK k).Y⟩:=
  ⟨hR.1,⟨hr.f,hr.tol,hr.safe,hr.safe1,hr.low,hr.low1,hr.high,hr.least,hr.fine,⟨by show 1≤k.Rules.Most+more;omega,by show k.Rules.Most+more≤200;omega⟩⟩,hR.2.2⟩
 rw[if_pos hR,if_pos hR,if_pos hR2]
 simp only[]
 have hq:(k.Rules.Most+more).toNat=(tK k).Rules.Most.toNat+more.toNat:=by show _=k.Rules.Most.toNat+more.toNat;omega
 have vr:=hw.r.all
 have hok:=Qmw (p:=(tK k).Problem) (r:=(tK k).Rules) (E:=fv (tK k).End) (d:=(rv (tK k).Y).length) hr (qw_fv vr.2.2.1 (by decide)) (qw_fv vr.2.2.2.1 (by decide)) (qw_fv hw.e (by decide)) (tK k).Rules.Most.toNat [] (fv (tK k).Start) (rv (tK k).Y) (fv (tK k).First) (by show 0+k.Rules.Most.toNat≤12;omega) (qw_fv hw.s (by decide)) (qw_fv hw.f (by decide)) (Vh (QR_rv hw.y (by decide)) (by decide)) rfl (λ_ h=>by cases h)
 rw[Qrl (r:=(tK k).Rules) (r':=⟨(tK k).Rules.Tol,(tK k).Rules.Safe,(tK k).Rules.Low,(tK k).Rules.High,(tK k).Rules.Least,(tK k).Rules.Fine,k.Rules.Most+more⟩) rfl rfl rfl rfl rfl rfl,hq]
 have hmo':=Qrj (p:=(tK k).Problem) (r:=(tK k).Rules) (E:=fv (tK k).End) more.toNat (tK k).Rules.Most.toNat [] (fv (tK k).Start) (rv (tK k).Y) (fv (tK k).First)
 generalize adaptQ (tK k).Problem (tK k).Rules (fv (tK k).End) ((tK k).Rules.Most.toNat+more.toNat) [] (fv (tK k).Start) (rv (tK k).Y) (fv (tK k).First)=g at *
 generalize adaptQ (tK k).Problem (tK k).Rules (fv (tK k).End) (tK k).Rules.Most.toNat [] (fv (tK k).Start) (rv (tK k).Y) (fv (tK k).First)=s at *
 obtain⟨o1,o2,o3,o4,o5⟩:=hok
 by_cases h5:s.2.Kind=5
 case neg=>
  rcases hmo' with h | h
  case inr=>exact absurd h.1 h5
  subst h
  have hs:=Qlv (n:=big) (K:=4000) hn (by decide) (by decide) o1 o2 (Vh o3 (by decide))
  unfold mA at hs
  rw[decide_eq_false h5,Bool.not_false,bifT,Wa,bifT,hs,sbind,bifT,w39];rfl
 rw[decide_eq_true h5,Bool.not_true,bifF]
 have hpre:∃ l,g.1.1=s.1.1++l:=by
  rcases hmo' with h | h
  . exact⟨[],by rw[h,List.append_nil]⟩
  . exact h.2
 obtain⟨l,hl⟩:=hpre
 rw[hl,List.map_append,decide_eq_false (by simp;omega),bifF]
 have h12:s.1.1.length≤12:=Nat.le_trans o5 (by show 0+k.Rules.Most.toNat≤12;omega)
 rw[Qhb (λ_=>True) s.1.1.length (r:=false)]
 . rw[if_pos (λ_ _=>trivial),w39];rfl
 . intro i hi
   have hp:s.1.1[i]?=some s.1.1[i]:=List.getElem?_eq_getElem hi
   have ht:=o1 s.1.1[i] (List.getElem_mem hi)
   generalize s.1.1[i]=t at hp ht
   have g1:(s.1.1.map toTryA)[i]?=some (toTryA t):=by rw[List.getElem?_map,hp];rfl
   have g2:(s.1.1.map toTryA++l.map toTryA)[i]?=some (toTryA t):=by rw[List.getElem?_append_left (by rw[List.length_map];exact hi),g1]
   refine⟨λ_=>?_,λg=>absurd trivial g⟩
   rw[List.length_map,decide_eq_true (show(i:Int)<(s.1.1.length:Int) by omega),bifT,Ku g1,Ku g2]
   simp only[sbind]
   rw[show(toTryA t).T=toF t.T from rfl,show(toTryA t).H=toF t.H from rfl,Kv (k:=4000) hn (by decide) (by decide) (Qz ht.t) (Qz ht.t),Kv (k:=4000) hn (by decide) (by decide) (Qz ht.h) (Qz ht.h),sbind,sbind,decide_eq_true rfl,decide_eq_true rfl,bne_self_eq_false,w1 (by omega)]
   rfl
 . rw[List.length_map,decide_eq_false (by omega),bifF]
 . unfold big;omega
end Go.Proofs.YtlihkcaoachkdaaGreatDoor
