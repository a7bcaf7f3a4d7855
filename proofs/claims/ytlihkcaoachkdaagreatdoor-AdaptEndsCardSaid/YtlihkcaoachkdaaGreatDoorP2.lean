import Derived.Test.YtlihkcaoachkdaaGreatDoorP1
import Derived.KernelRfl
namespace Go.Proofs.YtlihkcaoachkdaaGreatDoor
open Go Go.RowKit
structure PrbW(k:Nat)(p:Qg):Prop where
 t:∀ c∈p.Tape.Code,Fk k c.N
 d:-9223372036854775808≤p.Tape.Dim∧p.Tape.Dim≤9223372036854775807
 s:SchW k p.Scheme
 p:FR k p.P
def prbR(p:Qg):Prop:=tapeR p.Tape∧schR p.Scheme∧(p.P.length:Int)=p.Tape.Par
theorem PrbW.tw{k:Nat}{p:Qg}(h:PrbW k p)(hk:k<1048576):TW p.Tape:=λc hc=>Fk_Fw (h.t c hc) (by omega)
theorem Qjo{n k:Nat}{p:Qg}(hn:big≤n)(h0:129≤k)(hk:k<8000)(hw:PrbW k p):X1 n p=some (dP (prbR p)):=
 Qnm hn (by omega) (by omega) (hw.tw (by omega)) hw.d hw.s
theorem PrbW.ok{n k:Nat}{p:Qg}{t h:Qa}{y:List Qa}(hw:PrbW k p)(hn:big≤n)(hk:k<8000)(hr:prbR p)(ht:Fk k t)(hh:Fk k h)(hy:FR k y)(hl:(y.length:Int)=p.Tape.Dim):PrbOK n k p t h y:=
 ⟨⟨hr.1,by rw[Qhu hn (hw.tw (by omega)) hw.d,dP_t hr.1],hw.t⟩,hw.s,hr.2.1,hw.p,hr.2.2,ht,hh,hy,hl⟩
def toM(z:MadeQ):W8:=⟨toRR z.ys,toRR z.ks,toR z.next,toR z.err⟩
def noM:W8:=⟨[],[],[],[]⟩
noncomputable def stepQ(p:Qg)(T H:Rat)(Y:List Rat):Qc ⊕ MadeQ:=
 @ite _ (prbR p∧(Y.length:Int)=p.Tape.Dim) (Classical.propDecidable _) (doQ p.Tape p.Scheme (limQ p.Bits) T H Y (rv p.P)) (.inl ⟨2,0,0,0⟩)
theorem Qk2{n k:Nat}{p:Qg}{t h:Qa}{y:List Qa}(hn:big≤n)(h0:129≤k)(hk:k<8000)(hw:PrbW k p)(ht:Fk k t)(hh:Fk k h)(hy:FR k y):
 Qb6 n p t h y=some (match stepQ p (fv t) (fv h) (rv y) with | .inl f=>(noM,f) | .inr z=>(toM z,⟨0,0,0,0⟩))∧∀ f,stepQ p (fv t) (fv h) (rv y)=.inl f->f.Kind≠0:=by
 unfold Qb6 stepQ
 simp only[jn_eq]
 rw[Qjo hn h0 hk hw,sbind,bifnP,Va]
 by_cases hr:prbR p
 case neg=>rw[if_neg hr,if_neg (λh=>hr h.1),bifT];exact⟨rfl,λf h=>by cases h;decide⟩
 rw[if_pos hr]
 by_cases hl:(y.length:Int)=p.Tape.Dim
 case neg=>rw[decide_eq_false hl,if_neg (λh=>hl h.2),Bool.not_false,bifT];exact⟨rfl,λf h=>by cases h;decide⟩
 rw[decide_eq_true hl,if_pos ⟨hr,hl⟩,Bool.not_true,bifF]
 have ok:=hw.ok hn hk hr ht hh hy hl
 unfold Qbj
 rw[sbind]
 obtain⟨r,e1,e2⟩:=Qwy (g:=⟨⟨0,0⟩,min (max p.Bits 0) 4096⟩) hn h0 hk ok rfl
 rw[e1,sbind]
 cases hd:doQ p.Tape p.Scheme (limQ p.Bits) (fv t) (fv h) (rv y) (rv p.P) with
 | inl f=>
   rw[hd] at e2
   obtain⟨e3,e4⟩:=e2
   refine⟨?_,λg hg=>by cases hg;exact e4⟩
   rw[e3]
   obtain⟨f1,f2,f3,f4⟩:=f
   rw[Xo e4,Bool.not_false,bifT];rfl
 | inr z=>
   rw[hd] at e2
   obtain⟨g',e3,_⟩:=e2
   subst e3
   simp only[]
   rw[W5,Bool.not_true,bifF]
   exact⟨rfl,λg hg=>by cases hg⟩
theorem Qp1{t:Qr}{lim:Int}{T H:Rat}{Y P:List Rat}{m:Nat}(hlim:lim≤4096)(hm:t.Outs.length=m)(hY:Y.length=m):∀ {r:List (List Rat×Rat)}{i:Nat}{yss kss:List (List Rat)}{z},(∀ a∈kss,a.length=m)->(∀ a∈yss,a.length=m)->stagesQ t lim T H Y P r i yss kss=.inr z →
 (∀ a∈z.2,a.length=m)∧(∀ a∈z.1,a.length=m)∧(∃ e,z.1=yss++e)∧∃ e,z.2=kss++e
 | [],i,yss,kss,z,h1,h2,h=>by
   simp only[stagesQ] at h
   cases h
   exact⟨h1,h2,⟨[],by simp⟩,[],by simp⟩
 | x::r,i,yss,kss,z,h1,h2,h=>by
   simp only[stagesQ] at h
   cases hs:stageQ t lim T H Y P x.1 x.2 i kss with
   | inl f=>rw[hs] at h;cases h
   | inr w=>
     rw[hs] at h
     have hw:w.2.length=m∧w.1.length=m:=by
      unfold stageQ at hs
      split at hs
      . cases hs
      . cases hf:fieldQ t lim (T+H*x.2) (fromQ H Y x.1 kss) P with
        | inl e=>rw[hf] at hs;cases hs
        | inr k=>
          rw[hf] at hs;cases hs
          exact⟨by rw[(Qpy hlim hf).1,hm],by show(fromQ H Y x.1 kss).length=m;rw[Qjn (by rw[hY];exact h1),hY]⟩
     obtain⟨g1,g2,⟨e,g3⟩,e',g4⟩:=Qp1 hlim hm hY (λa ha=>by
      rcases List.mem_append.1 ha with ha | ha
      . exact h1 a ha
      . rw[List.mem_singleton.1 ha];exact hw.1) (λa ha=>by
      rcases List.mem_append.1 ha with ha | ha
      . exact h2 a ha
      . rw[List.mem_singleton.1 ha];exact hw.2) h
     exact⟨g1,g2,⟨w.1::e,by rw[g3];simp⟩,w.2::e',by rw[g4];simp⟩
def fresh(out:List Qh1)(i:Nat)(s:List UInt8):Prop:=∀ w,out.getLast?=some w->w.At+w.Text.length≤i∧∀ c r,s=c::r->w.At+w.Text.length=(i:Int)->goC w.Kind c.toNat=false
def FKs(k:Nat)(l:List Qf):Prop:=∀ f∈l,Fk k (tF f)
structure SchWr(k:Nat)(s:Js):Prop where
 a:∀ r∈s.A,FKs k r
 al:∀ r∈s.A,r.length≤1000000
 b:FKs k s.B
 bl:s.B.length≤1000000
 c:FKs k s.C
 cl:s.C.length≤1000000
 e:FKs k s.E
 el:s.E.length≤1000000
 nl:s.Name.length≤1000000
structure PrbWr(k:Nat)(p:Q8):Prop where
 t:∀ x∈p.Tape.Code,Fk k (tF x.N)
 o:p.Tape.Outs.length≤1000000
 s:SchWr k p.Scheme
 pk:FKs k p.P
 pl:p.P.length≤1000000
theorem Qp2{lim:Int}:∀ {l:List Rat}{i:Nat},fitQ lim l i=none->∀ q∈l,(qz q:Int)≤lim
 | [],_,_,q,hq=>by cases hq
 | x::l,i,h,q,hq=>by
   simp only[fitQ] at h
   split at h
   . rename_i hx
     rcases List.mem_cons.1 hq with rfl | hq
     . exact hx
     . exact Qp2 h q hq
   . cases h
theorem Qtp{lim:Int}{l:List Rat}(hlim:lim≤4096)(h:fitQ lim l 0=none):QR 129 l:=λq hq=>by
 have h1:=Qp2 h q hq
 have h2:=qw_qz (q:=q) (b:=4096) (by omega)
 omega
theorem Qmf{p:Qg}{T H:Rat}{Y:List Rat}{z:MadeQ}(h:stepQ p T H Y=.inr z):prbR p∧(Y.length:Int)=p.Tape.Dim∧QR 129 z.next∧z.next.length=Y.length∧QR 129 z.err:=by
 unfold stepQ at h
 by_cases hc:prbR p∧(Y.length:Int)=p.Tape.Dim
 case neg=>rw[if_neg hc] at h;cases h
 rw[if_pos hc] at h
 refine⟨hc.1,hc.2,?_⟩
 have hdim:=hc.1.1.1
 unfold doQ at h
 cases hz:stagesQ p.Tape (limQ p.Bits) T H Y (rv p.P) (List.zip (p.Scheme.A.map rv) (rv p.Scheme.C)) 0 [] [] with
 | inl e=>rw[hz] at h;cases h
 | inr w=>
   rw[hz] at h
   simp only[] at h
   obtain⟨g1,g2,g3,g4⟩:=Qp1 (m:=Y.length) (by unfold limQ;omega) (by have:=hdim.2.2.1;omega) rfl (λ_ h=>by cases h) (λ_ h=>by cases h) hz
   unfold endQ at h
   have hlim:limQ p.Bits≤4096:=by unfold limQ;omega
   split at h
   . cases h
   . rename_i hf
     split at h
     . cases h
     . rename_i hf2
       cases h
       exact⟨Qtp hlim hf,Qjn g1,Qtp hlim hf2⟩
structure TryQ where
 T:Rat
 H:Rat
 Err:Rat
 Y:List Rat
def toTry(t:TryQ):Qp:=⟨toF t.T,toF t.H,toF t.H,toF t.Err,toR t.Y,true⟩
def noH:Qn:=⟨[],⟨⟨false,[]⟩,[]⟩,[]⟩
def posQ(hs:List Rat):Prop:=(∀ h∈hs,0<h.num.sign)∧hs.length≤200
theorem Qo6{n k:Nat}{hs:List Qa}(hn:big≤n)(h1:1≤k)(hk:k<1048576)(hh:FR k hs):Qc4 n hs=some (dP (posQ (rv hs))):=by
 classical
 unfold Qc4
 rw[Yr (λ_ (x:Qa)=>0<(fv x).num.sign) (r:=false),Qfa]
 . have e:(∀ a∈hs,0<(fv a).num.sign)↔∀ h∈rv hs,0<h.num.sign:=by
    constructor
    . intro g h hm
      obtain⟨x,hx,rfl⟩:=List.mem_map.1 hm
      exact g x hx
    . intro g x hx;exact g (fv x) (List.mem_map_of_mem hx)
   by_cases g:∀ a∈hs,0<(fv a).num.sign
   . rw[if_pos g];exact Y7 ⟨λh=>⟨e.1 g,by rw[Va];omega⟩,λh=>by have:=h.2;rw[Va] at this;omega⟩
   . rw[if_neg g,dP_f λh=>g (e.2 h.1)]
 . intro i x hx
   rw[Wg hn h1 (by omega) (hh x (Q9 hx)),sbind]
   constructor
   . intro h;rw[decide_eq_false (by omega)];rfl
   . intro h;rw[decide_eq_true (by omega)];rfl
theorem Qo7{l:List Rat}:scaleQ 1 l=l:=by
 unfold scaleQ
 conv=>rhs;rw[←List.map_id l]
 exact List.map_congr_left λq _=>by show 1*q=q;grind
theorem Qp3{k:Nat}{l:List Rat}(h1:1≤k)(h:QR k l):qw (normQ l)≤k:=by
 have key:∀(l:List Rat) (b:Rat),QR k l->qw b≤k->qw (l.foldl (λb x=>maxQ b (absQ x)) b)≤k:=by
  intro l
  induction l with
  | nil=>intro b _ hb;exact hb
  | cons x l ih=>intro b hl hb;exact ih _ (λq hq=>hl q (.tail _ hq)) (Qvy hb (by rw[Qse];exact hl x (.head _)))
 exact key l 0 h (by rw[Qbl];exact h1)
theorem Qnn:qw 1=1:=by
 unfold qw;rw[show(1:Rat).num=1 from rfl,show(1:Rat).den=1 from rfl,show(1:Int).natAbs=1 from rfl,toL1];rfl
set_option maxRecDepth 100000
theorem Fk_tF{k:Nat}{x:Qf}(hB:Jn x)(h:x.N.length≤k∧x.D.length≤k):Fk k (tF x):=⟨hB.2.1.2,h.1,hB.2.2.1.2,h.2⟩
theorem FR_tF{many k:Nat}{l:List Qf}(hB:Ka l)(h:FL many k l):FR k (l.map tF):=λx hx=>by
 obtain⟨y,hy,rfl⟩:=List.mem_map.1 hx
 exact Fk_tF (hB.2 y hy) (h.2 y hy)
theorem Qx6{a b k:Nat}{p:Q8}{bits:Int}(hB:Yg p)(hk:k≤129)
 (h:(p.Tape.Code.length≤a∧p.Tape.Outs.length≤a∧∀ c∈p.Tape.Code,c.N.N.length≤k∧c.N.D.length≤k)∧(p.Scheme.Name.length≤50∧p.Scheme.A.length≤b∧FL b 4 p.Scheme.B∧FL b 4 p.Scheme.C∧FL b 4 p.Scheme.E∧∀ r∈p.Scheme.A,FL b 4 r)∧FL 6 k p.P) :
 PrbW 129 ⟨tT p.Tape,tS p.Scheme,p.P.map tF,bits⟩:=by
 obtain⟨bt,bs,bp,_⟩:=hB
 obtain⟨⟨t1,t2,t3⟩,⟨s1,s2,s3,s4,s5,s6⟩,p1⟩:=h
 refine⟨λc hc=>?_,bt.2.2.1,⟨λr hr=>?_,Xw (FR_tF bs.2.2.2.1 s3) (by omega),Xw (FR_tF bs.2.1 s4) (by omega),Xw (FR_tF bs.2.2.2.2.1 s5) (by omega),by show p.Scheme.Name.length≤_;omega⟩,Xw (FR_tF bp p1) hk⟩
 . obtain⟨d,hd,rfl⟩:=List.mem_map.1 hc
   exact Kh (Fk_tF (bt.1.2 d hd).2.2.2.1 (t3 d hd)) hk
 . obtain⟨d,hd,rfl⟩:=List.mem_map.1 hr
   exact Xw (FR_tF (bs.2.2.1.2 d hd) (s6 d hd)) (by omega)
theorem PrbW.mono{j k:Nat}{p:Qg}(h:PrbW j p)(hk:j≤k):PrbW k p:=
 ⟨λc hc=>Kh (h.t c hc) hk,h.d,⟨λr hr=>Xw (h.s.a r hr) hk,Xw h.s.b hk,Xw h.s.c hk,Xw h.s.e hk,h.s.n⟩,Xw h.p hk⟩
set_option maxRecDepth 100000
theorem Quq{t:Qr}{lim:Int}{T H:Rat}{Y P a:List Rat}{c:Rat}{i:Nat}{kss:List (List Rat)}{f}(h:stageQ t lim T H Y P a c i kss=.inl f):f.Kind≠0:=by
 unfold stageQ at h
 split at h
 . cases h;show(6:Int)≠0;decide
 . cases hf:fieldQ t lim (T+H*c) (fromQ H Y a kss) P with
   | inl e=>rw[hf] at h;cases h;have:=Qlz hf;show e.1≠0;omega
   | inr k=>rw[hf] at h;cases h
theorem Ql1{t:Qr}{lim:Int}{T H:Rat}{Y P:List Rat}:∀ {r:List (List Rat×Rat)}{i:Nat}{yss kss:List (List Rat)}{f},stagesQ t lim T H Y P r i yss kss=.inl f->f.Kind≠0
 | [],i,yss,kss,f,h=>by simp only[stagesQ] at h;cases h
 | x::r,i,yss,kss,f,h=>by
   simp only[stagesQ] at h
   cases hs:stageQ t lim T H Y P x.1 x.2 i kss with
   | inl g=>rw[hs] at h;cases h;exact Quq hs
   | inr w=>rw[hs] at h;exact Ql1 h
theorem Qwz{t:Qr}{s:Qj}{lim:Int}{T H:Rat}{Y P:List Rat}{f}(h:doQ t s lim T H Y P=.inl f):f.Kind≠0:=by
 unfold doQ at h
 cases hst:stagesQ t lim T H Y P (List.zip (s.A.map rv) (rv s.C)) 0 [] [] with
 | inl g=>rw[hst] at h;cases h;exact Ql1 hst
 | inr z=>
   rw[hst] at h
   simp only[] at h
   unfold endQ at h
   split at h
   . cases h;show(6:Int)≠0;decide
   . split at h
     . cases h;show(6:Int)≠0;decide
     . cases h
theorem PrbWr.mono{j k:Nat}{p:Q8}(h:PrbWr j p)(hk:j≤k):PrbWr k p:=
 ⟨λx hx=>Kh (h.t x hx) hk,h.o,⟨λr hr f hf=>Kh (h.s.a r hr f hf) hk,h.s.al,λf hf=>Kh (h.s.b f hf) hk,h.s.bl,λf hf=>Kh (h.s.c f hf) hk,h.s.cl,λf hf=>Kh (h.s.e f hf) hk,h.s.el,h.s.nl⟩,λf hf=>Kh (h.pk f hf) hk,h.pl⟩
set_option maxRecDepth 100000
def TQ(k m:Nat)(t:TryQ):Prop:=qw t.T≤k∧qw t.H≤k∧qw t.Err≤k∧QR k t.Y∧t.Y.length=m
set_option maxRecDepth 100000
set_option maxRecDepth 100000
def okT(l:List Qp):List Qp:=l.filter (·.Ok)
def nT(t:Qp):Qp:=⟨toF (fv t.T),toF (fv t.Want),toF (fv t.H),toF (fv t.Err),toR (rv t.Y),true⟩
def FT(k:Nat)(t:Qp):Prop:=FR k [t.T,t.Want,t.H,t.Err]∧FR k t.Y∧t.Y.length≤1000000
theorem Qa2{n k:Nat}{l:List Qa}(hn:big≤n)(h1:1≤k)(hk:k<1099511627776)(h:FR k l)(hl:l.length≤1000000):Yc n l=some (toR (rv l)):=by
 unfold Yc
 rw[Qbe hn,sbind,Qap (k:=k) hn h1 hk (Q1 (by rw[Qnn];exact h1)) h hl,sbind,Qw,Qo7]
theorem Qno(l:List Qp):(okT l).length≤l.length:=List.length_filter_le _ _
theorem Zx{n k:Nat}{h:Qn}(hn:big≤n)(h1:1≤k)(hk:k<1099511627776)(hl:h.Tries.length≤1000000)(ht:∀ t∈h.Tries,FT k t):X6 n h=some ((okT h.Tries).map nT):=by
 unfold X6
 rw[X4 (λi=>(okT (h.Tries.take i)).map nT) h.Tries]
 . rw[List.take_length];rfl
 . intro i x hx
   obtain⟨g1,g2,g3⟩:=ht x (Q9 hx)
   have hi:=Kc hx
   have hle:=Qno (h.Tries.take i)
   rw[List.length_take] at hle
   rw[Qpw hx]
   have ea:okT (h.Tries.take i++[x])=okT (h.Tries.take i)++okT [x]:=List.filter_append _ _
   rw[ea,List.map_append]
   cases ho:x.Ok
   . rw[bifF,show okT [x]=[] from by unfold okT;simp[ho],List.map_nil,List.append_nil]
   . rw[bifT,show okT [x]=[x] from by unfold okT;simp[ho]]
     unfold Wc
     rw[sbind,Qa2 hn h1 hk g1 (by simp),sbind,show getI (toR (rv [x.T,x.Want,x.H,x.Err])) 0=some (toF (fv x.T)) from rfl,sbind,show getI (toR (rv [x.T,x.Want,x.H,x.Err])) 1=some (toF (fv x.Want)) from rfl,sbind,show getI (toR (rv [x.T,x.Want,x.H,x.Err])) 2=some (toF (fv x.H)) from rfl,sbind,show getI (toR (rv [x.T,x.Want,x.H,x.Err])) 3=some (toF (fv x.Err)) from rfl,sbind,Qa2 hn h1 hk g2 g3,sbind,Vp (by simp;omega) (by simp;omega),sbind]
     rfl
 . rfl
def begT(h:Qn):Rat:=match okT h.Tries with | []=>fv h.T | t::_=>fv t.T
def begY(h:Qn):List Rat:=match okT h.Tries with | []=>rv h.Y | t::_=>rv t.Y
def szs(h:Qn):List Rat:=(okT h.Tries).map (fv ·.H)
theorem Qln{n k:Nat}{p:Qg}{h:Qn}(hn:big≤n)(h1:1≤k)(hk:k<1099511627776)(hl:h.Tries.length≤1000000)(ht:∀ t∈h.Tries,FT k t)(hT:Fk k h.T)(hY:FR k h.Y)(hYl:h.Y.length≤1000000):
 Yv n p h=Yb n p (toF (begT h)) (toR (begY h)) (toR (szs h)):=by
 have hle:=Qno h.Tries
 have eN:V6 n h=some (((okT h.Tries).map nT).map (·.T)++[toF (fv h.T)],((okT h.Tries).map nT).map (·.Y)++[toR (rv h.Y)]):=by
  unfold V6
  rw[Zx hn h1 hk hl ht,sbind]
  generalize hA:(okT h.Tries).map nT=A
  have hAl:A.length≤1000000:=by rw[←hA,List.length_map];omega
  rw[X4 (λi=>((A.take i).map (·.T),(A.take i).map (·.Y))) A]
  . rw[List.take_length]
    show((Jc n h.T).bind _)=_
    rw[Jl hn (Fk_Fw hT (by omega)),sbind,Vp (by simp;omega) (by simp;omega),sbind,Qa2 hn h1 hk hY hYl,sbind,Vp (by simp;omega) (by simp;omega),sbind]
  . intro i x hx
    have hi:=Kc hx
    rw[Vp (by simp;omega) (by simp;omega),sbind,Vp (by simp;omega) (by simp;omega),sbind,V9 (·.T) hx,V9 (·.Y) hx]
  . rfl
 have eS:X3 n h=some (toR (szs h)):=by
  unfold X3
  rw[Zx hn h1 hk hl ht,sbind]
  have e:toR (szs h)=((okT h.Tries).map nT).map (·.H):=by unfold toR szs;rw[List.map_map,List.map_map];rfl
  rw[e]
  generalize hA:(okT h.Tries).map nT=A
  have hAl:A.length≤1000000:=by rw[←hA,List.length_map];omega
  rw[X4 (λi=>(A.take i).map (·.H)) A]
  . rw[List.take_length];rfl
  . intro i x hx
    have hi:=Kc hx
    rw[Vp (by simp;omega) (by simp;omega),sbind,V9 (·.H) hx]
  . rfl
 unfold Yv
 rw[eN,sbind,eS]
 have e1:getI (((okT h.Tries).map nT).map (·.T)++[toF (fv h.T)]) 0=some (toF (begT h)):=by
  unfold begT
  cases okT h.Tries with
  | nil=>rfl
  | cons t l=>exact Vq (i:=0) rfl
 have e2:getI (((okT h.Tries).map nT).map (·.Y)++[toR (rv h.Y)]) 0=some (toR (begY h)):=by
  unfold begY
  cases okT h.Tries with
  | nil=>rfl
  | cons t l=>exact Vq (i:=0) rfl
 rw[e1,sbind,e2,sbind,sbind]
 cases Yb n p (toF (begT h)) (toR (begY h)) (toR (szs h))<;>rfl
set_option maxRecDepth 100000
theorem Qx7(q:Rat):0≤(absQ q).num:=by
 unfold absQ
 split
 . show 0≤-q.num;omega
 . omega
theorem Qw0(l:List Rat):0≤(normQ l).num:=by
 have key:∀(l:List Rat) (b:Rat),0≤b.num->0≤(l.foldl (λb x=>maxQ b (absQ x)) b).num:=by
  intro l
  induction l with
  | nil=>intro b hb;exact hb
  | cons x l ih=>
    intro b hb
    refine ih _ ?_
    show 0≤(maxQ b (absQ x)).num
    unfold maxQ
    split
    . exact Qx7 x
    . exact hb
 exact key l 0 (Int.le_refl _)
theorem Qdo{α R:Type}{f:Nat->α->Unit->Option (Lp Unit R)}{K:Unit->Option R}(xs:List α)(hb:∀ i x,xs[i]?=some x->f i x ()=some (.go ())):(rangeL f xs 0 ()).bind (lpK K)=K ():=X4 (λ_=>()) xs hb rfl
theorem Qnp{n k:Nat}(hn:big≤n)(hk:k<1099511627776){l:List (List Rat)}(h:∀ r∈l,QR k r):Ze n (l.map toR)=some true:=by
 classical
 unfold Ze
 rw[Qdo]
 intro i r hr
 obtain⟨q,hq,rfl⟩:=List.mem_map.1 (Q9 hr)
 rw[Qdo]
 intro j x hx
 obtain⟨y,hy,rfl⟩:=List.mem_map.1 (Q9 hx)
 rw[Qer hn (Fk_Fw (Q1 (h q hq y hy)) (by omega)),sbind,Qw]
 simp
def mH(tr:List TryQ)(T:Rat)(Y:List Rat):Qn:=⟨tr.map toTry,toF T,toR Y⟩
theorem Qx8{k m:Nat}{t:TryQ}(h:TQ k m t):QR k [t.T,t.H,t.H,t.Err]:=λq hq=>by
 rcases List.mem_cons.1 hq with rfl | hq
 . exact h.1
 rcases List.mem_cons.1 hq with rfl | hq
 . exact h.2.1
 rcases List.mem_cons.1 hq with rfl | hq
 . exact h.2.1
 rw[List.mem_singleton.1 hq];exact h.2.2.1
theorem Qv2(tr:List TryQ):okT (tr.map toTry)=tr.map toTry:=by
 unfold okT
 rw[List.filter_eq_self]
 intro x hx
 obtain⟨t,_,rfl⟩:=List.mem_map.1 hx
 rfl
set_option maxRecDepth 100000
set_option maxRecDepth 100000
theorem fl_eq{z q d:Int}(h0:0<d)(h1:q*d≤z)(h2:z<q*d+d):z / d=q:=by
 apply Int.le_antisymm
 . have:z / d<q+1:=(Int.ediv_lt_iff_lt_mul h0).2 (by rw[Int.add_mul,Int.one_mul];exact h2)
   omega
 . exact(Int.le_ediv_iff_mul_le h0).2 h1
theorem Qw1(s:Bool)(x d:Nat)(hd:0<d)(z v:Int)(hz:z=if s=true then -((x / d:Nat):Int) else ((x / d:Nat):Int))(hv:v=if s=true then -(x:Int) else (x:Int)):
 z.natAbs≤x∧(z*(d:Int)).natAbs≤x∧(v - z*(d:Int)).natAbs≤x∧(v - z*(d:Int)<0->v / (d:Int)=z - 1)∧(0≤v - z*(d:Int)->v / (d:Int)=z):=by
 have hq:=Nat.div_mul_le_self x d
 have hq2:x<x / d*d+d:=Nat.lt_div_mul_add hd
 have hle:=Nat.div_le_self x d
 generalize x / d=q at *
 have e1:z*(d:Int)=if s=true then -((q*d:Nat):Int) else ((q*d:Nat):Int):=by
  rw[hz];cases s
  . rw[if_neg (by decide),if_neg (by decide),Int.natCast_mul]
  . rw[if_pos rfl,if_pos rfl,Int.natCast_mul,Int.neg_mul]
 have k1:v - z*(d:Int)<0->v / (d:Int)=z - 1:=λh=>fl_eq (by omega) (by
  rw[Int.sub_mul,Int.one_mul];rw[e1] at h ⊢;rw[hv] at h ⊢
  cases s
  . rw[if_neg (by decide),if_neg (by decide)] at h;omega
  . rw[if_pos rfl,if_pos rfl];omega) (by rw[Int.sub_mul,Int.one_mul];omega)
 have k2:0≤v - z*(d:Int)->v / (d:Int)=z:=λh=>fl_eq (by omega) (by omega) (by
  rw[e1] at h ⊢;rw[hv] at h ⊢
  cases s
  . rw[if_neg (by decide),if_neg (by decide)];omega
  . rw[if_pos rfl,if_pos rfl] at h ⊢;omega)
 refine⟨?_,?_,?_,k1,k2⟩
 . rw[hz];cases s
   . rw[if_neg (by decide)];omega
   . rw[if_pos rfl];omega
 . rw[e1];cases s
   . rw[if_neg (by decide)];omega
   . rw[if_pos rfl];omega
 . rw[e1,hv];cases s
   . rw[if_neg (by decide),if_neg (by decide)];omega
   . rw[if_pos rfl,if_pos rfl];omega
theorem Qsh{z:Int}{a:Qd}(ha:Ww a)(h:z.natAbs≤val a.Abs):Ww (toW z):=⟨Xr _,by
 show(toL z.natAbs).length<_
 exact Nat.lt_of_le_of_lt (Nat.le_trans (Ky h) (Q6 ha.1)) ha.2⟩
theorem Qmg{n:Nat}{a:Qd}{d:List Nat}(hn:big≤n)(ha:Ww a)(hd:Wd d)(hl:d.length<4398046511104)(h0:val d≠0):∃ r,Qa8 n a ⟨false,d⟩=some (toW (wv a / (val d:Int)),r):=by
 unfold Qa8
 simp only[jn_eq]
 have l1:=ha.2
 have hb:Ww ⟨false,d⟩:=⟨hd,hl⟩
 rw[Qbd hn l1 hl ha.1 hd,if_neg h0,sbind]
 simp only[]
 rw[Bool.not_true,bifF,Vc,sbind]
 have vb:wv (⟨false,d⟩:Qd)=(val d:Int):=rfl
 have hs:(a.Neg != false)=a.Neg:=by cases a.Neg<;>rfl
 rw[hs]
 obtain⟨g1,g2,g3,g4,g5⟩:=Qw1 a.Neg (val a.Abs) (val d) (by omega) _ (wv a) rfl rfl
 have hdp:(0:Int)<(val d:Int):=by omega
 generalize (if a.Neg=true then -((val a.Abs / val d:Nat):Int) else ((val a.Abs / val d:Nat):Int))=z at *
 have wz:=Qsh ha g1
 have wm:=Qsh ha g2
 have wr:=Qsh ha g3
 have tri:∀ x:Int,-1≤x.sign∧x.sign≤1:=λx=>by
  rcases Int.lt_trichotomy x 0 with h | h | h
  . rw[Int.sign_eq_neg_one_of_neg h];omega
  . rw[h];decide
  . rw[Int.sign_eq_one_of_pos h];omega
 have tr:=tri (wv a - z*(val d:Int))
 rw[Qe7 hn wz hb,sbind,Wk,vb,Qcp hn ha wm,sbind,Wk,Zv hn wr,sbind,Zv hn hb,sbind,Wk,vb,Int.sign_eq_one_of_pos hdp,Int.mul_one,w64 (by omega) (by omega)]
 by_cases hneg:(wv a - z*(val d:Int)).sign<0
 . rw[decide_eq_true hneg,bifT,Qgc hn (by decide) (by decide),sbind,Qcp hn wz ⟨Xr _,by show(toL 1).length<_;rw[toL1];decide⟩,sbind,Wk,Wk,Qe8 hn wr hb,sbind,g4 (Int.sign_neg_iff.1 hneg)]
   exact⟨_,rfl⟩
 . rw[decide_eq_false hneg,bifF,g5 (Int.not_lt.1 λh=>hneg (Int.sign_neg_iff.2 h))]
   exact⟨_,rfl⟩
def floorQ(q:Rat):Int:=q.num / (q.den:Int)
theorem Qw2{z:Int}{d:Nat}(hd:d≠0):floorQ (mkRat z d)=z / (d:Int):=by
 obtain⟨e1,e2⟩:=Zi (z:=z) hd
 unfold floorQ
 rw[e1,e2]
 have g1:(Nat.gcd z.natAbs d:Int) ∣ z:=Int.dvd_natAbs.1 (Int.natCast_dvd_natCast.2 (Nat.gcd_dvd_left _ _))
 have g2:Nat.gcd z.natAbs d ∣ d:=Nat.gcd_dvd_right _ _
 have gp:0<Nat.gcd z.natAbs d:=Nat.gcd_pos_of_pos_right _ (by omega)
 generalize Nat.gcd z.natAbs d=g at *
 obtain⟨x,rfl⟩:=g1
 obtain⟨y,rfl⟩:=g2
 rw[Int.mul_ediv_cancel_left _ (by omega),Nat.mul_div_cancel_left _ gp,Int.natCast_mul,Int.mul_ediv_mul_of_pos _ _ (by omega)]
theorem Qnq{n k:Nat}{f:Qa}(hn:big≤n)(h1:1≤k)(hk:k<1099511627776)(hf:Fk k f):Qb7 n f=some (toW (floorQ (fv f))):=by
 obtain⟨w,d,e1,e2,e3,e4,e5,e6,e7⟩:=Zj hn hf h1 (by omega)
 unfold Qb7
 obtain⟨r,hr⟩:=Qmg hn (a:=w) (d:=d) ⟨e2,by omega⟩ e4 (by omega) e6
 rw[e1,sbind,hr,sbind,←e7,Qw2 e6]
theorem Qqv{n:Nat}{w:Qd}{d:List Nat}(hn:big≤n)(hw:Ww w)(hd:Wd d)(hl:d.length<4398046511104)(h0:val d≠0):Zs n w d=some (toF (mkRat (wv w) (val d)),true):=by
 unfold Zs
 rw[Qf8 hn (by omega) hd,sbind,decide_eq_false h0,bifF,Xv hn hw hd hl h0,sbind]
set_option maxRecDepth 100000
def fracsR(r:Qu):Prop:=∀ x∈[r.Tol,r.Safe,r.Low,r.High,r.Least],numR x
structure RulR(r:Qu):Prop where
 f:fracsR r
 tol:0≤(fv r.Tol).num.sign
 safe:0<(fv r.Safe).num.sign
 safe1:(fv r.Safe - 1).num.sign≤0
 low:0<(fv r.Low).num.sign
 low1:(fv r.Low - 1).num.sign<0
 high:0≤(fv r.High - 1).num.sign
 least:0<(fv r.Least).num.sign
 fine:1≤r.Fine∧r.Fine≤1024
 most:1≤r.Most∧r.Most≤200
def RulW(k:Nat)(r:Qu):Prop:=FR k [r.Tol,r.Safe,r.Low,r.High,r.Least]
theorem RulW.all{k:Nat}{r:Qu}(h:RulW k r):Fk k r.Tol∧Fk k r.Safe∧Fk k r.Low∧Fk k r.High∧Fk k r.Least:=
 ⟨h _ (by simp),h _ (by simp),h _ (by simp),h _ (by simp),h _ (by simp)⟩
theorem Qlo{n k:Nat}{l:List Qa}(hn:big≤n)(hk:k<1048576)(hl:FR k l):Qai n l=some (dP (∀ x∈l,numR x)):=by
 unfold Qai
 rw[Yr (λ_ (x:Qa)=>numR x) (r:=false),Qfa]
 . by_cases h:∀ x∈l,numR x
   . rw[if_pos h,dP_t h]
   . rw[if_neg h,dP_f h]
 . intro i x hx
   simp only[jn_eq]
   have e:=Qtn hn hk (hl x (Q9 hx))
   have e2:∀(K:Bool->Option (Lp Unit Bool)),((Kk n x).bind λr28=>bif !r28 then K true else (Ko n x).bind λr30=>K (decide ((190:Int)<r30)))=(((Kk n x).bind λr69=>bif !r69 then some true else (Ko n x).bind λr71=>some (decide ((190:Int)<r71))).bind K):=by
    intro K
    cases Kk n x with
    | none=>rfl
    | some v=>
      cases v
      . rfl
      . rw[Option.bind_some,Option.bind_some]
        cases Ko n x<;>rfl
   refine⟨λh=>?_,λh=>?_⟩
   . refine(e2 λs=>bif s then some (Lp.out false) else some (Lp.go ())).trans ?_
     rw[e,dP_t h];rfl
   . refine(e2 λs=>bif s then some (Lp.out false) else some (Lp.go ())).trans ?_
     rw[e,dP_f h];rfl
theorem Qet{n k:Nat}{f:Qa}(hn:big≤n)(h1:1≤k)(hk:k<1099511627776)(hf:Fk k f):Y1 n f=some (decide (0<(fv f).num.sign)):=by
 unfold Y1
 rw[Wg hn h1 hk hf,sbind]
theorem Qnr{n k:Nat}{r:Qu}(hn:big≤n)(h1:1≤k)(hk:k<1048576)(hr:RulW k r):Qb9 n r=some (dP (RulR r)):=by
 obtain⟨w1,w2,w3,w4,w5⟩:=hr.all
 have k1:Fk k (toF 1):=Q1 (by rw[Qnn];exact h1)
 have hk':k<1099511627776:=by omega
 unfold Qb9 Qed
 simp only[jn_eq]
 rw[Qbe hn,sbind,Qlo hn hk hr,sbind,bifnP]
 by_cases c1:∀ x∈[r.Tol,r.Safe,r.Low,r.High,r.Least],numR x
 case neg=>rw[if_neg c1,sbind,dP_f λh=>c1 h.f];rfl
 rw[if_pos c1,Wg hn h1 hk' w1,sbind]
 by_cases c2:(fv r.Tol).num.sign<0
 . rw[decide_eq_true c2,bifT,sbind,dP_f λh=>by have:=h.tol;omega];rfl
 rw[decide_eq_false c2,bifF,Qet hn h1 hk' w2,sbind]
 by_cases c3:0<(fv r.Safe).num.sign
 case neg=>rw[decide_eq_false c3,Bool.not_false,bifT,bifT,sbind,dP_f λh=>c3 h.safe];rfl
 rw[decide_eq_true c3,Bool.not_true,bifF,Ve (k:=k) hn h1 hk' w2 k1,sbind,Qw]
 by_cases c4:0<(fv r.Safe - 1).num.sign
 . rw[decide_eq_true c4,bifT,sbind,dP_f λh=>by have:=h.safe1;omega];rfl
 rw[decide_eq_false c4,bifF,Qet hn h1 hk' w3,sbind]
 by_cases c5:0<(fv r.Low).num.sign
 case neg=>rw[decide_eq_false c5,Bool.not_false,bifT,bifT,sbind,dP_f λh=>c5 h.low];rfl
 rw[decide_eq_true c5,Bool.not_true,bifF,Ve (k:=k) hn h1 hk' w3 k1,sbind,Qw]
 by_cases c6:0≤(fv r.Low - 1).num.sign
 . rw[decide_eq_true c6,bifT,sbind,dP_f λh=>by have:=h.low1;omega];rfl
 rw[decide_eq_false c6,bifF,Ve (k:=k) hn h1 hk' w4 k1,sbind,Qw]
 by_cases c7:(fv r.High - 1).num.sign<0
 . rw[decide_eq_true c7,bifT,sbind,dP_f λh=>by have:=h.high;omega];rfl
 rw[decide_eq_false c7,bifF,Qet hn h1 hk' w5,sbind]
 by_cases c8:0<(fv r.Least).num.sign
 case neg=>rw[decide_eq_false c8,Bool.not_false,bifT,sbind,dP_f λh=>c8 h.least];rfl
 rw[decide_eq_true c8,Bool.not_true,bifF]
 by_cases c9:r.Fine<1
 . rw[decide_eq_true c9,bifT,bifT,sbind,dP_f λh=>by have:=h.fine;omega];rfl
 rw[decide_eq_false c9,bifF]
 by_cases c10:1024<r.Fine
 . rw[decide_eq_true c10,bifT,sbind,dP_f λh=>by have:=h.fine;omega];rfl
 rw[decide_eq_false c10,bifF]
 by_cases c11:r.Most<1
 . rw[decide_eq_true c11,bifT,bifT,sbind,dP_f λh=>by have:=h.most;omega];rfl
 rw[decide_eq_false c11,bifF]
 by_cases c12:200<r.Most
 . rw[decide_eq_true c12,bifT,sbind,dP_f λh=>by have:=h.most;omega];rfl
 rw[decide_eq_false c12,bifF,sbind,dP_t ⟨c1,by omega,c3,by omega,c5,by omega,by omega,c8,by omega,by omega⟩];rfl
def accQ(r:Qu)(e:Rat):Prop:=(e - fv r.Tol).num.sign≤0
def underQ(r:Qu)(w:Rat):Prop:=(w - fv r.Least).num.sign<0
def cutQ(T E W:Rat):Rat:=if 0<(W - (E - T)).num.sign then E - T else W
def downQ(x:Rat)(fine:Int):Rat:=mkRat (floorQ (x*(fine:Rat))) fine.toNat
def factorQ(r:Qu)(e:Rat):Rat:=
 if e=0 then fv r.High else
 if (downQ (fv r.Safe*fv r.Tol / e) r.Fine - fv r.Low).num.sign<0 then fv r.Low else
 if 0<(downQ (fv r.Safe*fv r.Tol / e) r.Fine - fv r.High).num.sign then fv r.High else downQ (fv r.Safe*fv r.Tol / e) r.Fine
theorem Qlp{n k:Nat}{r:Qu}{e:Rat}(hn:big≤n)(h1:1≤k)(hk:k<1099511627776)(hr:Fk k r.Tol)(he:qw e≤k):Qah n r (toF e)=some (dP (accQ r e)):=by
 unfold Qah
 rw[Ve hn h1 hk (Q1 he) hr,sbind,Qw,decP];rfl
theorem Qhx{n k:Nat}{r:Qu}{e:Rat}(hn:big≤n)(h1:1≤k)(hk:k<1099511627776)(hr:Fk k r.Least)(he:qw e≤k):Qb8 n r (toF e)=some (dP (underQ r e)):=by
 unfold Qb8
 rw[Ve hn h1 hk (Q1 he) hr,sbind,Qw,decP];rfl
theorem Qj7{n k:Nat}{e:Qa}{T W:Rat}(hn:big≤n)(h1:1≤k)(hk:k<100000000)(hT:qw T≤k)(hE:Fk k e)(hW:qw W≤k):Qd1 n (toF T) e (toF W)=some (toF (cutQ T (fv e) W)):=by
 unfold Qd1 cutQ
 have hq:=Qnd (qw_fv hE h1) hT
 rw[Qgb (k:=k) hn h1 (by omega) hE (Q1 hT),sbind,Qw,Ve (k:=k+k+1) hn (by omega) (by omega) (Q1 (by omega)) (Q1 hq),sbind,Qw,Qw]
 by_cases h:0<(W - (fv e - T)).num.sign
 . rw[decide_eq_true h,if_pos h];rfl
 . rw[decide_eq_false h,if_neg h,bifF,Jl hn (Fk_Fw (Q1 hW) (by omega)),sbind,Qw]
theorem Qtq{z:Int}{k:Nat}(h1:1≤k)(h:(toL z.natAbs).length≤k):qw (z:Rat)≤k:=by
 unfold qw
 rw[show((z:Rat)).num=z from rfl,show((z:Rat)).den=1 from rfl,toL1];omega
theorem Qjp{fine:Int}(h:1≤fine∧fine≤1024):(toL fine.natAbs).length≤1:=Xk (n:=fine.natAbs) (k:=1) (by rw[K2,Xu];omega)
theorem Qp4(q:Rat):(floorQ q).natAbs≤q.num.natAbs:=by
 unfold floorQ
 exact Int.natAbs_ediv_le_natAbs _ _
theorem Qo8{n k:Nat}{x:Rat}{fine:Int}(hn:big≤n)(h1:1≤k)(hk:k<100000000)(hx:qw x≤k)(hf:1≤fine∧fine≤1024):Qc3 n (toF x) fine=some (toF (downQ x fine)):=by
 unfold Qc3 downQ
 have hq:qw (fine:Rat)≤1:=Qtq (by omega) (Qjp hf)
 have hm:=Qao hx hq
 rw[Qes hn (by omega) (by omega),sbind,Yd (k:=k) hn h1 (by omega) (Q1 hx) (Q1 (by omega)),sbind,Qw,Qw,Qnq (k:=k+1) hn (by omega) (by omega) (Q1 hm),sbind,Qw,Qgc hn (by omega) (by omega),sbind]
 have hfl:(toL (floorQ (x*(fine:Rat))).natAbs).length≤k+1:=Nat.le_trans (Ky (Qp4 _)) (Nat.le_trans (Qfw _) hm)
 have hv:val (toW fine).Abs=fine.toNat:=by
  show val (toL fine.natAbs)=_
  rw[Q0];omega
 rw[Qqv hn (w:=toW (floorQ (x*(fine:Rat)))) (d:=(toW fine).Abs) ⟨Xr _,by show(toL (floorQ (x*(fine:Rat))).natAbs).length<_;omega⟩ (Xr _) (by show(toL fine.natAbs).length<_;have:=Qjp hf;omega) (by rw[hv];omega),sbind,Wk,hv]
theorem Qx9{x:Rat}{fine:Int}{k:Nat}(hx:qw x≤k)(hf:1≤fine∧fine≤1024):qw (downQ x fine)≤k+1:=by
 unfold downQ
 have hq:qw (fine:Rat)≤1:=Qtq (by omega) (Qjp hf)
 have hm:=Qao hx hq
 refine Qjk (by omega) (Nat.le_trans (Ky (Qp4 _)) (Nat.le_trans (Qfw _) hm)) ?_
 have:=Qjp hf
 rw[show fine.toNat=fine.natAbs by omega];omega
theorem Qmh{n k:Nat}{r:Qu}{e:Rat}(hn:big≤n)(h1:1≤k)(hk:k<1000000)(hr:RulW k r)(hf:1≤r.Fine∧r.Fine≤1024)(he:qw e≤k):Qa9 n r (toF e)=some (toF (factorQ r e)):=by
 obtain⟨w1,w2,w3,w4,w5⟩:=hr.all
 have hm:=Qao (qw_fv w2 h1) (qw_fv w1 h1)
 have hd:=Qvt hm he
 have hdn:=Qx9 hd hf
 unfold Qa9 factorQ
 rw[Yd (k:=k) hn h1 (by omega) w2 w1,sbind,Qj0 (k:=k+k) hn (by omega) (by omega) (Q1 hm) (Q1 (by omega)),sbind,Qw,Qw]
 by_cases h0:e=0
 . rw[if_pos h0,if_pos h0]
   simp only[]
   rw[Bool.not_false,bifT,Jl hn (Fk_Fw w4 (by omega)),sbind]
 rw[if_neg h0,if_neg h0]
 simp only[]
 rw[Bool.not_true,bifF,Qo8 (k:=k+k+k) hn (by omega) (by omega) hd hf,sbind,Ve (k:=k+k+k+1) hn (by omega) (by omega) (Q1 hdn) (Kh w3 (by omega)),sbind,Qw]
 generalize downQ (fv r.Safe*fv r.Tol / e) r.Fine=x at *
 by_cases g1:(x - fv r.Low).num.sign<0
 . rw[decide_eq_true g1,if_pos g1,bifT,Jl hn (Fk_Fw w3 (by omega)),sbind]
 rw[decide_eq_false g1,if_neg g1,bifF,Ve (k:=k+k+k+1) hn (by omega) (by omega) (Q1 hdn) (Kh w4 (by omega)),sbind,Qw]
 by_cases g2:0<(x - fv r.High).num.sign
 . rw[decide_eq_true g2,if_pos g2,bifT,Jl hn (Fk_Fw w4 (by omega)),sbind]
 . rw[decide_eq_false g2,if_neg g2,bifF]
set_option maxRecDepth 100000
theorem sg_lt{a b:Rat}:(a - b).num.sign<0↔a<b:=by
 rw[Int.sign_neg_iff,←Int.not_le,Rat.num_nonneg,←Rat.le_iff_sub_nonneg,Rat.not_le]
theorem sg_gt{a b:Rat}:0<(a - b).num.sign↔b<a:=by
 have e:(a - b).num=-(b - a).num:=by rw[←Qou,Rat.neg_sub]
 rw[Int.sign_pos_iff,e,←sg_lt,Int.sign_neg_iff];omega
theorem sg_le{a b:Rat}:(a - b).num.sign≤0↔a≤b:=by rw[←Int.not_lt,sg_gt,Rat.not_lt]
theorem sg_ge{a b:Rat}:0≤(a - b).num.sign↔b≤a:=by rw[←Int.not_lt,sg_lt,Rat.not_lt]
theorem Qfy{a:Rat}:0<a.num.sign↔0<a:=by
 have:=@sg_gt a 0
 rwa [show a - 0=a by grind] at this
theorem Qw3{x h:Rat}{fine:Int}{j:Nat}(hf:1≤fine∧fine≤1024)(h0:0<downQ x fine)(h1:downQ x fine≤h)(hj:qw h≤j):qw (downQ x fine)≤j+1:=by
 have hden:(downQ x fine).den≤1024:=by
  unfold downQ
  rw[(Zi (z:=floorQ (x*(fine:Rat))) (d:=fine.toNat) (by omega)).2]
  exact Nat.le_trans (Nat.div_le_self _ _) (by omega)
 generalize downQ x fine=y at *
 have hn:0<y.num:=by
  have:=Qfy.2 h0
  exact Int.sign_pos_iff.1 this
 rw[Rat.le_iff] at h1
 have hd1:(1:Int)≤(h.den:Int):=by have:=h.den_nz;omega
 have a1:y.num≤y.num*(h.den:Int):=by
  have:=Int.mul_le_mul_of_nonneg_left hd1 (Int.le_of_lt hn);rwa [Int.mul_one] at this
 have hpos:0≤h.num:=by
  rcases Int.lt_or_le h.num 0 with g | g
  . have:=Int.mul_neg_of_neg_of_pos g (show(0:Int)<(y.den:Int) by have:=y.den_nz;omega);omega
  . exact g
 have a2:h.num*(y.den:Int)≤h.num*1024:=Int.mul_le_mul_of_nonneg_left (by omega) hpos
 have a3:y.num.natAbs≤h.num.natAbs*1024:=by omega
 have l1:(toL y.num.natAbs).length≤j+1:=by
  refine Nat.le_trans (Ky a3) (Nat.le_trans Yx ?_)
  have:=Nat.le_trans (Qfw h) hj
  have:(toL 1024).length≤1:=Xk (n:=1024) (k:=1) (by rw[K2,Xu];omega)
  omega
 have l2:(toL y.den).length≤1:=Xk (n:=y.den) (k:=1) (by rw[K2,Xu];omega)
 unfold qw;omega
theorem Qur{r:Qu}(hr:RulR r)(e:Rat):0<factorQ r e:=by
 have h1:=Qfy.1 hr.low
 have h2:=sg_ge.1 hr.high
 unfold factorQ
 split
 . grind
 . split
   . exact h1
   . rename_i g1
     split
     . grind
     . have g3:=Rat.not_lt.1 (λh=>g1 (sg_lt.2 h));grind
theorem Qns{r:Qu}(hr:RulR r){j:Nat}(hl:qw (fv r.Low)≤j)(hh:qw (fv r.High)≤j)(e:Rat):qw (factorQ r e)≤j+1:=by
 have h1:=Qfy.1 hr.low
 unfold factorQ
 split
 . omega
 . split
   . omega
   . rename_i g1
     split
     . omega
     . rename_i g2
       have g3:=Rat.not_lt.1 (λh=>g1 (sg_lt.2 h))
       exact Qw3 hr.fine (by grind) (Rat.not_lt.1 λh=>g2 (sg_gt.2 h)) hh
structure TryA where
 T:Rat
 Want:Rat
 H:Rat
 Err:Rat
 Y:List Rat
 Ok:Bool
def toTryA(t:TryA):Qp:=⟨toF t.T,toF t.Want,toF t.H,toF t.Err,toR t.Y,t.Ok⟩
noncomputable def tryA(r:Qu)(E T:Rat)(Y:List Rat)(W:Rat)(z:MadeQ):TryA:=⟨T,W,cutQ T E W,normQ z.err,Y,dP (accQ r (normQ z.err))⟩
noncomputable def adaptQ(p:Qg)(r:Qu)(E:Rat):Nat->List TryA->Rat->List Rat->Rat->(List TryA×Rat×List Rat)×Qc
 | 0,tr,T,Y,_=>if T=E then ((tr,T,Y),⟨0,0,0,0⟩) else ((tr,T,Y),⟨5,(tr.length:Int)+1,0,0⟩)
 | m+1,tr,T,Y,W=>if T=E then ((tr,T,Y),⟨0,0,0,0⟩) else
   bif dP (underQ r W) then ((tr,T,Y),⟨4,(tr.length:Int)+1,0,0⟩) else
   match stepQ p T (cutQ T E W) Y with
   | .inl f=>((tr,T,Y),⟨f.Kind,(tr.length:Int)+1,f.Stage,f.At⟩)
   | .inr z=>adaptQ p r E m (tr++[tryA r E T Y W z]) (bif dP (accQ r (normQ z.err)) then T+cutQ T E W else T) (bif dP (accQ r (normQ z.err)) then z.next else Y) (cutQ T E W*factorQ r (normQ z.err))
def gA:Nat->Nat×Nat
 | 0=>(2,2)
 | n+1=>((gA n).1+(gA n).2+1,max ((gA n).1+3) (gA n).2+3)
theorem gA_le:∀ n,n≤12->(gA n).1≤3000∧(gA n).2≤3000:=by decide
theorem Qsi:∀ n,2≤(gA n).1∧2≤(gA n).2
 | 0=>⟨Nat.le_refl _,Nat.le_refl _⟩
 | n+1=>by
   obtain⟨a,b⟩:=Qsi n
   exact⟨by show 2≤(gA n).1+(gA n).2+1;omega,by show 2≤max ((gA n).1+3) (gA n).2+3;omega⟩
theorem Qtr{T E W:Rat}{a b:Nat}(hT:qw T≤a)(hE:qw E≤2)(hW:qw W≤b):qw (cutQ T E W)≤max (a+3) b∧qw (T+cutQ T E W)≤max 2 (a+b+1):=by
 unfold cutQ
 split
 . have:=Qnd hE hT
   refine⟨by omega,?_⟩
   rw[show T+(E - T)=E by grind];omega
 . have:=Qfx hT hW
   exact⟨by omega,by omega⟩
set_option maxRecDepth 100000
abbrev AdS:=Q4×(List Qp)×Qa×(List Qa)×Qa×Qc
def adBody(n:Nat)(s57:AdS):Option (Lp AdS AdS):=
 (Vv n s57.1 s57.2.1 s57.2.2.1 s57.2.2.2.1 s57.2.2.2.2.1).bind λr58=>
 bif !r58 then (
  jn (λ(j68:(Q4×(List Qp)×Qa×(List Qa)×Qa×Qc×Bool)->Option _)=>
   (Kz n s57.1 s57.2.1 s57.2.2.1 s57.2.2.2.1 s57.2.2.2.2.1).bind λr71=>
   (Vw r71 s57.2.2.2.2.2).bind λr73=>
   bif r73.1 then (
    j68 (s57.1,s57.2.1,s57.2.2.1,s57.2.2.2.1,s57.2.2.2.2.1,r73.2,true))
   else (
    (K8 n s57.1 s57.2.1 s57.2.2.1 s57.2.2.2.1 s57.2.2.2.2.1).bind λr75=>
    (Vw r75.1 r73.2).bind λr77=>
    j68 (r75.2.1,r75.2.2.2.2.2,r75.2.2.1,r75.2.2.2.1,r75.2.2.2.2.1,r77.2,r77.1))) (λ(s70:Q4×(List Qp)×Qa×(List Qa)×Qa×Qc×Bool)=>
   bif s70.2.2.2.2.2.2 then (
    some (Lp.out (s70.1,s70.2.1,s70.2.2.1,s70.2.2.2.1,s70.2.2.2.2.1,s70.2.2.2.2.2.1)))
   else (
    some (Lp.go (s70.1,s70.2.1,s70.2.2.1,s70.2.2.2.1,s70.2.2.2.2.1,s70.2.2.2.2.2.1)))))
 else (
  some (Lp.out (s57.1,s57.2.1,s57.2.2.1,s57.2.2.2.1,s57.2.2.2.2.1,s57.2.2.2.2.2)))
theorem Qv3(n:Nat)(x0:Q4):Qca n x0=(Zd n x0).bind λr1=>
 bif !r1 then (
  some ((⟨[],(⟨(⟨false,[]⟩:Qd),[]⟩:Qa),[]⟩:Qn),(⟨(2:Int),0,0,0⟩:Qc)))
 else (
  (Jc n x0.Start).bind λr3=>
  (Jm n (1:Int)).bind λr5=>
  (W9 n r5 x0.Y).bind λr7=>
  (Jc n x0.First).bind λr9=>
  (loopM (adBody n) n (x0,([]:List Qp),r3,r7,r9,(⟨0,0,0,0⟩:Qc))).bind λ(t55:AdS)=>
  some ((⟨t55.2.1,t55.2.2.1,t55.2.2.2.1⟩:Qn),t55.2.2.2.2.2)):=Eq.symm (Eq.symm rfl)
structure TskW(k:Q4):Prop where
 p:PrbW 4000 k.Problem
 r:RulW 2 k.Rules
 s:Fk 2 k.Start
 e:Fk 2 k.End
 f:Fk 2 k.First
 y:FR 2 k.Y
def TskR(k:Q4):Prop:=prbR k.Problem∧RulR k.Rules∧(k.Y.length:Int)=k.Problem.Tape.Dim∧fv k.Start≤fv k.End∧0<fv k.First
theorem Qmi{n:Nat}{k:Q4}(hn:big≤n)(hw:TskW k):Zd n k=some (dP (TskR k)):=by
 unfold Zd TskR
 simp only[jn_eq]
 rw[Qjo hn (by decide) (by decide) hw.p,sbind,bifP]
 by_cases c1:prbR k.Problem
 case neg=>rw[if_neg c1,dP_f λh=>c1 h.1]
 rw[if_pos c1,Qnr hn (by decide) (by decide) hw.r,sbind,bifP]
 by_cases c2:RulR k.Rules
 case neg=>rw[if_neg c2,dP_f λh=>c2 h.2.1]
 rw[if_pos c2]
 by_cases c3:(k.Y.length:Int)=k.Problem.Tape.Dim
 case neg=>rw[decide_eq_false c3,bifF,dP_f λh=>c3 h.2.2.1]
 rw[decide_eq_true c3,bifT,Ve (k:=2) hn (by decide) (by decide) hw.e hw.s,sbind]
 by_cases c4:0≤(fv k.End - fv k.Start).num.sign
 case neg=>rw[decide_eq_false c4,bifF,dP_f λh=>c4 (sg_ge.2 h.2.2.2.1)]
 rw[decide_eq_true c4,bifT,Wg (k:=2) hn (by decide) (by decide) hw.f,sbind]
 by_cases c5:0<(fv k.First).num.sign
 . rw[decide_eq_true c5,dP_t ⟨c1,c2,c3,sg_ge.1 c4,Qfy.1 c5⟩]
 . rw[decide_eq_false c5,dP_f λh=>c5 (Qfy.2 h.2.2.2.2)]
theorem Qp5{f:Qc}(h:f.Kind≠0):Qt f ⟨0,0,0,0⟩=false:=by
 obtain⟨a,b,c,d⟩:=f
 exact Xo h
theorem Qya{n:Nat}{k:Q4}(hn:big≤n)(hw:TskW k)(hp:prbR k.Problem)(hr:RulR k.Rules):∀(m:Nat) (tr:List TryA) (T:Rat) (Y:List Rat) (W:Rat) (n':Nat),
 ((tr.length+m:Nat):Int)=k.Rules.Most->tr.length+m≤12->m<n'->qw T≤(gA tr.length).1->qw W≤(gA tr.length).2->QR 129 Y->(Y.length:Int)=k.Problem.Tape.Dim →
 ∃ w,loopM (adBody n) n' (k,tr.map toTryA,toF T,toR Y,toF W,⟨0,0,0,0⟩) =
   some (k,(adaptQ k.Problem k.Rules (fv k.End) m tr T Y W).1.1.map toTryA,toF (adaptQ k.Problem k.Rules (fv k.End) m tr T Y W).1.2.1,toR (adaptQ k.Problem k.Rules (fv k.End) m tr T Y W).1.2.2,w,(adaptQ k.Problem k.Rules (fv k.End) m tr T Y W).2):=by
 obtain⟨v1,v2,v3,v4,v5⟩:=hw.r.all
 have hE:qw (fv k.End)≤2:=qw_fv hw.e (by decide)
 have over:∀ {tr:List TryA}{T:Rat}{Y:List Rat}{W:Rat},qw T≤3000->Vv n k (tr.map toTryA) (toF T) (toR Y) (toF W)=some (decide (T=fv k.End)):=λhT=>by
  unfold Vv
  rw[Yy (k:=3000) hn (by decide) (by decide) (Q1 hT) (Kh hw.e (by decide)),sbind,Qw]
 intro m
 induction m with
 | zero=>
   intro tr T Y W n' hm h12 hn' hT hW hY hYl
   obtain⟨b1,b2⟩:=gA_le tr.length (by omega)
   refine⟨toF W,Qa1 ?_ (by omega)⟩
   unfold adBody
   simp only[jn_eq]
   rw[over (by omega),sbind]
   unfold adaptQ
   by_cases hTE:T=fv k.End
   . rw[decide_eq_true hTE,if_pos hTE];rfl
   rw[decide_eq_false hTE,if_neg hTE,Bool.not_false,bifT]
   unfold Kz Vw
   rw[List.length_map,decide_eq_true (by omega),bifT,sbind,sbind,w1 (by omega)]
   rw[Xo (by decide)]
   rfl
 | succ m ih=>
   intro tr T Y W n' hm h12 hn' hT hW hY hYl
   obtain⟨b1,b2⟩:=gA_le tr.length (by omega)
   by_cases hTE:T=fv k.End
   . refine⟨toF W,Qa1 ?_ (by omega)⟩
     unfold adBody adaptQ
     rw[over (by omega),sbind,decide_eq_true hTE,if_pos hTE];rfl
   by_cases hu:underQ k.Rules W
   . refine⟨toF W,Qa1 ?_ (by omega)⟩
     unfold adBody adaptQ
     simp only[jn_eq]
     rw[over (by omega),sbind,decide_eq_false hTE,if_neg hTE,Bool.not_false,bifT,dP_t hu,bifT]
     unfold Kz Vw
     rw[List.length_map,decide_eq_false (by omega),bifF,Qhx (k:=3000) hn (by decide) (by decide) (Kh v5 (by decide)) (by omega),sbind,dP_t hu,bifT,sbind,sbind,w1 (by omega),Xo (by decide)]
     rfl
   obtain⟨c1,c2⟩:=Qtr (E:=fv k.End) hT hE hW
   have hst:=Qsi tr.length
   have hcut:qw (cutQ T (fv k.End) W)≤3900:=by omega
   obtain⟨d1,d2⟩:=Qk2 (k:=4000) (p:=k.Problem) (t:=toF T) (h:=toF (cutQ T (fv k.End) W)) (y:=toR Y) hn (by decide) (by decide) hw.p (Q1 (by omega)) (Q1 (by omega)) (Vl (V1 hY (by decide)))
   rw[Qw,Qw,Xm] at d1 d2
   have hmay:Kz n k (tr.map toTryA) (toF T) (toR Y) (toF W)=some ⟨0,0,0,0⟩:=by
    unfold Kz
    rw[List.length_map,decide_eq_false (by omega),bifF,Qhx (k:=3000) hn (by decide) (by decide) (Kh v5 (by decide)) (by omega),sbind,dP_f hu,bifF]
   cases hs:stepQ k.Problem T (cutQ T (fv k.End) W) Y with
   | inl f=>
     have hk:=d2 f hs
     refine⟨toF W,Qa1 ?_ (by omega)⟩
     unfold adBody adaptQ
     simp only[jn_eq]
     rw[over (by omega),sbind,decide_eq_false hTE,if_neg hTE,Bool.not_false,bifT,hmay,sbind,dP_f hu,bifF]
     unfold K8 Vw
     rw[sbind,W5,Qj7 (k:=3900) hn (by decide) (by decide) (by omega) (Kh hw.e (by decide)) (by omega),sbind,d1,hs]
     simp only[jn_eq]
     rw[sbind,Qp5 hk,List.length_map,w1 (by omega)]
     simp only[Bool.not_true,Bool.not_false,bifT,bifF,sbind]
     rw[Xo hk]
     rfl
   | inr z=>
     obtain⟨_,_,z1,z2,z3⟩:=Qmf hs
     have hne:=Qp3 (k:=129) (l:=z.err) (by decide) z3
     have hfa:=Qns hr (j:=2) (qw_fv v3 (by decide)) (qw_fv v4 (by decide)) (normQ z.err)
     have hml:=Qao c1 hfa
     obtain⟨n',rfl⟩:∃ q,n'=q+1:=⟨n' - 1,by omega⟩
     have hlen:(tr++[tryA k.Rules (fv k.End) T Y W z]).length=tr.length+1:=by simp
     have hgo:adBody n (k,tr.map toTryA,toF T,toR Y,toF W,⟨0,0,0,0⟩)=some (Lp.go (k,(tr++[tryA k.Rules (fv k.End) T Y W z]).map toTryA,toF (bif dP (accQ k.Rules (normQ z.err)) then T+cutQ T (fv k.End) W else T),toR (bif dP (accQ k.Rules (normQ z.err)) then z.next else Y),toF (cutQ T (fv k.End) W*factorQ k.Rules (normQ z.err)),⟨0,0,0,0⟩)):=by
      unfold adBody
      simp only[jn_eq]
      rw[over (by omega),sbind,decide_eq_false hTE,Bool.not_false,bifT,hmay,sbind]
      unfold K8 Vw
      rw[sbind,W5,Qj7 (k:=3900) hn (by decide) (by decide) (by omega) (Kh hw.e (by decide)) (by omega),sbind,d1,hs]
      simp only[jn_eq]
      rw[sbind,W5]
      simp only[Bool.not_true,bifF]
      rw[show(toM z).Err=toR z.err from rfl,show(toM z).Next=toR z.next from rfl,Qj3 (k:=129) hn (by decide) (by decide) (Vl z3),sbind,Xm,Qlp (k:=129) hn (by decide) (by decide) (Kh v1 (by decide)) hne,sbind,Vp (by simp;omega) (by simp;omega),sbind]
      unfold Qff
      have e1:tr.map toTryA++[(⟨toF T,toF W,toF (cutQ T (fv k.End) W),toF (normQ z.err),toR Y,dP (accQ k.Rules (normQ z.err))⟩:Qp)]=(tr++[tryA k.Rules (fv k.End) T Y W z]).map toTryA:=by rw[List.map_append];rfl
      rw[e1,W0 (k:=3900) hn (by decide) (by decide) (Q1 (by omega)) (Q1 hcut),Qmh (k:=129) hn (by decide) (by decide) (λx hx=>Kh (hw.r x hx) (by decide)) hr.fine hne,sbind,sbind,Yd (k:=3900) hn (by decide) (by decide) (Q1 hcut) (Q1 (by omega)),Qw,Qw,Qw]
      cases dP (accQ k.Rules (normQ z.err))
      . rfl
      . rfl
     rw[Qk9 hgo]
     have hq:adaptQ k.Problem k.Rules (fv k.End) (m+1) tr T Y W=adaptQ k.Problem k.Rules (fv k.End) m (tr++[tryA k.Rules (fv k.End) T Y W z]) (bif dP (accQ k.Rules (normQ z.err)) then T+cutQ T (fv k.End) W else T) (bif dP (accQ k.Rules (normQ z.err)) then z.next else Y) (cutQ T (fv k.End) W*factorQ k.Rules (normQ z.err)):=by
      conv=>lhs;unfold adaptQ
      rw[if_neg hTE,dP_f hu,bifF,hs]
     rw[hq]
     refine ih _ _ _ _ n' (by rw[hlen];omega) (by rw[hlen];omega) (by omega) ?_ ?_ ?_ ?_
     . rw[hlen]
       show qw _≤(gA tr.length).1+(gA tr.length).2+1
       cases dP (accQ k.Rules (normQ z.err))
       . rw[bifF];omega
       . rw[bifT];omega
     . rw[hlen]
       show qw _≤max ((gA tr.length).1+3) (gA tr.length).2+3
       omega
     . cases dP (accQ k.Rules (normQ z.err))
       . exact hY
       . exact z1
     . cases dP (accQ k.Rules (normQ z.err))
       . exact hYl
       . rw[bifT,z2];exact hYl
theorem Qnt{n:Nat}{k:Q4}(hn:big≤n)(hw:TskW k)(hm:RulR k.Rules->k.Rules.Most≤12)(hyl:k.Y.length≤1000):
 Qca n k=some (@ite _ (TskR k) (Classical.propDecidable _) (⟨(adaptQ k.Problem k.Rules (fv k.End) k.Rules.Most.toNat [] (fv k.Start) (rv k.Y) (fv k.First)).1.1.map toTryA,toF (adaptQ k.Problem k.Rules (fv k.End) k.Rules.Most.toNat [] (fv k.Start) (rv k.Y) (fv k.First)).1.2.1,toR (adaptQ k.Problem k.Rules (fv k.End) k.Rules.Most.toNat [] (fv k.Start) (rv k.Y) (fv k.First)).1.2.2⟩,(adaptQ k.Problem k.Rules (fv k.End) k.Rules.Most.toNat [] (fv k.Start) (rv k.Y) (fv k.First)).2) (noH,⟨2,0,0,0⟩)):=by
 rw[Qv3,Qmi hn hw,sbind,bifnP]
 by_cases hr:TskR k
 case neg=>rw[if_neg hr,if_neg hr];rfl
 have h12:=hm hr.2.1
 have h1:=hr.2.1.most
 rw[if_pos hr,if_pos hr,Jl hn (Fk_Fw hw.s (by decide)),sbind,Qbe hn,sbind,Qap (k:=2) hn (by decide) (by decide) (Q1 (by rw[Qnn];decide)) hw.y (by omega),sbind,Qw,Qo7,Jl hn (Fk_Fw hw.f (by decide)),sbind]
 obtain⟨w,hl⟩:=Qya hn hw hr.1 hr.2.1 k.Rules.Most.toNat [] (fv k.Start) (rv k.Y) (fv k.First) n (by simp;omega) (by simp;omega) (by unfold big at hn;omega) (qw_fv hw.s (by decide)) (qw_fv hw.f (by decide)) (V1 (QR_rv hw.y (by decide)) (by decide)) (by rw[Va];exact hr.2.2.1)
 rw[List.map_nil] at hl
 rw[hl,sbind]
set_option maxRecDepth 100000
structure TA(K d:Nat)(x:TryA):Prop where
 t:qw x.T≤K
 w:qw x.Want≤K
 h:qw x.H≤K
 e:qw x.Err≤K
 y:QR K x.Y
 l:x.Y.length=d
theorem Qsj{p:Qg}{r:Qu}{E:Rat}{d:Nat}(hr:RulR r)(hl:qw (fv r.Low)≤2)(hh:qw (fv r.High)≤2)(hE:qw E≤2):∀(m:Nat) (tr:List TryA) (T:Rat) (Y:List Rat) (W:Rat),
 tr.length+m≤12->qw T≤(gA tr.length).1->qw W≤(gA tr.length).2->QR 129 Y->Y.length=d->(∀ t∈tr,TA 4000 d t) →
 (∀ t∈(adaptQ p r E m tr T Y W).1.1,TA 4000 d t)∧qw (adaptQ p r E m tr T Y W).1.2.1≤4000∧QR 129 (adaptQ p r E m tr T Y W).1.2.2∧(adaptQ p r E m tr T Y W).1.2.2.length=d∧(adaptQ p r E m tr T Y W).1.1.length≤tr.length+m
 | 0,tr,T,Y,W,h12,hT,hW,hY,hYl,htr=>by
   obtain⟨b1,b2⟩:=gA_le tr.length (by omega)
   unfold adaptQ
   split<;>exact⟨htr,by show qw T≤4000;omega,hY,hYl,Nat.le_refl _⟩
 | m+1,tr,T,Y,W,h12,hT,hW,hY,hYl,htr=>by
   obtain⟨b1,b2⟩:=gA_le tr.length (by omega)
   have hst:=Qsi tr.length
   have stay:(∀ t∈tr,TA 4000 d t)∧qw T≤4000∧QR 129 Y∧Y.length=d∧tr.length≤tr.length+(m+1):=⟨htr,by omega,hY,hYl,by omega⟩
   by_cases h:T=E
   . simp only[adaptQ,if_pos h];exact h ▸ stay
   simp only[adaptQ,if_neg h]
   cases dP (underQ r W)
   case true=>exact stay
   rw[bifF]
   obtain⟨c1,c2⟩:=Qtr (E:=E) hT hE hW
   cases hs:stepQ p T (cutQ T E W) Y with
   | inl f=>exact stay
   | inr z=>
     obtain⟨_,_,z1,z2,z3⟩:=Qmf hs
     have hne:=Qp3 (k:=129) (l:=z.err) (by decide) z3
     have hfa:=Qns hr (j:=2) hl hh (normQ z.err)
     have hml:=Qao c1 hfa
     have hlen:(tr++[tryA r E T Y W z]).length=tr.length+1:=by simp
     have ih:=Qsj (p:=p) (E:=E) (d:=d) hr hl hh hE m (tr++[tryA r E T Y W z]) (bif dP (accQ r (normQ z.err)) then T+cutQ T E W else T) (bif dP (accQ r (normQ z.err)) then z.next else Y) (cutQ T E W*factorQ r (normQ z.err)) (by rw[hlen];omega) (by
      rw[hlen]
      show qw _≤(gA tr.length).1+(gA tr.length).2+1
      cases dP (accQ r (normQ z.err))
      . rw[bifF];omega
      . rw[bifT];omega) (by
      rw[hlen]
      show qw _≤max ((gA tr.length).1+3) (gA tr.length).2+3
      omega) (by
      cases dP (accQ r (normQ z.err))
      . exact hY
      . exact z1) (by
      cases dP (accQ r (normQ z.err))
      . exact hYl
      . rw[bifT,z2];exact hYl) (λt ht=>by
      rcases List.mem_append.1 ht with ht | ht
      . exact htr t ht
      . rw[List.mem_singleton.1 ht]
        exact⟨by show qw T≤_;omega,by show qw W≤_;omega,by show qw (cutQ T E W)≤_;omega,by show qw (normQ z.err)≤_;omega,show QR 4000 Y from V1 hY (by decide),hYl⟩)
     rw[hlen] at ih
     obtain⟨i1,i2,i3,i4,i5⟩:=ih
     exact⟨i1,i2,i3,i4,Nat.le_trans i5 (by omega)⟩
def mA(tr:List TryA)(T:Rat)(Y:List Rat):Qn:=⟨tr.map toTryA,toF T,toR Y⟩
theorem Qs4(t:TryA):Wc (toTryA t)=some (toR [t.T,t.Want,t.H,t.Err]):=rfl
theorem Qsk{k m:Nat}{t:TryA}(h:TA k m t):QR k [t.T,t.Want,t.H,t.Err]:=λq hq=>by
 rcases List.mem_cons.1 hq with rfl | hq
 . exact h.t
 rcases List.mem_cons.1 hq with rfl | hq
 . exact h.w
 rcases List.mem_cons.1 hq with rfl | hq
 . exact h.h
 rw[List.mem_singleton.1 hq];exact h.e
theorem getTA{tr:List TryA}{i:Nat}{x:Qp}(h:(tr.map toTryA)[i]?=some x):∃ t,tr[i]?=some t∧x=toTryA t:=by
 rw[List.getElem?_map] at h
 cases ht:tr[i]? with
 | none=>rw[ht] at h;cases h
 | some t=>rw[ht] at h;cases h;exact⟨t,rfl,rfl⟩
def tR(r:J1):Qu:=⟨tF r.Tol,tF r.Safe,tF r.Low,tF r.High,tF r.Least,r.Fine,r.Most⟩
def tK(k:Jg):Q4:=⟨tP k.Problem,tR k.Rules,tF k.Start,tF k.End,tF k.First,k.Y.map tF⟩
def F2(f:Qf):Prop:=f.N.length≤2∧f.D.length≤2
structure TskL(k:Jg):Prop where
 p:(k.Problem.Tape.Code.length≤10∧k.Problem.Tape.Outs.length≤10∧∀ c∈k.Problem.Tape.Code,c.N.N.length≤2∧c.N.D.length≤2)∧(k.Problem.Scheme.Name.length≤50∧k.Problem.Scheme.A.length≤4∧FL 4 4 k.Problem.Scheme.B∧FL 4 4 k.Problem.Scheme.C∧FL 4 4 k.Problem.Scheme.E∧∀ r∈k.Problem.Scheme.A,FL 4 4 r)∧FL 6 2 k.Problem.P
 r:F2 k.Rules.Tol∧F2 k.Rules.Safe∧F2 k.Rules.Low∧F2 k.Rules.High∧F2 k.Rules.Least
 m:k.Rules.Most≤12∨200<k.Rules.Most
 s:F2 k.Start
 e:F2 k.End
 f:F2 k.First
 y:FL 4 2 k.Y
theorem Qnu{r:J1}:∃ v,Wq r 2=some v∧(v=false->F2 r.Tol∧F2 r.Safe∧F2 r.Low∧F2 r.High∧F2 r.Least):=by
 unfold Wq
 simp only[jn_eq]
 have e:∀ g:Qf,Qy g 2=some (!decide (g.N.length≤2∧g.D.length≤2)):=λg=>Qbq g 2
 simp only[e,sbind]
 by_cases h1:r.Tol.N.length≤2∧r.Tol.D.length≤2
 case neg=>rw[decide_eq_false h1];exact⟨true,rfl,λh=>by cases h⟩
 by_cases h2:r.Safe.N.length≤2∧r.Safe.D.length≤2
 case neg=>rw[decide_eq_true h1,decide_eq_false h2];exact⟨true,rfl,λh=>by cases h⟩
 by_cases h3:r.Low.N.length≤2∧r.Low.D.length≤2
 case neg=>rw[decide_eq_true h1,decide_eq_true h2,decide_eq_false h3];exact⟨true,rfl,λh=>by cases h⟩
 by_cases h4:r.High.N.length≤2∧r.High.D.length≤2
 case neg=>rw[decide_eq_true h1,decide_eq_true h2,decide_eq_true h3,decide_eq_false h4];exact⟨true,rfl,λh=>by cases h⟩
 by_cases h5:r.Least.N.length≤2∧r.Least.D.length≤2
 case neg=>rw[decide_eq_true h1,decide_eq_true h2,decide_eq_true h3,decide_eq_true h4,decide_eq_false h5];exact⟨true,rfl,λh=>by cases h⟩
 rw[decide_eq_true h1,decide_eq_true h2,decide_eq_true h3,decide_eq_true h4,decide_eq_true h5]
 exact⟨false,rfl,λ_=>⟨h1,h2,h3,h4,h5⟩⟩
theorem Qnv{n:Nat}{k:Jg}(hn:big≤n):∃ v,Wr n k=some v∧(v=false->TskL k):=by
 unfold Wr
 simp only[jn_eq]
 have e:∀ g:Qf,Qy g 2=some (!decide (g.N.length≤2∧g.D.length≤2)):=λg=>Qbq g 2
 obtain⟨v,e1,e2⟩:=Qni (p:=k.Problem) (a:=10) (b:=4) (k:=2) hn (by decide) (by decide)
 rw[show((10:Nat):Int)=10 from rfl,show((4:Nat):Int)=4 from rfl,show((2:Nat):Int)=2 from rfl] at e1
 obtain⟨w,e3,e4⟩:=Qnu (r:=k.Rules)
 obtain⟨u,e5,e6⟩:=X9 (l:=k.Y) (many:=4) (k:=2) hn (by decide)
 rw[show((4:Nat):Int)=4 from rfl,show((2:Nat):Int)=2 from rfl] at e5
 simp only[e1,e3,e5,e,sbind]
 cases v
 case true=>exact⟨true,rfl,λh=>by cases h⟩
 rw[bifF]
 by_cases c1:(300:Int)<k.Problem.Bits
 . rw[decide_eq_true c1];exact⟨true,rfl,λh=>by cases h⟩
 rw[decide_eq_false c1,bifF]
 cases w
 case true=>exact⟨true,rfl,λh=>by cases h⟩
 rw[bifF]
 have fin:(k.Rules.Most≤12∨200<k.Rules.Most)->∃ v,(bif !decide (k.Start.N.length≤2∧k.Start.D.length≤2) then some true else bif !decide (k.End.N.length≤2∧k.End.D.length≤2) then some true else bif !decide (k.First.N.length≤2∧k.First.D.length≤2) then some true else some u)=some v∧(v=false->TskL k):=λhM=>by
  by_cases h1:k.Start.N.length≤2∧k.Start.D.length≤2
  case neg=>rw[decide_eq_false h1];exact⟨true,rfl,λh=>by cases h⟩
  by_cases h2:k.End.N.length≤2∧k.End.D.length≤2
  case neg=>rw[decide_eq_true h1,decide_eq_false h2];exact⟨true,rfl,λh=>by cases h⟩
  by_cases h3:k.First.N.length≤2∧k.First.D.length≤2
  case neg=>rw[decide_eq_true h1,decide_eq_true h2,decide_eq_false h3];exact⟨true,rfl,λh=>by cases h⟩
  rw[decide_eq_true h1,decide_eq_true h2,decide_eq_true h3]
  exact⟨u,rfl,λh=>⟨e2 rfl,e4 rfl,hM,h1,h2,h3,e6 h⟩⟩
 by_cases c2:(12:Int)<k.Rules.Most
 . rw[decide_eq_true c2,bifT]
   by_cases c3:k.Rules.Most≤200
   . rw[decide_eq_true c3];exact⟨true,rfl,λh=>by cases h⟩
   rw[decide_eq_false c3,bifF]
   exact fin (.inr (by omega))
 . rw[decide_eq_false c2,bifF]
   exact fin (.inl (by omega))
theorem Qyb{k:Jg}(hB:Zy k)(h:TskL k):TskW (tK k):=by
 obtain⟨b1,b2,b3,b4,b5,b6,_⟩:=hB
 obtain⟨r1,r2,r3,r4,r5,_⟩:=b2
 obtain⟨l1,l2,l3,l4,l5⟩:=h.r
 refine⟨(Qx6 (bits:=k.Problem.Bits) b1 (by decide) h.p).mono (by decide),λx hx=>?_,Fk_tF b3 h.s,Fk_tF b4 h.e,Fk_tF b5 h.f,FR_tF b6 h.y⟩
 rcases List.mem_cons.1 hx with rfl | hx
 . exact Fk_tF r1 l1
 rcases List.mem_cons.1 hx with rfl | hx
 . exact Fk_tF r2 l2
 rcases List.mem_cons.1 hx with rfl | hx
 . exact Fk_tF r3 l3
 rcases List.mem_cons.1 hx with rfl | hx
 . exact Fk_tF r4 l4
 rw[List.mem_singleton.1 hx];exact Fk_tF r5 l5
theorem Qqw{n:Nat}{k:Jg}(hn:big≤n)(h:TskL k):Xi n k=some (tK k):=by
 obtain⟨⟨t1,t2,t3⟩,⟨s1,s2,s3,s4,s5,s6⟩,p1⟩:=h.p
 have y1:=h.y.1
 unfold Xi Yl Je
 rw[Qqp hn (by omega) (by omega) (by omega) (by have:=s3.1;omega) (by have:=s4.1;omega) (by have:=s5.1;omega) (λr hr=>by have:=(s6 r hr).1;omega) (by have:=p1.1;omega),sbind]
 simp only[sbind]
 rw[Zk hn (by omega),sbind];rfl
theorem w39:Vn big=some true:=by kernel_rfl
set_option maxRecDepth 100000
set_option maxRecDepth 100000
theorem Qnw{p:Qg}{T H:Rat}{Y:List Rat}{f}(h:stepQ p T H Y=.inl f):f.Kind≠0:=by
 unfold stepQ at h
 split at h
 . exact Qwz h
 . cases h;show(2:Int)≠0;decide
def AChn(p:Qg):Rat->List Rat->List TryA->Rat->List Rat->Prop
 | T,Y,[],E,Z=>E=T∧Z=Y
 | T,Y,t::l,E,Z=>t.T=T∧t.Y=Y∧0<t.H∧t.H≤t.Want∧0≤t.Err.num.sign ∧
   match t.Ok with
   | true=>∃ z,stepQ p T t.H Y=.inr z∧normQ z.err=t.Err∧AChn p (T+t.H) z.next l E Z
   | false=>AChn p T Y l E Z
theorem Qzn{T E W:Rat}(h1:T≤E)(h2:T≠E)(hW:0<W):0<cutQ T E W∧cutQ T E W≤W∧T+cutQ T E W≤E:=by
 have h3:T<E:=Rat.lt_iff_le_and_ne.2 ⟨h1,h2⟩
 unfold cutQ
 split
 . rename_i h
   have:=sg_gt.1 h
   refine⟨?_,?_,?_⟩<;>grind
 . rename_i h
   have:=Rat.not_lt.1 λg=>h (sg_gt.2 g)
   refine⟨hW,?_,?_⟩<;>grind
theorem Qjq{p:Qg}{r:Qu}{E:Rat}(hr:RulR r):∀(m:Nat) (tr:List TryA) (T:Rat) (Y:List Rat) (W:Rat),T≤E->0<W →
 ∃ l,(adaptQ p r E m tr T Y W).1.1=tr++l∧AChn p T Y l (adaptQ p r E m tr T Y W).1.2.1 (adaptQ p r E m tr T Y W).1.2.2∧((adaptQ p r E m tr T Y W).2.Kind=0->(adaptQ p r E m tr T Y W).1.2.1=E)
 | 0,tr,T,Y,W,hT,hW=>by
   unfold adaptQ
   split
   . rename_i h;exact⟨[],(List.append_nil _).symm,⟨rfl,rfl⟩,λ_=>h⟩
   . exact⟨[],(List.append_nil _).symm,⟨rfl,rfl⟩,λh=>absurd h (show ¬(5:Int)=0 by decide)⟩
 | m+1,tr,T,Y,W,hT,hW=>by
   by_cases h:T=E
   . simp only[adaptQ,if_pos h]
     exact⟨[],(List.append_nil _).symm,⟨rfl,rfl⟩,λ_=>h⟩
   simp only[adaptQ,if_neg h]
   cases dP (underQ r W)
   case true=>exact⟨[],(List.append_nil _).symm,⟨rfl,rfl⟩,λh=>absurd h (show ¬(4:Int)=0 by decide)⟩
   rw[bifF]
   cases hs:stepQ p T (cutQ T E W) Y with
   | inl f=>exact⟨[],(List.append_nil _).symm,⟨rfl,rfl⟩,λh=>absurd h (show ¬ f.Kind=0 from Qnw hs)⟩
   | inr z=>
     obtain⟨c1,c2,c3⟩:=Qzn hT h hW
     have hfa:=Rat.mul_pos c1 (Qur hr (normQ z.err))
     have herr:0≤(normQ z.err).num.sign:=Int.sign_nonneg_iff.2 (Qw0 _)
     simp only[]
     cases ha:dP (accQ r (normQ z.err)) with
     | true=>
       obtain⟨l,l1,l2,l3⟩:=Qjq (p:=p) (E:=E) hr m (tr++[tryA r E T Y W z]) (T+cutQ T E W) z.next (cutQ T E W*factorQ r (normQ z.err)) c3 hfa
       refine⟨tryA r E T Y W z::l,by rw[bifT,bifT,l1,List.append_assoc];rfl,⟨rfl,rfl,c1,c2,herr,?_⟩,l3⟩
       rw[show(tryA r E T Y W z).Ok=true from ha]
       exact⟨z,hs,rfl,l2⟩
     | false=>
       obtain⟨l,l1,l2,l3⟩:=Qjq (p:=p) (E:=E) hr m (tr++[tryA r E T Y W z]) T Y (cutQ T E W*factorQ r (normQ z.err)) hT hfa
       refine⟨tryA r E T Y W z::l,by rw[bifF,bifF,l1,List.append_assoc];rfl,⟨rfl,rfl,c1,c2,herr,?_⟩,l3⟩
       rw[show(tryA r E T Y W z).Ok=false from ha]
       exact l2
def accA(l:List TryA):List TryA:=l.filter (·.Ok)
def toQA(t:TryA):TryQ:=⟨t.T,t.H,t.Err,t.Y⟩
theorem Qsl{t:TryA}{l:List TryA}(h:t.Ok=true):accA (t::l)=t::accA l:=by unfold accA;rw[List.filter_cons,if_pos h]
theorem Qsm{t:TryA}{l:List TryA}(h:t.Ok=false):accA (t::l)=accA l:=by unfold accA;rw[List.filter_cons,if_neg (by rw[h];decide)]
theorem Qts{p:Qg}:∀ {l:List TryA}{T E:Rat}{Y Z:List Rat},AChn p T Y l E Z->match accA l with | []=>E=T∧Z=Y | t::_=>t.T=T∧t.Y=Y
 | [],T,E,Y,Z,h=>h
 | t::l,T,E,Y,Z,h=>by
   obtain⟨h1,h2,h3,h4,h5,h6⟩:=h
   cases ho:t.Ok with
   | true=>rw[Qsl ho];exact⟨h1,h2⟩
   | false=>
     rw[ho] at h6
     rw[Qsm ho]
     exact Qts h6
theorem Qo9{p:Qg}:∀ {l:List TryA}{T E c:Rat}{Y Z:List Rat},AChn p T Y l E Z->((accA l).map (·.H)).foldl (λo x=>o+x) c=c+(E - T)
 | [],T,E,c,Y,Z,h=>by
   obtain⟨rfl,rfl⟩:=h
   show c=_
   grind
 | t::l,T,E,c,Y,Z,h=>by
   obtain⟨h1,h2,h3,h4,h5,h6⟩:=h
   cases ho:t.Ok with
   | true=>
     rw[ho] at h6
     obtain⟨z,g1,g2,g3⟩:=h6
     rw[Qsl ho,List.map_cons,List.foldl_cons,Qo9 g3];grind
   | false=>
     rw[ho] at h6
     rw[Qsm ho]
     exact Qo9 h6
theorem Qld{p:Qg}:∀ {l:List TryA}{T E:Rat}{Y Z:List Rat},AChn p T Y l E Z->∀ t∈l,0<t.H∧t.H≤t.Want∧0≤t.Err.num.sign
 | [],T,E,Y,Z,h,t,ht=>by cases ht
 | x::l,T,E,Y,Z,h,t,ht=>by
   obtain⟨h1,h2,h3,h4,h5,h6⟩:=h
   rcases List.mem_cons.1 ht with rfl | ht
   . exact⟨h3,h4,h5⟩
   cases ho:x.Ok with
   | true=>
     rw[ho] at h6
     obtain⟨z,g1,g2,g3⟩:=h6
     exact Qld g3 t ht
   | false=>rw[ho] at h6;exact Qld h6 t ht
theorem Qpa{p:Qg}:∀ {l:List TryA}{T E:Rat}{Y Z:List Rat}{i:Nat}{t:TryA},AChn p T Y l E Z->l[i]?=some t →
 (∀ u,l[i+1]?=some u->(t.Ok=true->u.T=t.T+t.H)∧(t.Ok=false->u.T=t.T∧u.Y=t.Y))∧(l.length=i+1->(t.Ok=true->E=t.T+t.H)∧(t.Ok=false->E=t.T∧Z=t.Y))
 | [],T,E,Y,Z,i,t,_,h=>by cases h
 | x::l,T,E,Y,Z,0,t,hc,h=>by
   cases h
   obtain⟨h1,h2,h3,h4,h5,h6⟩:=hc
   cases ho:x.Ok with
   | true=>
     rw[ho] at h6
     obtain⟨z,g1,g2,g3⟩:=h6
     rw[h1]
     cases l with
     | nil=>exact⟨(λu h=>by cases h),λ_=>⟨λ_=>g3.1,λh=>by cases h⟩⟩
     | cons y l=>exact⟨(λu h=>by cases h;exact⟨λ_=>g3.1,λh=>by cases h⟩),λh=>by simp at h⟩
   | false=>
     rw[ho] at h6
     rw[h1,h2]
     cases l with
     | nil=>exact⟨(λu h=>by cases h),λ_=>⟨(λh=>by cases h),λ_=>h6⟩⟩
     | cons y l=>exact⟨(λu h=>by cases h;exact⟨(λh=>by cases h),λ_=>⟨h6.1,h6.2.1⟩⟩),λh=>by simp at h⟩
 | x::l,T,E,Y,Z,i+1,t,hc,h=>by
   obtain⟨h1,h2,h3,h4,h5,h6⟩:=hc
   have h':l[i]?=some t:=h
   cases ho:x.Ok with
   | true=>
     rw[ho] at h6
     obtain⟨z,g1,g2,g3⟩:=h6
     obtain⟨c1,c2⟩:=Qpa g3 h'
     exact⟨λu hu=>c1 u hu,λhl=>c2 (by simpa using hl)⟩
   | false=>
     rw[ho] at h6
     obtain⟨c1,c2⟩:=Qpa h6 h'
     exact⟨λu hu=>c1 u hu,λhl=>c2 (by simpa using hl)⟩
theorem Qnx{n K m:Nat}{p:Qg}{tr:List TryA}{T T0:Rat}{Y Y0:List Rat}(hn:big≤n)(hK:K<274877906944)(h1:1≤K)(ht:∀ t∈tr,TA K m t)(hT:qw T≤K)(hY:QR K Y)(hYl:Y.length=m)(m1:1≤m)(m6:m≤6)(hl:tr.length≤200)(hc:AChn p T0 Y0 tr T Y):Qcb n (mA tr T Y)=some true:=by
 have hs:=Qld hc
 unfold Qcb Qeh Qee Qcm Qef Qeg Qcn
 simp only[jn_eq]
 unfold mA
 simp only[]
 rw[Qdo]
 case hb=>
  intro i x hx
  obtain⟨t,hg,rfl⟩:=getTA hx
  have htt:=ht t (Q9 hg)
  rw[Qs4,sbind,show([toR [t.T,t.Want,t.H,t.Err],(toTryA t).Y]:List (List Qa))=[[t.T,t.Want,t.H,t.Err],t.Y].map toR from rfl,Qnp hn (by omega:K<1099511627776) (λr hr=>by
   rcases List.mem_cons.1 hr with rfl | hr
   . exact Qsk htt
   . rw[List.mem_singleton.1 hr];exact htt.y),sbind]
  rfl
 rw[show([[toF T],toR Y]:List (List Qa))=[[T],Y].map toR from rfl,Qnp hn (by omega:K<1099511627776) (λr hr=>by
  rcases List.mem_cons.1 hr with rfl | hr
  . intro q hq;rw[List.mem_singleton.1 hq];exact hT
  . rw[List.mem_singleton.1 hr];exact hY),sbind,sbind,Bool.not_true,bifF]
 rw[Qdo]
 case hb=>
  intro i x hx
  obtain⟨t,hg,rfl⟩:=getTA hx
  have htt:=ht t (Q9 hg)
  rw[decide_eq_true (show((toTryA t).Y.length:Int)=((toR Y).length:Int) by show((toR t.Y).length:Int)=_;rw[Ki,Ki,htt.l,hYl])]
  rfl
 rw[Ki,decide_eq_true (show(1:Int)≤(Y.length:Int) by omega),bifT,decide_eq_true (show(Y.length:Int)≤6 by omega),sbind,Bool.not_true,bifF,List.length_map,decide_eq_false (show ¬(200:Int)<(tr.length:Int) by omega),bifF]
 rw[Qdo]
 case hb=>
  intro i x hx
  obtain⟨t,hg,rfl⟩:=getTA hx
  have htt:=ht t (Q9 hg)
  obtain⟨s1,s2,s3⟩:=hs t (Q9 hg)
  have s4:0<t.Want:=by grind
  have p1:=Qfy.2 s1
  have p2:=Qfy.2 s4
  have p3:(t.H - t.Want).num.sign≤0:=sg_le.2 s2
  show((Kq n (toF t.Want)).bind λr40=>bif decide (r40≤(0:Int)) then _ else (Kq n (toF t.H)).bind λr42=>bif decide (r42≤(0:Int)) then _ else (K4 n (toF t.H) (toF t.Want)).bind λr44=>bif decide ((0:Int)<r44) then _ else (Kq n (toF t.Err)).bind λr46=>_)=_
  rw[Wg (k:=K) hn h1 (by omega) (Q1 htt.w),sbind,Qw,decide_eq_false (show ¬ t.Want.num.sign≤0 by omega),bifF,Wg (k:=K) hn h1 (by omega) (Q1 htt.h),sbind,Qw,decide_eq_false (show ¬ t.H.num.sign≤0 by omega),bifF,Ve (k:=K) hn h1 (by omega) (Q1 htt.h) (Q1 htt.w),sbind,Qw,Qw,decide_eq_false (show ¬(0:Int)<(t.H - t.Want).num.sign by omega),bifF,Wg (k:=K) hn h1 (by omega) (Q1 htt.e),sbind,Qw,decide_eq_false (show ¬ t.Err.num.sign<0 by omega)]
  rfl
 rw[sbind,Bool.not_true,bifF]
 have same:∀ {a b:Rat},qw a≤2*K+1->qw b≤2*K+1->a=b->Jz n (toF a) (toF b)=some true:=λha hb e=>by
  rw[Yy (k:=2*K+1) hn (by omega) (by omega) (Q1 ha) (Q1 hb),Qw,Qw,decide_eq_true e]
 have rowS:∀ {l:List Rat},QR K l->Yj n (toR l) (toR l)=some true:=λh=>by
  rw[Qj2 (k:=K) hn h1 (by omega) (Vl h) (Vl h)];simp
 rw[Qdo]
 case hb=>
  intro i x hx
  obtain⟨t,hg,rfl⟩:=getTA hx
  have htt:=ht t (Q9 hg)
  have hi:=Kc hg
  obtain⟨c1,c2⟩:=Qpa hc hg
  have adds:Kx n (toTryA t).T (toTryA t).H=some (toF (t.T+t.H)):=by
   show Kx n (toF t.T) (toF t.H)=_
   rw[W0 (k:=K) hn h1 (by omega) (Q1 htt.t) (Q1 htt.h),Qw,Qw]
  have hqa:=Qfx htt.t htt.h
  have qt:=htt.t
  have okt:(toTryA t).Ok=t.Ok:=rfl
  have tT:(toTryA t).T=toF t.T:=rfl
  have tY:(toTryA t).Y=toR t.Y:=rfl
  rw[w1 (by omega),okt,adds,tT,tY]
  by_cases h2:i+1<tr.length
  . rw[decide_eq_true (show((i+1:Nat):Int)<(tr.length:Int) by omega),bifT]
    have hp:tr[i+1]?=some tr[i+1]:=List.getElem?_eq_getElem h2
    have hu:=ht tr[i+1] (List.getElem_mem h2)
    generalize tr[i+1]=u at hp hu
    have qu:=hu.t
    have uT:(toTryA u).T=toF u.T:=rfl
    have uY:(toTryA u).Y=toR u.Y:=rfl
    obtain⟨d1,d2⟩:=c1 u hp
    rw[Vq (show(tr.map toTryA)[i+1]?=some (toTryA u) by rw[List.getElem?_map,hp];rfl),sbind,sbind,uT,uY]
    cases ho:t.Ok with
    | true=>rw[bifT,sbind,same (by omega) (by omega) (d1 ho)];rfl
    | false=>
      obtain⟨d3,d4⟩:=d2 ho
      rw[bifF,same (by omega) (by omega) d3,sbind,bifT,d4,rowS htt.y];rfl
  . rw[decide_eq_false (show ¬((i+1:Nat):Int)<(tr.length:Int) by omega),bifF]
    obtain⟨d1,d2⟩:=c2 (by omega)
    cases ho:t.Ok with
    | true=>rw[bifT,sbind,same (by omega) (by omega) (d1 ho)];rfl
    | false=>
      obtain⟨d3,d4⟩:=d2 ho
      rw[bifF,same (by omega) (by omega) d3,sbind,bifT,d4,rowS htt.y];rfl
 rfl
set_option maxRecDepth 100000
def MChn(p:Qg):Rat->List Rat->List TryQ->Rat->List Rat->Prop
 | T,Y,[],E,Z=>E=T∧Z=Y
 | T,Y,q::l,E,Z=>q.T=T∧q.Y=Y∧∃ z,stepQ p T q.H Y=.inr z∧normQ z.err=q.Err∧MChn p (T+q.H) z.next l E Z
theorem chn_M{p:Qg}:∀ {l:List TryA}{T E:Rat}{Y Z:List Rat},AChn p T Y l E Z->MChn p T Y ((accA l).map toQA) E Z
 | [],T,E,Y,Z,h=>h
 | t::l,T,E,Y,Z,h=>by
   obtain⟨h1,h2,h3,h4,h5,h6⟩:=h
   cases ho:t.Ok with
   | true=>
     rw[ho] at h6
     obtain⟨z,g1,g2,g3⟩:=h6
     rw[Qsl ho]
     exact⟨h1,h2,z,g1,g2,chn_M g3⟩
   | false=>
     rw[ho] at h6
     rw[Qsm ho]
     exact chn_M h6
theorem Qqx{n m:Nat}{p:Qg}{qs:List TryQ}{T E:Rat}{Y Z:List Rat}(hn:big≤n)(hw:PrbW 4000 p)(hr:prbR p)(hYl:(Y.length:Int)=p.Tape.Dim)(hY:QR 129 Y)(hT:qw T≤4000)(hq:∀ q∈qs,TQ 4000 m q)(hpos:∀ q∈qs,0<q.H.num.sign)(hl:qs.length≤200)(hyl:Y.length≤1000)(hc:MChn p T Y qs E Z):
 Yb n p (toF T) (toR Y) (toR (qs.map (·.H)))=some (mH qs E Z,⟨0,0,0,0⟩):=by
 unfold Yb
 simp only[jn_eq]
 have hH:QR 4000 (qs.map (·.H)):=λx hx=>by
  obtain⟨q,hm,rfl⟩:=List.mem_map.1 hx
  exact(hq q hm).2.1
 rw[Qjo hn (by decide) (by decide) hw,sbind,dP_t hr,Bool.not_true,bifF,Ki,decide_eq_true hYl,Bool.not_true,bifF,Qo6 (k:=4000) hn (by decide) (by decide) (Vl hH),sbind,Xm,dP_t (show posQ (qs.map (·.H)) from⟨λx hx=>by
  obtain⟨q,hm,rfl⟩:=List.mem_map.1 hx
  exact hpos q hm,by rw[List.length_map];exact hl⟩),Bool.not_true,bifF,Jl hn (Fk_Fw (Q1 hT) (by decide)),sbind,Qbe hn,sbind,Qap (k:=129) hn (by decide) (by decide) (Q1 (by rw[Qnn];decide)) (Vl hY) (by rw[Ki];omega),sbind,Qw,Qw,Qo7,Xm]
 have key:∀(qs:List TryQ) (i:Nat) (T:Rat) (Y:List Rat) (tr:List TryQ),(∀ q∈qs,TQ 4000 m q)->i+qs.length≤200->tr.length=i->QR 129 Y->MChn p T Y qs E Z →
  (rangeL (λ(i48:Nat) (x49:Qa) (s47:(List Qp)×Qa×(List Qa))=>
   (Jc n x49).bind λr51=>
   (Qb6 n p s47.2.1 r51 s47.2.2).bind λr53=>
   bif !(Qt r53.2 (⟨0,0,0,0⟩:Qc)) then (
    some (Lp.out (((⟨[],(⟨(⟨false,[]⟩:Qd),[]⟩:Qa),[]⟩:Qn),(⟨r53.2.Kind,wrap64 ((i48:Int)+(1:Int)),r53.2.Stage,r53.2.At⟩:Qc)))))
   else (
    (Zq n r53.1.Err).bind λr55=>
    (appM 256 s47.1 ([(⟨s47.2.1,r51,r51,r55,s47.2.2,true⟩:Qp)]:List Qp)).bind λy57=>
    (Kx n s47.2.1 r51).bind λr59=>
    some (Lp.go (y57,r59,r53.1.Next)))) (toR (qs.map (·.H))) i (tr.map toTry,toF T,toR Y)).bind (lpK λ(s61:(List Qp)×Qa×(List Qa))=>
  some ((⟨s61.1,s61.2.1,s61.2.2⟩:Qn),(⟨0,0,0,0⟩:Qc)))=some (mH (tr++qs) E Z,⟨0,0,0,0⟩):=by
  intro qs
  induction qs with
  | nil=>
    intro i T Y tr _ _ _ _ hc
    obtain⟨rfl,rfl⟩:=hc
    rw[List.append_nil];rfl
  | cons q qs ih=>
    intro i T Y tr hq hi htr hY hc
    obtain⟨h1,h2,z,g1,g2,g3⟩:=hc
    rw[List.length_cons] at hi
    have q1:=hq q (.head _)
    have qT:qw T≤4000:=h1 ▸ q1.1
    have qH:=q1.2.1
    show((rangeL _ (toF q.H::toR (qs.map (·.H))) i _).bind _)=_
    simp only[rangeL]
    rw[Jl hn (Fk_Fw (Q1 qH) (by decide)),sbind,Qw]
    obtain⟨d1,d2⟩:=Qk2 (p:=p) (t:=toF T) (h:=toF q.H) (y:=toR Y) hn (by decide) (by decide) hw (Q1 qT) (Q1 qH) (Vl (V1 hY (by decide)))
    rw[Qw,Qw,Xm,g1] at d1
    obtain⟨_,_,z1,z2,z3⟩:=Qmf g1
    simp only[] at d1
    rw[d1,sbind,W5,Bool.not_true,bifF]
    show(((Zq n (toR z.err)).bind λr55=>(appM 256 (tr.map toTry) [(⟨toF T,toF q.H,toF q.H,r55,toR Y,true⟩:Qp)]).bind λy57=>(Kx n (toF T) (toF q.H)).bind λr59=>some (Lp.go (y57,r59,toR z.next))).bind _).bind _=_
    rw[Qj3 (k:=129) hn (by decide) (by decide) (Vl z3),sbind,Xm,Vp (by simp;omega) (by simp;omega),sbind,W0 (k:=4000) hn (by decide) (by decide) (Q1 qT) (Q1 qH),sbind,sbind,Qw,Qw]
    have e1:tr.map toTry++[(⟨toF T,toF q.H,toF q.H,toF (normQ z.err),toR Y,true⟩:Qp)]=(tr++[q]).map toTry:=by
     rw[List.map_append]
     congr 1
     rw[g2,←h1,←h2];rfl
    rw[e1]
    have:=ih (i+1) (T+q.H) z.next (tr++[q]) (λx hx=>hq x (.tail _ hx)) (by omega) (by simp;omega) z1 g3
    rw[List.append_assoc] at this
    exact this
 have:=key qs 0 T Y [] hq (by omega) rfl hY hc
 exact this
theorem Qhy{n k:Nat}{h:Qn}(hn:big≤n)(h1:1≤k)(hk:k<1099511627776)(hl:h.Tries.length≤1000000)(ht:∀ t∈h.Tries,FT k t)(hT:Fk k h.T)(hY:FR k h.Y)(hYl:h.Y.length≤1000000):
 V6 n h=some (((okT h.Tries).map nT).map (·.T)++[toF (fv h.T)],((okT h.Tries).map nT).map (·.Y)++[toR (rv h.Y)]):=by
 have hle:=Qno h.Tries
 unfold V6
 rw[Zx hn h1 hk hl ht,sbind]
 generalize hA:(okT h.Tries).map nT=A
 have hAl:A.length≤1000000:=by rw[←hA,List.length_map];omega
 rw[X4 (λi=>((A.take i).map (·.T),(A.take i).map (·.Y))) A]
 . rw[List.take_length]
   show((Jc n h.T).bind _)=_
   rw[Jl hn (Fk_Fw hT (by omega)),sbind,Vp (by simp;omega) (by simp;omega),sbind,Qa2 hn h1 hk hY hYl,sbind,Vp (by simp;omega) (by simp;omega),sbind]
 . intro i x hx
   have hi:=Kc hx
   rw[Vp (by simp;omega) (by simp;omega),sbind,Vp (by simp;omega) (by simp;omega),sbind,V9 (·.T) hx,V9 (·.Y) hx]
 . rfl
theorem Qny{n k:Nat}{h:Qn}(hn:big≤n)(h1:1≤k)(hk:k<1099511627776)(hl:h.Tries.length≤1000000)(ht:∀ t∈h.Tries,FT k t):X3 n h=some (toR (szs h)):=by
 have hle:=Qno h.Tries
 unfold X3
 rw[Zx hn h1 hk hl ht,sbind]
 have e:toR (szs h)=((okT h.Tries).map nT).map (·.H):=by unfold toR szs;rw[List.map_map,List.map_map];rfl
 rw[e]
 generalize hA:(okT h.Tries).map nT=A
 have hAl:A.length≤1000000:=by rw[←hA,List.length_map];omega
 rw[X4 (λi=>(A.take i).map (·.H)) A]
 . rw[List.take_length];rfl
 . intro i x hx
   have hi:=Kc hx
   rw[Vp (by simp;omega) (by simp;omega),sbind,V9 (·.H) hx]
 . rfl
theorem okT_A(tr:List TryA):okT (tr.map toTryA)=(accA tr).map toTryA:=by
 unfold okT accA
 rw[List.filter_map];rfl
theorem FT_A{d:Nat}{t:TryA}(h:TA 4000 d t)(hd:d≤1000):FT 4000 (toTryA t):=⟨Vl (Qsk h),Vl h.y,by show(toR t.Y).length≤_;rw[Ki,h.l];omega⟩
theorem FT_Q{d:Nat}{t:TryQ}(h:TQ 4000 d t)(hd:d≤1000):FT 4000 (toTry t):=⟨Vl (Qx8 h),Vl h.2.2.2.1,by show(toR t.Y).length≤_;rw[Ki,h.2.2.2.2];omega⟩
theorem Qw4{n d:Nat}{tr:List TryA}{T:Rat}{Y:List Rat}(hn:big≤n)(ht:∀ t∈tr,TA 4000 d t)(hd:d≤1000)(hl:tr.length≤1000)(hT:qw T≤4000)(hY:QR 4000 Y)(hYl:Y.length≤1000):
 V6 n (mA tr T Y)=some (toR ((accA tr).map (·.T)++[T]),toRR ((accA tr).map (·.Y)++[Y])):=by
 rw[Qhy (k:=4000) (h:=mA tr T Y) hn (by decide) (by decide) (by show(tr.map toTryA).length≤_;rw[List.length_map];omega) (λx hx=>by
  obtain⟨t,hm,rfl⟩:=List.mem_map.1 hx
  exact FT_A (ht t hm) hd) (Q1 hT) (Vl hY) (by show(toR Y).length≤_;rw[Ki];omega)]
 unfold mA toR toRR
 simp only[]
 rw[okT_A,List.map_map,List.map_map,List.map_map,List.map_append,List.map_append,List.map_map,List.map_map]
 have a1:∀ t:TryA,nT (toTryA t)=⟨toF t.T,toF t.Want,toF t.H,toF t.Err,toR t.Y,true⟩:=λt=>by
  unfold nT toTryA;simp only[Qw,Xm]
 congr 2
 . congr 1
   . exact List.map_congr_left λt _=>congrArg (·.T) (a1 t)
   . rw[Qw];rfl
 . congr 1
   . rw[List.map_map];exact List.map_congr_left λt _=>congrArg (·.Y) (a1 t)
   . rw[show List.map toF Y=toR Y from rfl,Xm];rfl
theorem Qw5{n d:Nat}{tr:List TryQ}{T:Rat}{Y:List Rat}(hn:big≤n)(ht:∀ t∈tr,TQ 4000 d t)(hd:d≤1000)(hl:tr.length≤1000)(hT:qw T≤4000)(hY:QR 4000 Y)(hYl:Y.length≤1000):
 V6 n (mH tr T Y)=some (toR (tr.map (·.T)++[T]),toRR (tr.map (·.Y)++[Y])):=by
 rw[Qhy (k:=4000) (h:=mH tr T Y) hn (by decide) (by decide) (by show(tr.map toTry).length≤_;rw[List.length_map];omega) (λx hx=>by
  obtain⟨t,hm,rfl⟩:=List.mem_map.1 hx
  exact FT_Q (ht t hm) hd) (Q1 hT) (Vl hY) (by show(toR Y).length≤_;rw[Ki];omega)]
 unfold mH toR toRR
 simp only[]
 rw[Qv2,List.map_map,List.map_map,List.map_map,List.map_append,List.map_append,List.map_map,List.map_map]
 have a1:∀ t:TryQ,nT (toTry t)=⟨toF t.T,toF t.H,toF t.H,toF t.Err,toR t.Y,true⟩:=λt=>by
  unfold nT toTry;simp only[Qw,Xm]
 congr 2
 . congr 1
   . exact List.map_congr_left λt _=>congrArg (·.T) (a1 t)
   . rw[Qw];rfl
 . congr 1
   . rw[List.map_map];exact List.map_congr_left λt _=>congrArg (·.Y) (a1 t)
   . rw[show List.map toF Y=toR Y from rfl,Xm];rfl
theorem Qv4(tr:List TryA)(T:Rat)(Y:List Rat):szs (mA tr T Y)=(accA tr).map (·.H):=by
 unfold szs mA
 simp only[]
 rw[okT_A,List.map_map]
 exact List.map_congr_left λt _=>Qw t.H
theorem Qnz{p:Qg}{r:Qu}{E:Rat}:∀(m:Nat) (tr:List TryA) (T:Rat) (Y:List Rat) (W:Rat),(adaptQ p r E m tr T Y W).2.Kind=0->(adaptQ p r E m tr T Y W).2=⟨0,0,0,0⟩
 | 0,tr,T,Y,W,h=>by
   by_cases hT:T=E
   . simp only[adaptQ,if_pos hT]
   . simp only[adaptQ,if_neg hT] at h;exact absurd h (by decide)
 | m+1,tr,T,Y,W,h=>by
   by_cases hT:T=E
   . simp only[adaptQ,if_pos hT]
   simp only[adaptQ,if_neg hT] at h ⊢
   cases hu:dP (underQ r W)
   case true=>rw[hu] at h;exact absurd h (show ¬(4:Int)=0 by decide)
   rw[hu,bifF] at h
   rw[bifF]
   cases hs:stepQ p T (cutQ T E W) Y with
   | inl f=>rw[hs] at h;exact absurd h (show ¬ f.Kind=0 from Qnw hs)
   | inr z=>
     rw[hs] at h
     exact Qnz m _ _ _ _ h
set_option maxRecDepth 100000
theorem Qsn{f:Qc}(h:¬ f.Kind=0):Qt f ⟨0,0,0,0⟩=false:=Qp5 h
theorem Qqy(k:Jg)(hB:Zy k):∃ n,Vk n k=some true:=by
 refine⟨big,?_⟩
 have hn:big≤big:=Nat.le_refl _
 unfold Vk Qba
 simp only[jn_eq]
 obtain⟨v,e1,e2⟩:=Qnv (k:=k) hn
 rw[e1,sbind]
 cases v
 case true=>rw[bifT,w39];rfl
 have hL:=e2 rfl
 rw[bifF,Qqw hn hL,sbind]
 have hw:=Qyb hB hL
 have hy1:=hL.y.1
 have hyl:(tK k).Y.length≤1000:=by show(k.Y.map tF).length≤1000;rw[List.length_map];omega
 have hM:=hL.m
 have a1:=Qnt (n:=big) (k:=tK k) hn hw (λhr=>by
  have:=hr.most
  have h2:k.Rules.Most≤200:=this.2
  show k.Rules.Most≤12;omega) hyl
 rw[a1,sbind]
 by_cases hR:TskR (tK k)
 case neg=>
  rw[if_neg hR]
  simp only[]
  rw[Xo (show(2:Int)≠0 by decide),Bool.not_false,bifT,sbind,Xo (show(2:Int)≠0 by decide),Bool.not_false,bifT]
  rw[show decide (((⟨[],⟨⟨false,[]⟩,[]⟩,[]⟩:Qn).Tries.length:Int)=0)=true from rfl,bifT,w39];rfl
 rw[if_pos hR]
 simp only[]
 have hr:=hR.2.1
 have hmo:=hr.most
 have hmo1:k.Rules.Most≤200:=hmo.2
 have hmo2:1≤k.Rules.Most:=hmo.1
 have hdim:(k.Y.map tF).length=(tK k).Y.length:=rfl
 have vr:=hw.r.all
 have qS:qw (fv (tK k).Start)≤2:=qw_fv hw.s (by decide)
 have qE:qw (fv (tK k).End)≤2:=qw_fv hw.e (by decide)
 have qY0:QR 129 (rv (tK k).Y):=V1 (QR_rv hw.y (by decide)) (by decide)
 have hok:=Qsj (p:=(tK k).Problem) (r:=(tK k).Rules) (E:=fv (tK k).End) (d:=(rv (tK k).Y).length) hr (qw_fv vr.2.2.1 (by decide)) (qw_fv vr.2.2.2.1 (by decide)) qE (tK k).Rules.Most.toNat [] (fv (tK k).Start) (rv (tK k).Y) (fv (tK k).First) (by show 0+k.Rules.Most.toNat≤12;omega) qS (qw_fv hw.f (by decide)) qY0 rfl (λ_ h=>by cases h)
 have hform:=Qjq (p:=(tK k).Problem) (E:=fv (tK k).End) hr (tK k).Rules.Most.toNat [] (fv (tK k).Start) (rv (tK k).Y) (fv (tK k).First) hR.2.2.2.1 hR.2.2.2.2
 have hzero:=Qnz (p:=(tK k).Problem) (r:=(tK k).Rules) (E:=fv (tK k).End) (tK k).Rules.Most.toNat [] (fv (tK k).Start) (rv (tK k).Y) (fv (tK k).First)
 generalize adaptQ (tK k).Problem (tK k).Rules (fv (tK k).End) (tK k).Rules.Most.toNat [] (fv (tK k).Start) (rv (tK k).Y) (fv (tK k).First)=g at *
 by_cases h0:g.2.Kind=0
 case neg=>
  rw[Qsn h0,Bool.not_false,bifT,sbind,Qsn h0,Bool.not_false,bifT]
  rw[show decide (((⟨[],⟨⟨false,[]⟩,[]⟩,[]⟩:Qn).Tries.length:Int)=0)=true from rfl,bifT,w39];rfl
 obtain⟨l,l1,l2,l3⟩:=hform
 rw[List.nil_append] at l1
 have l4:=l3 h0
 obtain⟨o1,o2,o3,o4,o5⟩:=hok
 rw[hzero h0]
 rw[l1] at o1 o5
 rw[l4] at l2 o2
 rw[l1,l4]
 generalize g.1.2.2=Z at *
 have hl12:l.length≤12:=Nat.le_trans o5 (by show 0+k.Rules.Most.toNat≤12;omega)
 have hlM:¬ k.Rules.Most<(l.length:Int):=by
  have:l.length≤0+k.Rules.Most.toNat:=o5
  omega
 have hd1:1≤(rv (tK k).Y).length∧(rv (tK k).Y).length≤6:=by
  have h1:=hR.1.1.1.1
  have h2:=hR.2.2.1
  rw[Va]
  exact⟨by omega,by omega⟩
 have hYd:((rv (tK k).Y).length:Int)=(tK k).Problem.Tape.Dim:=by rw[Va];exact hR.2.2.1
 have hd1000:(rv (tK k).Y).length≤1000:=by omega
 have qZ:QR 4000 Z:=V1 o3 (by decide)
 have hacc:(accA l).length≤12:=Nat.le_trans (List.length_filter_le _ _) hl12
 have haccm:∀ t∈accA l,t∈l:=λt ht=>(List.mem_filter.1 ht).1
 have hN:=Qw4 (n:=big) hn o1 hd1000 (by omega) o2 qZ (by omega)
 have hSz:=Qny (n:=big) (k:=4000) (h:=mA l (fv (tK k).End) Z) hn (by decide) (by decide) (by show(l.map toTryA).length≤_;rw[List.length_map];omega) (λx hx=>by
  obtain⟨t,hm,rfl⟩:=List.mem_map.1 hx
  exact FT_A (o1 t hm) hd1000)
 rw[Qv4] at hSz
 have qH:QR 4000 ((accA l).map (·.H)):=λx hx=>by
  obtain⟨t,hm,rfl⟩:=List.mem_map.1 hx
  exact(o1 t (haccm t hm)).h
 have eM:(⟨l.map toTryA,toF (fv (tK k).End),toR Z⟩:Qn)=mA l (fv (tK k).End) Z:=rfl
 rw[eM,W5,Bool.not_true,bifF,sbind]
 simp only[]
 rw[W5,Bool.not_true,bifF,hN,sbind,hSz,sbind,Wf hn,sbind]
 have hsum:=Qo9 (c:=0) l2
 have hbeg:=Qts l2
 have hRt:=Qnx (n:=big) (K:=4000) hn (by decide) (by decide) o1 o2 qZ o4 hd1.1 hd1.2 (by omega) l2
 have same:∀ {a b:Qa},Fk 4000 a->Fk 4000 b->fv a=fv b->Jz big a b=some true:=λha hb e=>by
  rw[Yy (k:=4000) hn (by decide) (by decide) ha hb,decide_eq_true e]
 have rowS:∀ {a b:List Qa},FR 4000 a->FR 4000 b->rv a=rv b->Yj big a b=some true:=λha hb e=>by
  rw[Qj2 (k:=4000) hn (by decide) (by decide) ha hb,decide_eq_true e]
 have qA:QR 4000 ((accA l).map (·.T)++[fv (tK k).End]):=λx hx=>by
  rcases List.mem_append.1 hx with hx | hx
  . obtain⟨t,hm,rfl⟩:=List.mem_map.1 hx
    exact(o1 t (haccm t hm)).t
  . rw[List.mem_singleton.1 hx];exact o2
 have qB:∀ y∈(accA l).map (·.Y)++[Z],QR 4000 y:=λx hx=>by
  rcases List.mem_append.1 hx with hx | hx
  . obtain⟨t,hm,rfl⟩:=List.mem_map.1 hx
    exact(o1 t (haccm t hm)).y
  . rw[List.mem_singleton.1 hx];exact qZ
 have hA0:((accA l).map (·.T)++[fv (tK k).End])[0]?=some (fv (tK k).Start):=by
  cases ha:accA l with
  | nil=>rw[ha] at hbeg;exact congrArg some hbeg.1
  | cons t r=>rw[ha] at hbeg;exact congrArg some hbeg.1
 have hB0:((accA l).map (·.Y)++[Z])[0]?=some (rv (tK k).Y):=by
  cases ha:accA l with
  | nil=>rw[ha] at hbeg;exact congrArg some hbeg.2
  | cons t r=>rw[ha] at hbeg;exact congrArg some hbeg.2
 have hAl:((accA l).map (·.T)++[fv (tK k).End]).length=(accA l).length+1:=by simp
 have hBl:((accA l).map (·.Y)++[Z]).length=(accA l).length+1:=by simp
 have hQ:∀ q∈(accA l).map toQA,TQ 4000 (rv (tK k).Y).length q:=λq hq=>by
  obtain⟨t,hm,rfl⟩:=List.mem_map.1 hq
  have g:=o1 t (haccm t hm)
  exact⟨g.t,g.h,g.e,g.y,g.l⟩
 have hQl:((accA l).map toQA).length≤12:=by rw[List.length_map];exact hacc
 have hall:=Qld l2
 have halong:=Qqx (n:=big) (m:=(rv (tK k).Y).length) (qs:=(accA l).map toQA) hn hw.p hR.1 hYd qY0 (by omega) hQ (λq hq=>by
  obtain⟨t,hm,rfl⟩:=List.mem_map.1 hq
  exact Qfy.2 (hall t (haccm t hm)).1) (by omega) (by omega) (chn_M l2)
 have hN2:=Qw5 (n:=big) hn hQ hd1000 (by omega) o2 qZ (by omega)
 rw[List.map_map,List.map_map] at hN2
 rw[List.map_map] at halong
 have hrep:=Qln (n:=big) (p:=(tK k).Problem) (h:=mA l (fv (tK k).End) Z) (k:=4000) hn (by decide) (by decide) (by show(l.map toTryA).length≤_;rw[List.length_map];omega) (λx hx=>by
  obtain⟨t,hm,rfl⟩:=List.mem_map.1 hx
  exact FT_A (o1 t hm) hd1000) (Q1 o2) (Vl qZ) (by show(toR Z).length≤_;rw[Ki];omega)
 have r1:begT (mA l (fv (tK k).End) Z)=fv (tK k).Start:=by
  unfold begT mA
  rw[okT_A]
  cases ha:accA l with
  | nil=>rw[ha] at hbeg;exact(Qw _).trans hbeg.1
  | cons t r=>rw[ha] at hbeg;exact(Qw _).trans hbeg.1
 have r2:begY (mA l (fv (tK k).End) Z)=rv (tK k).Y:=by
  unfold begY mA
  rw[okT_A]
  cases ha:accA l with
  | nil=>rw[ha] at hbeg;exact(Xm _).trans hbeg.2
  | cons t r=>rw[ha] at hbeg;exact(Xm _).trans hbeg.2
 rw[r1,r2,Qv4] at hrep
 have eH:(List.map (λq:TryQ=>q.H) ((accA l).map toQA))=(accA l).map (·.H):=by rw[List.map_map];rfl
 have hrep2:Yv big (tK k).Problem (mA l (fv (tK k).End) Z)=some (mH ((accA l).map toQA) (fv (tK k).End) Z,⟨0,0,0,0⟩):=hrep.trans halong
 have eT:List.map ((λq:TryQ=>q.T) ∘ toQA) (accA l)=(accA l).map (·.T):=rfl
 have eY:List.map ((λq:TryQ=>q.Y) ∘ toQA) (accA l)=(accA l).map (·.Y):=rfl
 rw[eT,eY] at hN2
 generalize hAA:(accA l).map (·.T)++[fv (tK k).End]=A at *
 generalize hBB:(accA l).map (·.Y)++[Z]=B at *
 have lenA:(toR A).length=(accA l).length+1:=by rw[Ki,hAl]
 have lenB:(toRR B).length=(accA l).length+1:=by unfold toRR;rw[List.length_map,hBl]
 simp only[]
 rw[lenA,lenB,decide_eq_false (show ¬(((accA l).length+1:Nat):Int)=0 by omega),bifF,decide_eq_true rfl,Bool.not_true,bifF]
 generalize hHH:(accA l).map (·.H)=H at *
 have hHl:H.length≤12:=by rw[←hHH,List.length_map];exact hacc
 rw[Qe9 (λi=>(toF ((H.take i).foldl (λo x=>o+x) 0),(i:Int))) H.length (toF (H.foldl (λo x=>o+x) 0))]
 rotate_left
 . intro i hi
   have hp:H[i]?=some H[i]:=List.getElem?_eq_getElem hi
   have hh:=qH H[i] (List.getElem_mem hi)
   generalize H[i]=x at hp hh
   have hb:=Qiw (l:=H.take i) (b:=1) (z:=0) (λy hy=>qH y (List.mem_of_mem_take hy)) (by rw[Qbl];exact Nat.le_refl _)
   have hc:(H.take i).length*(4000+1)≤12*4001:=Nat.mul_le_mul (by rw[List.length_take];omega) (by omega)
   rw[Ki,decide_eq_true (show(i:Int)<(H.length:Int) by omega),bifT,Vq (show(toR H)[i]?=some (toF x) by unfold toR;rw[List.getElem?_map,hp];rfl),sbind,W0 (k:=100000) hn (by decide) (by decide) (Q1 (by omega)) (Q1 (by omega)),sbind,Qw,Qw,w1 (by omega),Qpw hp,List.foldl_append]
   rfl
 . rw[Ki,decide_eq_false (by omega),bifF,List.take_length]
 . unfold big;omega
 . rfl
 have hES:=Qnd qE qS
 rw[hsum,show(0:Rat)+(fv (tK k).End - fv (tK k).Start)=fv (tK k).End - fv (tK k).Start by grind]
 rw[hRt,sbind,Bool.not_true,bifF,show(mA l (fv (tK k).End) Z).Tries.length=l.length from List.length_map _,decide_eq_false hlM,bifF]
 have gA0:getI (toR A) 0=some (toF (fv (tK k).Start)):=Vq (i:=0) (show(toR A)[0]?=some (toF (fv (tK k).Start)) by unfold toR;rw[List.getElem?_map,hA0];rfl)
 have gB0:getI (toRR B) 0=some (toR (rv (tK k).Y)):=Vq (i:=0) (show(toRR B)[0]?=some (toR (rv (tK k).Y)) by unfold toRR;rw[List.getElem?_map,hB0];rfl)
 rw[gA0,sbind,same (Q1 (by omega)) (Kh hw.s (by decide)) (Qw _),sbind,Bool.not_true,bifF]
 rw[gB0,sbind,rowS (Vl (V1 qY0 (by decide))) (Xw hw.y (by decide)) (Xm _),sbind,Bool.not_true,bifF]
 rw[show(mA l (fv (tK k).End) Z).T=toF (fv (tK k).End) from rfl,same (Q1 (by omega)) (Kh hw.e (by decide)) (Qw _),sbind,Bool.not_true,bifF,Qgb (k:=2) hn (by decide) (by decide) hw.e hw.s,sbind,same (Q1 (by omega)) (Q1 (by omega)) rfl,sbind,Bool.not_true,bifF]
 rw[hrep2,sbind,hN2,sbind]
 simp only[]
 rw[W5,Bool.not_true,bifF,lenA,lenB,decide_eq_true rfl,Bool.not_true,bifF,bifF]
 rw[Qjj (λ_=>True) ((accA l).length+1) (r:=false)]
 . rw[if_pos (λ_ _=>trivial),w39];rfl
 . intro i hi
   have hp:A[i]?=some (A[i]'(by omega)):=List.getElem?_eq_getElem _
   have hp2:B[i]?=some (B[i]'(by omega)):=List.getElem?_eq_getElem _
   have ha:=qA (A[i]'(by omega)) (List.getElem_mem _)
   have hb:=qB (B[i]'(by omega)) (List.getElem_mem _)
   generalize A[i]'(by omega)=x at hp ha
   generalize B[i]'(by omega)=y at hp2 hb
   refine⟨λ_=>?_,λg=>absurd trivial g⟩
   rw[decide_eq_true (show(i:Int)<(((accA l).length+1:Nat):Int) by omega),bifT,Vq (show(toR A)[i]?=some (toF x) by unfold toR;rw[List.getElem?_map,hp];rfl),Vq (show(toRR B)[i]?=some (toR y) by unfold toRR;rw[List.getElem?_map,hp2];rfl),sbind,sbind,same (Q1 ha) (Q1 ha) rfl,sbind,Bool.not_true,bifF,sbind,sbind,rowS (Vl hb) (Vl hb) rfl,sbind,Bool.not_true,bifF,w1 (by omega)]
 . rw[decide_eq_false (by omega),bifF]
 . unfold big;omega
end Go.Proofs.YtlihkcaoachkdaaGreatDoor
