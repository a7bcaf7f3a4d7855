import Derived.Test.YtlihkcaoachkdaaGreatDoorP2
namespace Go.Proofs.YtlihkcaoachkdaaGreatDoor
open Go Go.RowKit
set_option maxRecDepth 100000
theorem Qrm{p:Ql}{T H:Rat}{Y:List Rat}{f}(h:stepQ p T H Y=.inl f):f.Kind≠0:=by
 unfold stepQ at h
 split at h
 . exact Q06 h
 . cases h;show(2:Int)≠0;decide
def AChn(p:Ql):Rat->List Rat->List TryA->Rat->List Rat->Prop
 | T,Y,[],E,Z=>E=T∧Z=Y
 | T,Y,t::l,E,Z=>t.T=T∧t.Y=Y∧0<t.H∧t.H≤t.Want∧0≤t.Err.num.sign ∧
   match t.Ok with
   | true=>∃ z,stepQ p T t.H Y=.inr z∧normQ z.err=t.Err∧AChn p (T+t.H) z.next l E Z
   | false=>AChn p T Y l E Z
theorem Qz9{T E W:Rat}(h1:T≤E)(h2:T≠E)(hW:0<W):0<cutQ T E W∧cutQ T E W≤W∧T+cutQ T E W≤E:=by
 have h3:T<E:=Rat.lt_iff_le_and_ne.2 ⟨h1,h2⟩
 unfold cutQ
 split
 . rename_i h
   have:=sg_gt.1 h
   refine⟨?_,?_,?_⟩<;>grind
 . rename_i h
   have:=Rat.not_lt.1 λg=>h (sg_gt.2 g)
   refine⟨hW,?_,?_⟩<;>grind
theorem Qix{p:Ql}{r:Qw}{E:Rat}(hr:RulR r):∀(m:Nat) (tr:List TryA) (T:Rat) (Y:List Rat) (W:Rat),T≤E->0<W →
 ∃ l,(adaptQ p r E m tr T Y W).1.1=tr++l∧AChn p T Y l (adaptQ p r E m tr T Y W).1.2.1 (adaptQ p r E m tr T Y W).1.2.2∧((adaptQ p r E m tr T Y W).2.Kind=0->(adaptQ p r E m tr T Y W).1.2.1=E)
 | 0,tr,T,Y,W,hT,hW=>by
   unfold adaptQ
   split
   . rename_i h;exact⟨[],(List.append_nil _).symm,⟨rfl,rfl⟩,λ_=>h⟩
   . exact⟨[],(List.append_nil _).symm,⟨rfl,rfl⟩,λh=>absurd h (show ¬(5:Int)=0 by decide)⟩
 | m+1,tr,T,Y,W,hT,hW=>by
   by_cases h:T=E
   . simp only[adaptQ,if_pos h]
     exact⟨[],(List.append_nil _).symm,⟨rfl,rfl⟩,λ_=>h⟩
   simp only[adaptQ,if_neg h]
   cases dP (underQ r W)
   case true=>exact⟨[],(List.append_nil _).symm,⟨rfl,rfl⟩,λh=>absurd h (show ¬(4:Int)=0 by decide)⟩
   rw[bifF]
   cases hs:stepQ p T (cutQ T E W) Y with
   | inl f=>exact⟨[],(List.append_nil _).symm,⟨rfl,rfl⟩,λh=>absurd h (show ¬ f.Kind=0 from Qrm hs)⟩
   | inr z=>
     obtain⟨c1,c2,c3⟩:=Qz9 hT h hW
     have hfa:=Rat.mul_pos c1 (Qri hr (normQ z.err))
     have herr:0≤(normQ z.err).num.sign:=Int.sign_nonneg_iff.2 (Q07 _)
     simp only[]
     cases ha:dP (accQ r (normQ z.err)) with
     | true=>
       obtain⟨l,l1,l2,l3⟩:=Qix (p:=p) (E:=E) hr m (tr++[tryA r E T Y W z]) (T+cutQ T E W) z.next (cutQ T E W*factorQ r (normQ z.err)) c3 hfa
       refine⟨tryA r E T Y W z::l,by rw[bifT,bifT,l1,List.append_assoc];rfl,⟨rfl,rfl,c1,c2,herr,?_⟩,l3⟩
       rw[show(tryA r E T Y W z).Ok=true from ha]
       exact⟨z,hs,rfl,l2⟩
     | false=>
       obtain⟨l,l1,l2,l3⟩:=Qix (p:=p) (E:=E) hr m (tr++[tryA r E T Y W z]) T Y (cutQ T E W*factorQ r (normQ z.err)) hT hfa
       refine⟨tryA r E T Y W z::l,by rw[bifF,bifF,l1,List.append_assoc];rfl,⟨rfl,rfl,c1,c2,herr,?_⟩,l3⟩
       rw[show(tryA r E T Y W z).Ok=false from ha]
       exact l2
def accA(l:List TryA):List TryA:=l.filter (·.Ok)
def toQA(t:TryA):TryQ:=⟨t.T,t.H,t.Err,t.Y⟩
theorem Qwf{t:TryA}{l:List TryA}(h:t.Ok=true):accA (t::l)=t::accA l:=by unfold accA;rw[List.filter_cons,if_pos h]
theorem Qwg{t:TryA}{l:List TryA}(h:t.Ok=false):accA (t::l)=accA l:=by unfold accA;rw[List.filter_cons,if_neg (by rw[h];decide)]
theorem Qxj{p:Ql}:∀ {l:List TryA}{T E:Rat}{Y Z:List Rat},AChn p T Y l E Z->match accA l with | []=>E=T∧Z=Y | t::_=>t.T=T∧t.Y=Y
 | [],T,E,Y,Z,h=>h
 | t::l,T,E,Y,Z,h=>by
   obtain⟨h1,h2,h3,h4,h5,h6⟩:=h
   cases ho:t.Ok with
   | true=>rw[Qwf ho];exact⟨h1,h2⟩
   | false=>
     rw[ho] at h6
     rw[Qwg ho]
     exact Qxj h6
theorem Qs1{p:Ql}:∀ {l:List TryA}{T E c:Rat}{Y Z:List Rat},AChn p T Y l E Z->((accA l).map (·.H)).foldl (λo x=>o+x) c=c+(E - T)
 | [],T,E,c,Y,Z,h=>by
   obtain⟨rfl,rfl⟩:=h
   show c=_
   grind
 | t::l,T,E,c,Y,Z,h=>by
   obtain⟨h1,h2,h3,h4,h5,h6⟩:=h
   cases ho:t.Ok with
   | true=>
     rw[ho] at h6
     obtain⟨z,g1,g2,g3⟩:=h6
     rw[Qwf ho,List.map_cons,List.foldl_cons,Qs1 g3];grind
   | false=>
     rw[ho] at h6
     rw[Qwg ho]
     exact Qs1 h6
theorem Qly{p:Ql}:∀ {l:List TryA}{T E:Rat}{Y Z:List Rat},AChn p T Y l E Z->∀ t∈l,0<t.H∧t.H≤t.Want∧0≤t.Err.num.sign
 | [],T,E,Y,Z,h,t,ht=>by cases ht
 | x::l,T,E,Y,Z,h,t,ht=>by
   obtain⟨h1,h2,h3,h4,h5,h6⟩:=h
   rcases List.mem_cons.1 ht with rfl | ht
   . exact⟨h3,h4,h5⟩
   cases ho:x.Ok with
   | true=>
     rw[ho] at h6
     obtain⟨z,g1,g2,g3⟩:=h6
     exact Qly g3 t ht
   | false=>rw[ho] at h6;exact Qly h6 t ht
theorem Qs2{p:Ql}:∀ {l:List TryA}{T E:Rat}{Y Z:List Rat}{i:Nat}{t:TryA},AChn p T Y l E Z->l[i]?=some t →
 (∀ u,l[i+1]?=some u->(t.Ok=true->u.T=t.T+t.H)∧(t.Ok=false->u.T=t.T∧u.Y=t.Y))∧(l.length=i+1->(t.Ok=true->E=t.T+t.H)∧(t.Ok=false->E=t.T∧Z=t.Y))
 | [],T,E,Y,Z,i,t,_,h=>by cases h
 | x::l,T,E,Y,Z,0,t,hc,h=>by
   cases h
   obtain⟨h1,h2,h3,h4,h5,h6⟩:=hc
   cases ho:x.Ok with
   | true=>
     rw[ho] at h6
     obtain⟨z,g1,g2,g3⟩:=h6
     rw[h1]
     cases l with
     | nil=>exact⟨(λu h=>by cases h),λ_=>⟨λ_=>g3.1,λh=>by cases h⟩⟩
     | cons y l=>exact⟨(λu h=>by cases h;exact⟨λ_=>g3.1,λh=>by cases h⟩),λh=>by simp at h⟩
   | false=>
     rw[ho] at h6
     rw[h1,h2]
     cases l with
     | nil=>exact⟨(λu h=>by cases h),λ_=>⟨(λh=>by cases h),λ_=>h6⟩⟩
     | cons y l=>exact⟨(λu h=>by cases h;exact⟨(λh=>by cases h),λ_=>⟨h6.1,h6.2.1⟩⟩),λh=>by simp at h⟩
 | x::l,T,E,Y,Z,i+1,t,hc,h=>by
   obtain⟨h1,h2,h3,h4,h5,h6⟩:=hc
   have h':l[i]?=some t:=h
   cases ho:x.Ok with
   | true=>
     rw[ho] at h6
     obtain⟨z,g1,g2,g3⟩:=h6
     obtain⟨c1,c2⟩:=Qs2 g3 h'
     exact⟨λu hu=>c1 u hu,λhl=>c2 (by simpa using hl)⟩
   | false=>
     rw[ho] at h6
     obtain⟨c1,c2⟩:=Qs2 h6 h'
     exact⟨λu hu=>c1 u hu,λhl=>c2 (by simpa using hl)⟩
theorem Qrn{n K m:Nat}{p:Ql}{tr:List TryA}{T T0:Rat}{Y Y0:List Rat}(hn:big≤n)(hK:K<274877906944)(h1:1≤K)(ht:∀ t∈tr,TA K m t)(hT:qw T≤K)(hY:QR K Y)(hYl:Y.length=m)(m1:1≤m)(m6:m≤6)(hl:tr.length≤200)(hc:AChn p T0 Y0 tr T Y):Zv n (mA tr T Y)=some true:=by
 have hs:=Qly hc
 unfold Zv Qd5 Qcc Qan Qcd Qcf Qce
 simp only[jn_eq]
 unfold mA
 simp only[]
 rw[Qeb]
 case hb=>
  intro i x hx
  obtain⟨t,hg,rfl⟩:=getTA hx
  have htt:=ht t (Q6 hg)
  rw[Qpi,sbind,show([toR [t.T,t.Want,t.H,t.Err],(toTryA t).Y]:List (List Qa))=[[t.T,t.Want,t.H,t.Err],t.Y].map toR from rfl,Qrf hn (by omega:K<1099511627776) (λr hr=>by
   rcases List.mem_cons.1 hr with rfl | hr
   . exact Qp2 htt
   . rw[List.mem_singleton.1 hr];exact htt.y),sbind]
  rfl
 rw[show([[toF T],toR Y]:List (List Qa))=[[T],Y].map toR from rfl,Qrf hn (by omega:K<1099511627776) (λr hr=>by
  rcases List.mem_cons.1 hr with rfl | hr
  . intro q hq;rw[List.mem_singleton.1 hq];exact hT
  . rw[List.mem_singleton.1 hr];exact hY),sbind,sbind,Bool.not_true,bifF]
 rw[Qeb]
 case hb=>
  intro i x hx
  obtain⟨t,hg,rfl⟩:=getTA hx
  have htt:=ht t (Q6 hg)
  rw[decide_eq_true (show((toTryA t).Y.length:Int)=((toR Y).length:Int) by show((toR t.Y).length:Int)=_;rw[Kc,Kc,htt.l,hYl])]
  rfl
 rw[Kc,decide_eq_true (show(1:Int)≤(Y.length:Int) by omega),bifT,decide_eq_true (show(Y.length:Int)≤6 by omega),sbind,Bool.not_true,bifF,List.length_map,decide_eq_false (show ¬(200:Int)<(tr.length:Int) by omega),bifF]
 rw[Qeb]
 case hb=>
  intro i x hx
  obtain⟨t,hg,rfl⟩:=getTA hx
  have htt:=ht t (Q6 hg)
  obtain⟨s1,s2,s3⟩:=hs t (Q6 hg)
  have s4:0<t.Want:=by grind
  have p1:=Qdc.2 s1
  have p2:=Qdc.2 s4
  have p3:(t.H - t.Want).num.sign≤0:=sg_le.2 s2
  show((Vg n (toF t.Want)).bind λr40=>bif decide (r40≤(0:Int)) then _ else (Vg n (toF t.H)).bind λr42=>bif decide (r42≤(0:Int)) then _ else (Vo n (toF t.H) (toF t.Want)).bind λr44=>bif decide ((0:Int)<r44) then _ else (Vg n (toF t.Err)).bind λr46=>_)=_
  rw[Vx (k:=K) hn h1 (by omega) (Qz htt.w),sbind,Qt,decide_eq_false (show ¬ t.Want.num.sign≤0 by omega),bifF,Vx (k:=K) hn h1 (by omega) (Qz htt.h),sbind,Qt,decide_eq_false (show ¬ t.H.num.sign≤0 by omega),bifF,K7 (k:=K) hn h1 (by omega) (Qz htt.h) (Qz htt.w),sbind,Qt,Qt,decide_eq_false (show ¬(0:Int)<(t.H - t.Want).num.sign by omega),bifF,Vx (k:=K) hn h1 (by omega) (Qz htt.e),sbind,Qt,decide_eq_false (show ¬ t.Err.num.sign<0 by omega)]
  rfl
 rw[sbind,Bool.not_true,bifF]
 have same:∀ {a b:Rat},qw a≤2*K+1->qw b≤2*K+1->a=b->Jn n (toF a) (toF b)=some true:=λha hb e=>by
  rw[Kv (k:=2*K+1) hn (by omega) (by omega) (Qz ha) (Qz hb),Qt,Qt,decide_eq_true e]
 have rowS:∀ {l:List Rat},QR K l->Vy n (toR l) (toR l)=some true:=λh=>by
  rw[Qa9 (k:=K) hn h1 (by omega) (Kx h) (Kx h)];simp
 rw[Qeb]
 case hb=>
  intro i x hx
  obtain⟨t,hg,rfl⟩:=getTA hx
  have htt:=ht t (Q6 hg)
  have hi:=J7 hg
  obtain⟨c1,c2⟩:=Qs2 hc hg
  have adds:K5 n (toTryA t).T (toTryA t).H=some (toF (t.T+t.H)):=by
   show K5 n (toF t.T) (toF t.H)=_
   rw[Wy (k:=K) hn h1 (by omega) (Qz htt.t) (Qz htt.h),Qt,Qt]
  have hqa:=Qgp htt.t htt.h
  have qt:=htt.t
  have okt:(toTryA t).Ok=t.Ok:=rfl
  have tT:(toTryA t).T=toF t.T:=rfl
  have tY:(toTryA t).Y=toR t.Y:=rfl
  rw[w1 (by omega),okt,adds,tT,tY]
  by_cases h2:i+1<tr.length
  . rw[decide_eq_true (show((i+1:Nat):Int)<(tr.length:Int) by omega),bifT]
    have hp:tr[i+1]?=some tr[i+1]:=List.getElem?_eq_getElem h2
    have hu:=ht tr[i+1] (List.getElem_mem h2)
    generalize tr[i+1]=u at hp hu
    have qu:=hu.t
    have uT:(toTryA u).T=toF u.T:=rfl
    have uY:(toTryA u).Y=toR u.Y:=rfl
    obtain⟨d1,d2⟩:=c1 u hp
    rw[Ku (show(tr.map toTryA)[i+1]?=some (toTryA u) by rw[List.getElem?_map,hp];rfl),sbind,sbind,uT,uY]
    cases ho:t.Ok with
    | true=>rw[bifT,sbind,same (by omega) (by omega) (d1 ho)];rfl
    | false=>
      obtain⟨d3,d4⟩:=d2 ho
      rw[bifF,same (by omega) (by omega) d3,sbind,bifT,d4,rowS htt.y];rfl
  . rw[decide_eq_false (show ¬((i+1:Nat):Int)<(tr.length:Int) by omega),bifF]
    obtain⟨d1,d2⟩:=c2 (by omega)
    cases ho:t.Ok with
    | true=>rw[bifT,sbind,same (by omega) (by omega) (d1 ho)];rfl
    | false=>
      obtain⟨d3,d4⟩:=d2 ho
      rw[bifF,same (by omega) (by omega) d3,sbind,bifT,d4,rowS htt.y];rfl
 rfl
set_option maxRecDepth 100000
def MChn(p:Ql):Rat->List Rat->List TryQ->Rat->List Rat->Prop
 | T,Y,[],E,Z=>E=T∧Z=Y
 | T,Y,q::l,E,Z=>q.T=T∧q.Y=Y∧∃ z,stepQ p T q.H Y=.inr z∧normQ z.err=q.Err∧MChn p (T+q.H) z.next l E Z
theorem chn_M{p:Ql}:∀ {l:List TryA}{T E:Rat}{Y Z:List Rat},AChn p T Y l E Z->MChn p T Y ((accA l).map toQA) E Z
 | [],T,E,Y,Z,h=>h
 | t::l,T,E,Y,Z,h=>by
   obtain⟨h1,h2,h3,h4,h5,h6⟩:=h
   cases ho:t.Ok with
   | true=>
     rw[ho] at h6
     obtain⟨z,g1,g2,g3⟩:=h6
     rw[Qwf ho]
     exact⟨h1,h2,z,g1,g2,chn_M g3⟩
   | false=>
     rw[ho] at h6
     rw[Qwg ho]
     exact chn_M h6
theorem Qup{n m:Nat}{p:Ql}{qs:List TryQ}{T E:Rat}{Y Z:List Rat}(hn:big≤n)(hw:PrbW 4000 p)(hr:prbR p)(hYl:(Y.length:Int)=p.Tape.Dim)(hY:QR 129 Y)(hT:qw T≤4000)(hq:∀ q∈qs,TQ 4000 m q)(hpos:∀ q∈qs,0<q.H.num.sign)(hl:qs.length≤200)(hyl:Y.length≤1000)(hc:MChn p T Y qs E Z):
 Z4 n p (toF T) (toR Y) (toR (qs.map (·.H)))=some (mH qs E Z,⟨0,0,0,0⟩):=by
 unfold Z4
 simp only[jn_eq]
 have hH:QR 4000 (qs.map (·.H)):=λx hx=>by
  obtain⟨q,hm,rfl⟩:=List.mem_map.1 hx
  exact(hq q hm).2.1
 rw[Qmt hn (by decide) (by decide) hw,sbind,dP_t hr,Bool.not_true,bifF,Kc,decide_eq_true hYl,Bool.not_true,bifF,Qsx (k:=4000) hn (by decide) (by decide) (Kx hH),sbind,Va,dP_t (show posQ (qs.map (·.H)) from⟨λx hx=>by
  obtain⟨q,hm,rfl⟩:=List.mem_map.1 hx
  exact hpos q hm,by rw[List.length_map];exact hl⟩),Bool.not_true,bifF,Jj hn (Fk_Fw (Qz hT) (by decide)),sbind,Z5 hn,sbind,Yj (k:=129) hn (by decide) (by decide) (Qz (by rw[Qju];decide)) (Kx hY) (by rw[Kc];omega),sbind,Qt,Qt,Qi1,Va]
 have key:∀(qs:List TryQ) (i:Nat) (T:Rat) (Y:List Rat) (tr:List TryQ),(∀ q∈qs,TQ 4000 m q)->i+qs.length≤200->tr.length=i->QR 129 Y->MChn p T Y qs E Z →
  (rangeL (λ(i48:Nat) (x49:Qa) (s47:(List Qm)×Qa×(List Qa))=>
   (Jg n x49).bind λr51=>
   (Qbh n p s47.2.1 r51 s47.2.2).bind λr53=>
   bif !(Qx r53.2 (⟨0,0,0,0⟩:Qc)) then (
    some (Lp.out (((⟨[],(⟨(⟨false,[]⟩:Qd),[]⟩:Qa),[]⟩:Qi),(⟨r53.2.Kind,wrap64 ((i48:Int)+(1:Int)),r53.2.Stage,r53.2.At⟩:Qc)))))
   else (
    (Qac n r53.1.Err).bind λr55=>
    (appM 256 s47.1 ([(⟨s47.2.1,r51,r51,r55,s47.2.2,true⟩:Qm)]:List Qm)).bind λy57=>
    (K5 n s47.2.1 r51).bind λr59=>
    some (Lp.go (y57,r59,r53.1.Next)))) (toR (qs.map (·.H))) i (tr.map toTry,toF T,toR Y)).bind (lpK λ(s61:(List Qm)×Qa×(List Qa))=>
  some ((⟨s61.1,s61.2.1,s61.2.2⟩:Qi),(⟨0,0,0,0⟩:Qc)))=some (mH (tr++qs) E Z,⟨0,0,0,0⟩):=by
  intro qs
  induction qs with
  | nil=>
    intro i T Y tr _ _ _ _ hc
    obtain⟨rfl,rfl⟩:=hc
    rw[List.append_nil];rfl
  | cons q qs ih=>
    intro i T Y tr hq hi htr hY hc
    obtain⟨h1,h2,z,g1,g2,g3⟩:=hc
    rw[List.length_cons] at hi
    have q1:=hq q (.head _)
    have qT:qw T≤4000:=h1 ▸ q1.1
    have qH:=q1.2.1
    show((rangeL _ (toF q.H::toR (qs.map (·.H))) i _).bind _)=_
    simp only[rangeL]
    rw[Jj hn (Fk_Fw (Qz qH) (by decide)),sbind,Qt]
    obtain⟨d1,d2⟩:=Qgr (p:=p) (t:=toF T) (h:=toF q.H) (y:=toR Y) hn (by decide) (by decide) hw (Qz qT) (Qz qH) (Kx (Vh hY (by decide)))
    rw[Qt,Qt,Va,g1] at d1
    obtain⟨_,_,z1,z2,z3⟩:=Qmu g1
    simp only[] at d1
    rw[d1,sbind,Wa,Bool.not_true,bifF]
    show(((Qac n (toR z.err)).bind λr55=>(appM 256 (tr.map toTry) [(⟨toF T,toF q.H,toF q.H,r55,toR Y,true⟩:Qm)]).bind λy57=>(K5 n (toF T) (toF q.H)).bind λr59=>some (Lp.go (y57,r59,toR z.next))).bind _).bind _=_
    rw[Qig (k:=129) hn (by decide) (by decide) (Kx z3),sbind,Va,V7 (by simp;omega) (by simp;omega),sbind,Wy (k:=4000) hn (by decide) (by decide) (Qz qT) (Qz qH),sbind,sbind,Qt,Qt]
    have e1:tr.map toTry++[(⟨toF T,toF q.H,toF q.H,toF (normQ z.err),toR Y,true⟩:Qm)]=(tr++[q]).map toTry:=by
     rw[List.map_append]
     congr 1
     rw[g2,←h1,←h2];rfl
    rw[e1]
    have:=ih (i+1) (T+q.H) z.next (tr++[q]) (λx hx=>hq x (.tail _ hx)) (by omega) (by simp;omega) z1 g3
    rw[List.append_assoc] at this
    exact this
 have:=key qs 0 T Y [] hq (by omega) rfl hY hc
 exact this
theorem Qkp{n k:Nat}{h:Qi}(hn:big≤n)(h1:1≤k)(hk:k<1099511627776)(hl:h.Tries.length≤1000000)(ht:∀ t∈h.Tries,FT k t)(hT:Fk k h.T)(hY:FR k h.Y)(hYl:h.Y.length≤1000000):
 Xe n h=some (((okT h.Tries).map nT).map (·.T)++[toF (fv h.T)],((okT h.Tries).map nT).map (·.Y)++[toR (rv h.Y)]):=by
 have hle:=Qre h.Tries
 unfold Xe
 rw[Qbo hn h1 hk hl ht,sbind]
 generalize hA:(okT h.Tries).map nT=A
 have hAl:A.length≤1000000:=by rw[←hA,List.length_map];omega
 rw[Za (λi=>((A.take i).map (·.T),(A.take i).map (·.Y))) A]
 . rw[List.take_length]
   show((Jg n h.T).bind _)=_
   rw[Jj hn (Fk_Fw hT (by omega)),sbind,V7 (by simp;omega) (by simp;omega),sbind,Qcy hn h1 hk hY hYl,sbind,V7 (by simp;omega) (by simp;omega),sbind]
 . intro i x hx
   have hi:=J7 hx
   rw[V7 (by simp;omega) (by simp;omega),sbind,V7 (by simp;omega) (by simp;omega),sbind,Wz (·.T) hx,Wz (·.Y) hx]
 . rfl
theorem Qro{n k:Nat}{h:Qi}(hn:big≤n)(h1:1≤k)(hk:k<1099511627776)(hl:h.Tries.length≤1000000)(ht:∀ t∈h.Tries,FT k t):Zy n h=some (toR (szs h)):=by
 have hle:=Qre h.Tries
 unfold Zy
 rw[Qbo hn h1 hk hl ht,sbind]
 have e:toR (szs h)=((okT h.Tries).map nT).map (·.H):=by unfold toR szs;rw[List.map_map,List.map_map];rfl
 rw[e]
 generalize hA:(okT h.Tries).map nT=A
 have hAl:A.length≤1000000:=by rw[←hA,List.length_map];omega
 rw[Za (λi=>(A.take i).map (·.H)) A]
 . rw[List.take_length];rfl
 . intro i x hx
   have hi:=J7 hx
   rw[V7 (by simp;omega) (by simp;omega),sbind,Wz (·.H) hx]
 . rfl
theorem okT_A(tr:List TryA):okT (tr.map toTryA)=(accA tr).map toTryA:=by
 unfold okT accA
 rw[List.filter_map];rfl
theorem FT_A{d:Nat}{t:TryA}(h:TA 4000 d t)(hd:d≤1000):FT 4000 (toTryA t):=⟨Kx (Qp2 h),Kx h.y,by show(toR t.Y).length≤_;rw[Kc,h.l];omega⟩
theorem FT_Q{d:Nat}{t:TryQ}(h:TQ 4000 d t)(hd:d≤1000):FT 4000 (toTry t):=⟨Kx (Q2g h),Kx h.2.2.2.1,by show(toR t.Y).length≤_;rw[Kc,h.2.2.2.2];omega⟩
theorem Q1b{n d:Nat}{tr:List TryA}{T:Rat}{Y:List Rat}(hn:big≤n)(ht:∀ t∈tr,TA 4000 d t)(hd:d≤1000)(hl:tr.length≤1000)(hT:qw T≤4000)(hY:QR 4000 Y)(hYl:Y.length≤1000):
 Xe n (mA tr T Y)=some (toR ((accA tr).map (·.T)++[T]),toRR ((accA tr).map (·.Y)++[Y])):=by
 rw[Qkp (k:=4000) (h:=mA tr T Y) hn (by decide) (by decide) (by show(tr.map toTryA).length≤_;rw[List.length_map];omega) (λx hx=>by
  obtain⟨t,hm,rfl⟩:=List.mem_map.1 hx
  exact FT_A (ht t hm) hd) (Qz hT) (Kx hY) (by show(toR Y).length≤_;rw[Kc];omega)]
 unfold mA toR toRR
 simp only[]
 rw[okT_A,List.map_map,List.map_map,List.map_map,List.map_append,List.map_append,List.map_map,List.map_map]
 have a1:∀ t:TryA,nT (toTryA t)=⟨toF t.T,toF t.Want,toF t.H,toF t.Err,toR t.Y,true⟩:=λt=>by
  unfold nT toTryA;simp only[Qt,Va]
 congr 2
 . congr 1
   . exact List.map_congr_left λt _=>congrArg (·.T) (a1 t)
   . rw[Qt];rfl
 . congr 1
   . rw[List.map_map];exact List.map_congr_left λt _=>congrArg (·.Y) (a1 t)
   . rw[show List.map toF Y=toR Y from rfl,Va];rfl
theorem Q1c{n d:Nat}{tr:List TryQ}{T:Rat}{Y:List Rat}(hn:big≤n)(ht:∀ t∈tr,TQ 4000 d t)(hd:d≤1000)(hl:tr.length≤1000)(hT:qw T≤4000)(hY:QR 4000 Y)(hYl:Y.length≤1000):
 Xe n (mH tr T Y)=some (toR (tr.map (·.T)++[T]),toRR (tr.map (·.Y)++[Y])):=by
 rw[Qkp (k:=4000) (h:=mH tr T Y) hn (by decide) (by decide) (by show(tr.map toTry).length≤_;rw[List.length_map];omega) (λx hx=>by
  obtain⟨t,hm,rfl⟩:=List.mem_map.1 hx
  exact FT_Q (ht t hm) hd) (Qz hT) (Kx hY) (by show(toR Y).length≤_;rw[Kc];omega)]
 unfold mH toR toRR
 simp only[]
 rw[Qz7,List.map_map,List.map_map,List.map_map,List.map_append,List.map_append,List.map_map,List.map_map]
 have a1:∀ t:TryQ,nT (toTry t)=⟨toF t.T,toF t.H,toF t.H,toF t.Err,toR t.Y,true⟩:=λt=>by
  unfold nT toTry;simp only[Qt,Va]
 congr 2
 . congr 1
   . exact List.map_congr_left λt _=>congrArg (·.T) (a1 t)
   . rw[Qt];rfl
 . congr 1
   . rw[List.map_map];exact List.map_congr_left λt _=>congrArg (·.Y) (a1 t)
   . rw[show List.map toF Y=toR Y from rfl,Va];rfl
theorem Q0a(tr:List TryA)(T:Rat)(Y:List Rat):szs (mA tr T Y)=(accA tr).map (·.H):=by
 unfold szs mA
 simp only[]
 rw[okT_A,List.map_map]
 exact List.map_congr_left λt _=>Qt t.H
theorem Qmx{p:Ql}{r:Qw}{E:Rat}:∀(m:Nat) (tr:List TryA) (T:Rat) (Y:List Rat) (W:Rat),(adaptQ p r E m tr T Y W).2.Kind=0->(adaptQ p r E m tr T Y W).2=⟨0,0,0,0⟩
 | 0,tr,T,Y,W,h=>by
   by_cases hT:T=E
   . simp only[adaptQ,if_pos hT]
   . simp only[adaptQ,if_neg hT] at h;exact absurd h (by decide)
 | m+1,tr,T,Y,W,h=>by
   by_cases hT:T=E
   . simp only[adaptQ,if_pos hT]
   simp only[adaptQ,if_neg hT] at h ⊢
   cases hu:dP (underQ r W)
   case true=>rw[hu] at h;exact absurd h (show ¬(4:Int)=0 by decide)
   rw[hu,bifF] at h
   rw[bifF]
   cases hs:stepQ p T (cutQ T E W) Y with
   | inl f=>rw[hs] at h;exact absurd h (show ¬ f.Kind=0 from Qrm hs)
   | inr z=>
     rw[hs] at h
     exact Qmx m _ _ _ _ h
set_option maxRecDepth 100000
theorem Qp5{f:Qc}(h:¬ f.Kind=0):Qx f ⟨0,0,0,0⟩=false:=Qtu h
theorem Quq(k:Q3)(hB:V4 k):∃ n,Wn n k=some true:=by
 refine⟨big,?_⟩
 have hn:big≤big:=Nat.le_refl _
 unfold Wn Y8
 simp only[jn_eq]
 obtain⟨v,e1,e2⟩:=Qgu (k:=k) hn
 rw[e1,sbind]
 cases v
 case true=>rw[bifT,w39];rfl
 have hL:=e2 rfl
 rw[bifF,Qii hn hL,sbind]
 have hw:=Qs0 hB hL
 have hy1:=hL.y.1
 have hyl:(tK k).Y.length≤1000:=by show(k.Y.map tF).length≤1000;rw[List.length_map];omega
 have hM:=hL.m
 have a1:=Qds (n:=big) (k:=tK k) hn hw (λhr=>by
  have:=hr.most
  have h2:k.Rules.Most≤200:=this.2
  show k.Rules.Most≤12;omega) hyl
 rw[a1,sbind]
 by_cases hR:TskR (tK k)
 case neg=>
  rw[if_neg hR]
  simp only[]
  rw[Xv (show(2:Int)≠0 by decide),Bool.not_false,bifT,sbind,Xv (show(2:Int)≠0 by decide),Bool.not_false,bifT]
  rw[show decide (((⟨[],⟨⟨false,[]⟩,[]⟩,[]⟩:Qi).Tries.length:Int)=0)=true from rfl,bifT,w39];rfl
 rw[if_pos hR]
 simp only[]
 have hr:=hR.2.1
 have hmo:=hr.most
 have hmo1:k.Rules.Most≤200:=hmo.2
 have hmo2:1≤k.Rules.Most:=hmo.1
 have hdim:(k.Y.map tF).length=(tK k).Y.length:=rfl
 have vr:=hw.r.all
 have qS:qw (fv (tK k).Start)≤2:=qw_fv hw.s (by decide)
 have qE:qw (fv (tK k).End)≤2:=qw_fv hw.e (by decide)
 have qY0:QR 129 (rv (tK k).Y):=Vh (QR_rv hw.y (by decide)) (by decide)
 have hok:=Qmw (p:=(tK k).Problem) (r:=(tK k).Rules) (E:=fv (tK k).End) (d:=(rv (tK k).Y).length) hr (qw_fv vr.2.2.1 (by decide)) (qw_fv vr.2.2.2.1 (by decide)) qE (tK k).Rules.Most.toNat [] (fv (tK k).Start) (rv (tK k).Y) (fv (tK k).First) (by show 0+k.Rules.Most.toNat≤12;omega) qS (qw_fv hw.f (by decide)) qY0 rfl (λ_ h=>by cases h)
 have hform:=Qix (p:=(tK k).Problem) (E:=fv (tK k).End) hr (tK k).Rules.Most.toNat [] (fv (tK k).Start) (rv (tK k).Y) (fv (tK k).First) hR.2.2.2.1 hR.2.2.2.2
 have hzero:=Qmx (p:=(tK k).Problem) (r:=(tK k).Rules) (E:=fv (tK k).End) (tK k).Rules.Most.toNat [] (fv (tK k).Start) (rv (tK k).Y) (fv (tK k).First)
 generalize adaptQ (tK k).Problem (tK k).Rules (fv (tK k).End) (tK k).Rules.Most.toNat [] (fv (tK k).Start) (rv (tK k).Y) (fv (tK k).First)=g at *
 by_cases h0:g.2.Kind=0
 case neg=>
  rw[Qp5 h0,Bool.not_false,bifT,sbind,Qp5 h0,Bool.not_false,bifT]
  rw[show decide (((⟨[],⟨⟨false,[]⟩,[]⟩,[]⟩:Qi).Tries.length:Int)=0)=true from rfl,bifT,w39];rfl
 obtain⟨l,l1,l2,l3⟩:=hform
 rw[List.nil_append] at l1
 have l4:=l3 h0
 obtain⟨o1,o2,o3,o4,o5⟩:=hok
 rw[hzero h0]
 rw[l1] at o1 o5
 rw[l4] at l2 o2
 rw[l1,l4]
 generalize g.1.2.2=Z at *
 have hl12:l.length≤12:=Nat.le_trans o5 (by show 0+k.Rules.Most.toNat≤12;omega)
 have hlM:¬ k.Rules.Most<(l.length:Int):=by
  have:l.length≤0+k.Rules.Most.toNat:=o5
  omega
 have hd1:1≤(rv (tK k).Y).length∧(rv (tK k).Y).length≤6:=by
  have h1:=hR.1.1.1.1
  have h2:=hR.2.2.1
  rw[Vn]
  exact⟨by omega,by omega⟩
 have hYd:((rv (tK k).Y).length:Int)=(tK k).Problem.Tape.Dim:=by rw[Vn];exact hR.2.2.1
 have hd1000:(rv (tK k).Y).length≤1000:=by omega
 have qZ:QR 4000 Z:=Vh o3 (by decide)
 have hacc:(accA l).length≤12:=Nat.le_trans (List.length_filter_le _ _) hl12
 have haccm:∀ t∈accA l,t∈l:=λt ht=>(List.mem_filter.1 ht).1
 have hN:=Q1b (n:=big) hn o1 hd1000 (by omega) o2 qZ (by omega)
 have hSz:=Qro (n:=big) (k:=4000) (h:=mA l (fv (tK k).End) Z) hn (by decide) (by decide) (by show(l.map toTryA).length≤_;rw[List.length_map];omega) (λx hx=>by
  obtain⟨t,hm,rfl⟩:=List.mem_map.1 hx
  exact FT_A (o1 t hm) hd1000)
 rw[Q0a] at hSz
 have qH:QR 4000 ((accA l).map (·.H)):=λx hx=>by
  obtain⟨t,hm,rfl⟩:=List.mem_map.1 hx
  exact(o1 t (haccm t hm)).h
 have eM:(⟨l.map toTryA,toF (fv (tK k).End),toR Z⟩:Qi)=mA l (fv (tK k).End) Z:=rfl
 rw[eM,Wa,Bool.not_true,bifF,sbind]
 simp only[]
 rw[Wa,Bool.not_true,bifF,hN,sbind,hSz,sbind,Xm hn,sbind]
 have hsum:=Qs1 (c:=0) l2
 have hbeg:=Qxj l2
 have hRt:=Qrn (n:=big) (K:=4000) hn (by decide) (by decide) o1 o2 qZ o4 hd1.1 hd1.2 (by omega) l2
 have same:∀ {a b:Qa},Fk 4000 a->Fk 4000 b->fv a=fv b->Jn big a b=some true:=λha hb e=>by
  rw[Kv (k:=4000) hn (by decide) (by decide) ha hb,decide_eq_true e]
 have rowS:∀ {a b:List Qa},FR 4000 a->FR 4000 b->rv a=rv b->Vy big a b=some true:=λha hb e=>by
  rw[Qa9 (k:=4000) hn (by decide) (by decide) ha hb,decide_eq_true e]
 have qA:QR 4000 ((accA l).map (·.T)++[fv (tK k).End]):=λx hx=>by
  rcases List.mem_append.1 hx with hx | hx
  . obtain⟨t,hm,rfl⟩:=List.mem_map.1 hx
    exact(o1 t (haccm t hm)).t
  . rw[List.mem_singleton.1 hx];exact o2
 have qB:∀ y∈(accA l).map (·.Y)++[Z],QR 4000 y:=λx hx=>by
  rcases List.mem_append.1 hx with hx | hx
  . obtain⟨t,hm,rfl⟩:=List.mem_map.1 hx
    exact(o1 t (haccm t hm)).y
  . rw[List.mem_singleton.1 hx];exact qZ
 have hA0:((accA l).map (·.T)++[fv (tK k).End])[0]?=some (fv (tK k).Start):=by
  cases ha:accA l with
  | nil=>rw[ha] at hbeg;exact congrArg some hbeg.1
  | cons t r=>rw[ha] at hbeg;exact congrArg some hbeg.1
 have hB0:((accA l).map (·.Y)++[Z])[0]?=some (rv (tK k).Y):=by
  cases ha:accA l with
  | nil=>rw[ha] at hbeg;exact congrArg some hbeg.2
  | cons t r=>rw[ha] at hbeg;exact congrArg some hbeg.2
 have hAl:((accA l).map (·.T)++[fv (tK k).End]).length=(accA l).length+1:=by simp
 have hBl:((accA l).map (·.Y)++[Z]).length=(accA l).length+1:=by simp
 have hQ:∀ q∈(accA l).map toQA,TQ 4000 (rv (tK k).Y).length q:=λq hq=>by
  obtain⟨t,hm,rfl⟩:=List.mem_map.1 hq
  have g:=o1 t (haccm t hm)
  exact⟨g.t,g.h,g.e,g.y,g.l⟩
 have hQl:((accA l).map toQA).length≤12:=by rw[List.length_map];exact hacc
 have hall:=Qly l2
 have halong:=Qup (n:=big) (m:=(rv (tK k).Y).length) (qs:=(accA l).map toQA) hn hw.p hR.1 hYd qY0 (by omega) hQ (λq hq=>by
  obtain⟨t,hm,rfl⟩:=List.mem_map.1 hq
  exact Qdc.2 (hall t (haccm t hm)).1) (by omega) (by omega) (chn_M l2)
 have hN2:=Q1c (n:=big) hn hQ hd1000 (by omega) o2 qZ (by omega)
 rw[List.map_map,List.map_map] at hN2
 rw[List.map_map] at halong
 have hrep:=Qo3 (n:=big) (p:=(tK k).Problem) (h:=mA l (fv (tK k).End) Z) (k:=4000) hn (by decide) (by decide) (by show(l.map toTryA).length≤_;rw[List.length_map];omega) (λx hx=>by
  obtain⟨t,hm,rfl⟩:=List.mem_map.1 hx
  exact FT_A (o1 t hm) hd1000) (Qz o2) (Kx qZ) (by show(toR Z).length≤_;rw[Kc];omega)
 have r1:begT (mA l (fv (tK k).End) Z)=fv (tK k).Start:=by
  unfold begT mA
  rw[okT_A]
  cases ha:accA l with
  | nil=>rw[ha] at hbeg;exact(Qt _).trans hbeg.1
  | cons t r=>rw[ha] at hbeg;exact(Qt _).trans hbeg.1
 have r2:begY (mA l (fv (tK k).End) Z)=rv (tK k).Y:=by
  unfold begY mA
  rw[okT_A]
  cases ha:accA l with
  | nil=>rw[ha] at hbeg;exact(Va _).trans hbeg.2
  | cons t r=>rw[ha] at hbeg;exact(Va _).trans hbeg.2
 rw[r1,r2,Q0a] at hrep
 have eH:(List.map (λq:TryQ=>q.H) ((accA l).map toQA))=(accA l).map (·.H):=by rw[List.map_map];rfl
 have hrep2:Qao big (tK k).Problem (mA l (fv (tK k).End) Z)=some (mH ((accA l).map toQA) (fv (tK k).End) Z,⟨0,0,0,0⟩):=hrep.trans halong
 have eT:List.map ((λq:TryQ=>q.T) ∘ toQA) (accA l)=(accA l).map (·.T):=rfl
 have eY:List.map ((λq:TryQ=>q.Y) ∘ toQA) (accA l)=(accA l).map (·.Y):=rfl
 rw[eT,eY] at hN2
 generalize hAA:(accA l).map (·.T)++[fv (tK k).End]=A at *
 generalize hBB:(accA l).map (·.Y)++[Z]=B at *
 have lenA:(toR A).length=(accA l).length+1:=by rw[Kc,hAl]
 have lenB:(toRR B).length=(accA l).length+1:=by unfold toRR;rw[List.length_map,hBl]
 simp only[]
 rw[lenA,lenB,decide_eq_false (show ¬(((accA l).length+1:Nat):Int)=0 by omega),bifF,decide_eq_true rfl,Bool.not_true,bifF]
 generalize hHH:(accA l).map (·.H)=H at *
 have hHl:H.length≤12:=by rw[←hHH,List.length_map];exact hacc
 rw[Qfh (λi=>(toF ((H.take i).foldl (λo x=>o+x) 0),(i:Int))) H.length (toF (H.foldl (λo x=>o+x) 0))]
 rotate_left
 . intro i hi
   have hp:H[i]?=some H[i]:=List.getElem?_eq_getElem hi
   have hh:=qH H[i] (List.getElem_mem hi)
   generalize H[i]=x at hp hh
   have hb:=Qlu (l:=H.take i) (b:=1) (z:=0) (λy hy=>qH y (List.mem_of_mem_take hy)) (by rw[Qdl];exact Nat.le_refl _)
   have hc:(H.take i).length*(4000+1)≤12*4001:=Nat.mul_le_mul (by rw[List.length_take];omega) (by omega)
   rw[Kc,decide_eq_true (show(i:Int)<(H.length:Int) by omega),bifT,Ku (show(toR H)[i]?=some (toF x) by unfold toR;rw[List.getElem?_map,hp];rfl),sbind,Wy (k:=100000) hn (by decide) (by decide) (Qz (by omega)) (Qz (by omega)),sbind,Qt,Qt,w1 (by omega),Qkl hp,List.foldl_append]
   rfl
 . rw[Kc,decide_eq_false (by omega),bifF,List.take_length]
 . unfold big;omega
 . rfl
 have hES:=Qq4 qE qS
 rw[hsum,show(0:Rat)+(fv (tK k).End - fv (tK k).Start)=fv (tK k).End - fv (tK k).Start by grind]
 rw[hRt,sbind,Bool.not_true,bifF,show(mA l (fv (tK k).End) Z).Tries.length=l.length from List.length_map _,decide_eq_false hlM,bifF]
 have gA0:getI (toR A) 0=some (toF (fv (tK k).Start)):=Ku (i:=0) (show(toR A)[0]?=some (toF (fv (tK k).Start)) by unfold toR;rw[List.getElem?_map,hA0];rfl)
 have gB0:getI (toRR B) 0=some (toR (rv (tK k).Y)):=Ku (i:=0) (show(toRR B)[0]?=some (toR (rv (tK k).Y)) by unfold toRR;rw[List.getElem?_map,hB0];rfl)
 rw[gA0,sbind,same (Qz (by omega)) (J9 hw.s (by decide)) (Qt _),sbind,Bool.not_true,bifF]
 rw[gB0,sbind,rowS (Kx (Vh qY0 (by decide))) (Y7 hw.y (by decide)) (Va _),sbind,Bool.not_true,bifF]
 rw[show(mA l (fv (tK k).End) Z).T=toF (fv (tK k).End) from rfl,same (Qz (by omega)) (J9 hw.e (by decide)) (Qt _),sbind,Bool.not_true,bifF,Qie (k:=2) hn (by decide) (by decide) hw.e hw.s,sbind,same (Qz (by omega)) (Qz (by omega)) rfl,sbind,Bool.not_true,bifF]
 rw[hrep2,sbind,hN2,sbind]
 simp only[]
 rw[Wa,Bool.not_true,bifF,lenA,lenB,decide_eq_true rfl,Bool.not_true,bifF,bifF]
 rw[Qhb (λ_=>True) ((accA l).length+1) (r:=false)]
 . rw[if_pos (λ_ _=>trivial),w39];rfl
 . intro i hi
   have hp:A[i]?=some (A[i]'(by omega)):=List.getElem?_eq_getElem _
   have hp2:B[i]?=some (B[i]'(by omega)):=List.getElem?_eq_getElem _
   have ha:=qA (A[i]'(by omega)) (List.getElem_mem _)
   have hb:=qB (B[i]'(by omega)) (List.getElem_mem _)
   generalize A[i]'(by omega)=x at hp ha
   generalize B[i]'(by omega)=y at hp2 hb
   refine⟨λ_=>?_,λg=>absurd trivial g⟩
   rw[decide_eq_true (show(i:Int)<(((accA l).length+1:Nat):Int) by omega),bifT,Ku (show(toR A)[i]?=some (toF x) by unfold toR;rw[List.getElem?_map,hp];rfl),Ku (show(toRR B)[i]?=some (toR y) by unfold toRR;rw[List.getElem?_map,hp2];rfl),sbind,sbind,same (Qz ha) (Qz ha) rfl,sbind,Bool.not_true,bifF,sbind,sbind,rowS (Kx hb) (Kx hb) rfl,sbind,Bool.not_true,bifF,w1 (by omega)]
 . rw[decide_eq_false (by omega),bifF]
 . unfold big;omega
end Go.Proofs.YtlihkcaoachkdaaGreatDoor
