import Derived.Test.YthbndkiddockmaaGreatDoorP2
namespace Go.Proofs.YthbndkiddockmaaGreatDoor
open Go Go.RowKit
set_option maxRecDepth 100000
theorem Q4s{α β:Type}(o:Option (α×β)):(o.bind fun r=>some (r.1,r.2))=o:=by cases o<;>rfl
theorem Qpm{n:Nat}{p:Qs}{t:Qc}{y hs:List Qc}:Qei n p t y hs=Qaj n p t y hs:=Eq.symm (Eq.symm rfl)
theorem Q1z{z:Int}(h:z≠0):(z:Rat)≠0:=fun g=>by
 have:=congrArg Rat.num g
 rw[Rat.num_intCast] at this
 exact h this
theorem Q3q{z:Int}(h:z.natAbs<18446744073709551616):qw (z:Rat)≤2:=by
 unfold qw
 rw[Rat.num_intCast,Rat.den_intCast,toL1]
 have:(toL z.natAbs).length≤2:=Qa4 (by rw[Ko,Ko,Yh];omega)
 omega
theorem Quh{n k:Nat}{p:Qs}{t e:Qc}{many:Int}{y:List Qc}(hn:big≤n)(h1:1≤k)(hk:k<1000000)(ht:Fk k t)(he:Fk k e):
 (¬(1≤many∧many≤200∧0<(fv e - fv t).num.sign)->Qb6 n p t e many y=some (noH,⟨2,0,0,0⟩)) ∧
 (1≤many∧many≤200∧0<(fv e - fv t).num.sign->Qb6 n p t e many y=Qaj n p t y (List.replicate many.toNat (toF ((fv e - fv t) / (many:Rat))))):=by
 unfold Qb6
 simp only[jn_eq]
 by_cases c1:many<1
 · rw[decide_eq_true c1,bifT,bifT];exact⟨fun _=>rfl,fun h=>by omega⟩
 rw[decide_eq_false c1,bifF]
 by_cases c2:200<many
 · rw[decide_eq_true c2,bifT,bifT];exact⟨fun _=>rfl,fun h=>by omega⟩
 rw[decide_eq_false c2,bifF,Qki hn h1 (by omega) he ht,sbind]
 by_cases c3:(fv e - fv t).num.sign≤0
 · rw[decide_eq_true c3,bifT];exact⟨fun _=>rfl,fun h=>by omega⟩
 rw[decide_eq_false c3,bifF,Qpx hn h1 (by omega) he ht,sbind,Qio hn (by omega) (by omega),sbind]
 have hq:=Qtw (qw_fv he h1) (qw_fv ht h1)
 have hm:=Q3q (z:=many) (by omega)
 rw[Qpz (k:=2*k+2) hn (by omega) (by omega) (Xq (by omega)) (Xq (by omega)),sbind,Vp,Vp,if_neg (Q1z (by omega))]
 refine⟨fun h=>absurd ⟨by omega,by omega,by omega⟩ h,fun _=>?_⟩
 rw[Wl (fun i=>(List.replicate i (toF ((fv e - fv t) / (many:Rat))),(i:Int))) many.toNat (List.replicate many.toNat (toF ((fv e - fv t) / (many:Rat))))]
 · rw[Q4s,Qpm]
 · intro i hi
   rw[decide_eq_true (show(i:Int)<many by omega),bifT,Wg (by simp;omega) (by simp;omega),sbind,w1 (by omega),List.replicate_succ']
 · rw[decide_eq_false (by omega),bifF]
 · unfold big at hn;omega
 · rfl
theorem Q7k{m:Nat}{q:Rat}:rv (List.replicate m (toF q))=List.replicate m q:=by unfold rv;rw[List.map_replicate,Vp]
theorem Q7l{k:Nat}{l:List Rat}(h:QR k l):FRr k (rR l):=fun f hf=>by
 obtain⟨q,hq,rfl⟩:=List.mem_map.1 hf
 have:=Qvk (h q hq)
 exact⟨Qw _,Qw _,this.1,this.2⟩
theorem Qvy{k m:Nat}{q:Rat}(h:qw q≤k):QR k (List.replicate m q):=fun x hx=>by rw[(List.mem_replicate.1 hx).2];exact h
theorem Q53{k m:Nat}{q:Rat}(h:qw q≤k):FR k (List.replicate m (toF q)):=fun x hx=>by rw[(List.mem_replicate.1 hx).2];exact Xq h
theorem Qxp(p:Qm)(f:J2)(many:Int)(hB:Wy p)(hF:Qa0 f)(hmany:-9223372036854775808≤many∧many≤9223372036854775807):∃ n,Xc n p f many=some true:=by
 refine⟨big,?_⟩
 have hn:big≤big:=Nat.le_refl _
 unfold Xc
 simp only[jn_eq]
 obtain⟨v,e1,e2⟩:=Qmx (p:=p) (a:=10) (b:=4) (k:=2) hn (by decide) (by decide)
 rw[show((10:Nat):Int)=10 from rfl,show((4:Nat):Int)=4 from rfl,show((2:Nat):Int)=2 from rfl] at e1
 rw[e1,sbind]
 cases v
 case true=>rw[bifT,bifT,w38];rfl
 obtain⟨⟨t1,t2,t3⟩,⟨s1,s2,s3,s4,s5,s6⟩,p1⟩:=e2 rfl
 obtain⟨v,e3,e4⟩:=Qmy (f:=f) hn
 rw[bifF,e3,sbind]
 cases v
 case true=>rw[bifT,bifT,w38];rfl
 obtain⟨f1,f2,f3⟩:=e4 rfl
 rw[bifF]
 by_cases c0:3<many∧many≤200
 · rw[decide_eq_true c0.1,bifT,decide_eq_true c0.2,bifT,bifT,w38];rfl
 have cut:∀ {X Y:Option Bool},(bif decide (3<many) then (bif decide (many≤200) then X else Y) else Y)=Y:=by
  intro X Y
  by_cases h:3<many
  · rw[decide_eq_true h,bifT,decide_eq_false (fun g=>c0 ⟨h,g⟩),bifF]
  · rw[decide_eq_false h,bifF]
 rw[cut]
 by_cases c1:(400:Int)<p.Bits
 · rw[decide_eq_true c1,bifT,w38];rfl
 rw[decide_eq_false c1,bifF]
 have hw:=(Q0y (bits:=p.Bits) hB (by decide) (e2 rfl)).mono (k:=2000) (by decide)
 have hwr:=(Qzq hB (by decide) (by decide) (by decide) (e2 rfl)).mono (k:=2000) (by decide)
 have hT2:Fk 2 (tF f.T):=Fk_tF hF.1 f1
 have hH2:Fk 2 (tF f.H):=Fk_tF hF.2.1 f2
 have hT:Fk 129 (tF f.T):=Xb hT2 (by decide)
 have hY:FR 129 (f.Y.map tF):=Qai (FR_tF hF.2.2.1 f3) (by decide)
 have hYr:FRr 129 f.Y:=Qs2 (Qzd hF.2.2.1 f3) (by decide)
 have hTr:=Fk_wd hT2
 have hHr:=Fk_wd hH2
 have f4:=f3.1
 have hyl:(f.Y.map tF).length≤1000:=by simp;omega
 rw[Qp2 hn (by omega) (by omega) (by omega) (by have:=s3.1;omega) (by have:=s4.1;omega) (by have:=s5.1;omega) (fun r hr=>by have:=(s6 r hr).1;omega) (by have:=p1.1;omega),sbind]
 unfold K0
 rw[sbind,sbind,Qak hn (by omega),sbind]
 have ht:(⟨⟨f.T.Neg,f.T.N⟩,f.T.D⟩:Qc)=tF f.T:=rfl
 have hh:(⟨⟨f.H.Neg,f.H.N⟩,f.H.D⟩:Qc)=tF f.H:=rfl
 rw[ht,hh]
 obtain⟨b1,b2⟩:=Quh (p:=tP p) (t:=tF f.T) (e:=tF f.H) (many:=many) (y:=f.Y.map tF) hn (show 1≤2 by decide) (by decide) hT2 hH2
 rw[fr_tF,fr_tF] at b1 b2
 have qT:=qw_fr hTr (by decide)
 have qH:=qw_fr hHr (by decide)
 have qY:=Qiw hYr (by decide)
 have qG:=Qtw qH qT
 have qM:=Q3q (z:=many) (by omega)
 have qQ:=Qy1 qG qM
 generalize hq:(fr f.H - fr f.T) / (many:Rat)=q at b2 qQ
 have hloop:∀(K:List Qa->Option Bool),((loopM (fun(s52:(List Qa)×Int)=>
  bif decide (s52.2<many) then (
   bif decide (s52.2<(3:Int)) then (
   (Jl big many).bind fun r56=>
   (K4 big (rF (fr f.H - fr f.T)) r56).bind fun r58=>
   (appM 56 s52.1 ([r58]:List Qa)).bind fun y60=>
   some (Lp.go (y60,wrap64 (s52.2+(1:Int))))) else some (Lp.out s52.1))
  else (
   bif false then (
   (Jl big many).bind fun r56=>
   (K4 big (rF (fr f.H - fr f.T)) r56).bind fun r58=>
   (appM 56 s52.1 ([r58]:List Qa)).bind fun y60=>
   some (Lp.go (y60,wrap64 (s52.2+(1:Int))))) else some (Lp.out s52.1))) big (([]:List Qa),(0:Int))).bind K)=K (rR (List.replicate (min (max many 0) 3).toNat q)):=by
  intro K
  rw[Wl (fun i=>(rR (List.replicate i q),(i:Int))) (min (max many 0) 3).toNat (rR (List.replicate (min (max many 0) 3).toNat q))]
  · intro i hi
    rw[decide_eq_true (show(i:Int)<many by omega),bifT,decide_eq_true (show(i:Int)<3 by omega),bifT,Qiu hn hmany.1 hmany.2,sbind,Qjl (k:=5) hn (by decide) qG (by omega),sbind,hq,Wg (by simp[Kg];omega) (by simp[Kg];omega),sbind,w1 (by omega),List.replicate_succ',Qjm]
  · by_cases g:many<3
    · rw[decide_eq_false (by omega),bifF,bifF]
    · have e3:(min (max many 0) 3).toNat=3:=by omega
      rw[e3]
      rw[decide_eq_false (show ¬((3:Nat):Int)<3 by decide),bifF]
      cases decide ((rR (List.replicate 3 q),((3:Nat):Int)).2<many)<;>rfl
  · unfold big;omega
  · rfl
 rw[Vk hn hTr.1 hTr.2.1 (by omega) (by omega)]
 have form:∀ {X:Option Bool},Qb6 big (tP p) (tF f.T) (tF f.H) many (f.Y.map tF)=some (noH,⟨2,0,0,0⟩)->True:=fun _=>trivial
 by_cases hc:1≤many∧many≤200∧0<(fr f.H - fr f.T).num.sign
 case neg=>
  rw[b1 hc,sbind,sbind,Vk hn hHr.1 hHr.2.1 (by omega) (by omega),sbind,Qd7 (k:=2) hn (by decide) qH qT,sbind,hloop]
  have fin:∀ {X:Option Bool},(bif true then ((J6 big noH ⟨[],⟨false,[],[]⟩,[]⟩).bind fun r80=>bif r80 then (bif Q3 (⟨2,0,0,0⟩:Qe) ⟨2,0,0,0⟩ then (Kk big).bind fun r82=>some r82 else some false) else some false) else X)=some true:=by
   intro X
   rw[bifT,Qos hn,sbind,bifT,Y8,bifT,w38];rfl
  by_cases d1:many<1
  · rw[decide_eq_true d1,bifT];exact fin
  rw[decide_eq_false d1,bifF]
  by_cases d2:3<many
  · rw[decide_eq_true d2,bifT];exact fin
  rw[decide_eq_false d2,bifF,Qfb,sbind,decide_eq_true (show(fr f.H - fr f.T).num.sign≤0 by omega),bifT];exact fin
 have hm3:many≤3:=by omega
 have em:(min (max many 0) 3).toNat=many.toNat:=by omega
 obtain⟨a1,a2⟩:=Ql3 (p:=tP p) (a:=129) (j:=7) (k:=2000) (t:=tF f.T) (y:=f.Y.map tF) (hs:=List.replicate many.toNat (toF q)) hn (by decide) (by decide) (by decide) (by decide) hw hT hY hyl (Q53 qQ)
 rw[Qet,Q7k,fr_tF] at a1 a2
 have hMay:=Qoq (k:=2000) (p:=p) (y:=f.Y) (hs:=rR (List.replicate many.toNat q)) hn (by decide) (by decide) hwr (Q7l (Qvy (by omega))) (by rw[Kg];simp;omega)
 rw[Q7d] at hMay
 rw[b2 hc,a1,sbind,sbind,Vk hn hHr.1 hHr.2.1 (by omega) (by omega),sbind,Qd7 (k:=2) hn (by decide) qH qT,sbind,hloop,em,decide_eq_false (show ¬ many<1 by omega),bifF,decide_eq_false (show ¬ 3<many by omega),bifF,Qfb,sbind,decide_eq_false (show ¬(fr f.H - fr f.T).num.sign≤0 by omega),bifF,hMay,sbind,bifnP]
 by_cases hm:mayQ (tP p) (rvr f.Y) (List.replicate many.toNat q)
 case neg=>
  rw[if_neg hm,if_neg hm]
  simp only[]
  rw[Qos hn,sbind,bifT,Y8,bifT,w38];rfl
 rw[if_pos hm,if_pos hm,Qel hn (show 129<1099511627776 by decide) hYr (by omega),sbind]
 rw[Ql4 (a:=129) (j:=7) (k:=2000) hn (by decide) (by decide) (by decide) (by decide) hwr hm (show qw (fr f.T)≤129 by omega) qY (Qvy qQ),sbind]
 unfold Xh
 cases hM:marchQ (tP p) (List.replicate many.toNat q) 0 (fr f.T) (rvr f.Y) [] with
 | inl g=>
   simp only[]
   rw[show J6 big noH noHr=some true from Qos hn,sbind,bifT,sbind,Y8,bifT,w38];rfl
 | inr z=>
   simp only[]
   rw[Qzs (a:=129) hn (by decide) (by simp;omega) (by decide) (by omega) (Qvy qQ) qY hm.2.1 (by rw[Qay];omega) (by simp;omega) hM,sbind,bifT,sbind,Y8,bifT,w38];rfl
end Go.Proofs.YthbndkiddockmaaGreatDoor
