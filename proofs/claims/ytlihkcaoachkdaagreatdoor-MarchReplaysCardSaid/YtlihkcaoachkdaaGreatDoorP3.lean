import Derived.Test.YtlihkcaoachkdaaGreatDoorP2
namespace Go.Proofs.YtlihkcaoachkdaaGreatDoor
open Go Go.RowKit
set_option maxRecDepth 100000
theorem Q7p{t:Qk}(hB:Qdo t)(h:SmaT t):FT 2 (tTry t)∧FTr 2 t:=by
 obtain⟨b1,b2,b3,b4,b5,_⟩:=hB
 obtain⟨s1,s2⟩:=h
 have g1:=s1.2 t.T (by simp)
 have g2:=s1.2 t.Want (by simp)
 have g3:=s1.2 t.H (by simp)
 have g4:=s1.2 t.Err (by simp)
 have yl:=s2.1
 refine⟨⟨λx hx=>?_,FR_tF b5 s2,by show(t.Y.map tF).length≤_;rw[List.length_map];omega⟩,⟨λx hx=>?_,Q4s b5 s2,by omega⟩⟩
 . rcases List.mem_cons.1 hx with rfl | hx
   . exact Fk_tF b1 g1
   rcases List.mem_cons.1 hx with rfl | hx
   . exact Fk_tF b2 g2
   rcases List.mem_cons.1 hx with rfl | hx
   . exact Fk_tF b3 g3
   rw[List.mem_singleton.1 hx];exact Fk_tF b4 g4
 . rcases List.mem_cons.1 hx with rfl | hx
   . exact Fk_wd (Fk_tF b1 g1)
   rcases List.mem_cons.1 hx with rfl | hx
   . exact Fk_wd (Fk_tF b2 g2)
   rcases List.mem_cons.1 hx with rfl | hx
   . exact Fk_wd (Fk_tF b3 g3)
   rw[List.mem_singleton.1 hx];exact Fk_wd (Fk_tF b4 g4)
theorem Qtq(p:Qt)(h:Qi)(hB:Z1 p)(hH:Qe8 h):∃ n,Wo n p h=some true:=by
 refine⟨big,?_⟩
 have hn:big≤big:=Nat.le_refl _
 unfold Wo
 simp only[jn_eq]
 obtain⟨v,e1,e2⟩:=Qup (p:=p) (a:=10) (b:=4) (k:=2) hn (by decide) (by decide)
 rw[show((10:Nat):Int)=10 from rfl,show((4:Nat):Int)=4 from rfl,show((2:Nat):Int)=2 from rfl] at e1
 rw[e1,sbind]
 cases v
 case true=>rw[bifT,bifT,w38];rfl
 obtain⟨⟨t1,t2,t3⟩,⟨s1,s2,s3,s4,s5,s6⟩,p1⟩:=e2 rfl
 obtain⟨v,e3,e4⟩:=Qu5 (h:=h) hn
 rw[bifF,e3,sbind]
 cases v
 case true=>rw[bifT,bifT,w38];rfl
 obtain⟨f1,f2,f3,f4⟩:=e4 rfl
 have f31:=f3.1
 rw[bifF]
 by_cases c1:(400:Int)<p.Bits
 . rw[decide_eq_true c1,bifT,w38];rfl
 rw[decide_eq_false c1,bifF]
 obtain⟨b1,b2,b3,_⟩:=hH
 have hw:=(Q7m (bits:=p.Bits) hB (by decide) (e2 rfl)).mono (k:=2000) (by decide)
 have hwr:=(Q58 hB (by decide) (by decide) (by decide) (e2 rfl)).mono (k:=2000) (by decide)
 have hFT:∀ t∈h.Tries,FT 2 (tTry t)∧FTr 2 t:=λt ht=>Q7p (b1.2 t ht) (f4 t ht)
 have hTr:FRr 2 [h.T]:=λx hx=>by rw[List.mem_singleton.1 hx];exact Fk_wd (Fk_tF b2 f2)
 have hYr:FRr 2 h.Y:=Q4s b3 f3
 rw[Qyk hn (by omega) (by omega) (by omega) (by have:=s3.1;omega) (by have:=s4.1;omega) (by have:=s5.1;omega) (λr hr=>by have:=(s6 r hr).1;omega) (by have:=p1.1;omega),sbind]
 rw[Qys hn (by omega) (by omega) (λt ht=>(hFT t ht).2.2.2),sbind]
 rw[Qk6 (h:=tHis h) (k:=2) hn (by decide) (by decide) (by show(h.Tries.map tTry).length≤_;rw[List.length_map];omega) (λx hx=>by
  obtain⟨t,ht,rfl⟩:=List.mem_map.1 hx
  exact(hFT t ht).1) (Fk_tF b2 f2) (FR_tF b3 f3) (by show(h.Y.map tF).length≤_;rw[List.length_map];omega),Q9a,Q9b,szs_t]
 have hok:∀ t∈okR h.Tries,t∈h.Tries:=λt ht=>(List.mem_filter.1 ht).1
 have qT:qw (bgT h)≤2:=by
  unfold bgT
  cases hr:okR h.Tries with
  | nil=>exact qw_fr (hTr h.T (.head _)) (by decide)
  | cons t l=>exact qw_fr ((hFT t (hok t (by rw[hr];exact .head _))).2.1 t.T (.head _)) (by decide)
 have qY:QR 2 (bgY h):=by
  unfold bgY
  cases hr:okR h.Tries with
  | nil=>exact Qkg hYr (by decide)
  | cons t l=>exact Qkg (hFT t (hok t (by rw[hr];exact .head _))).2.2.1 (by decide)
 have qYl:(bgY h).length≤8:=by
  unfold bgY
  cases hr:okR h.Tries with
  | nil=>show(rvr h.Y).length≤8;rw[Qb1];omega
  | cons t l=>show(rvr t.Y).length≤8;rw[Qb1];exact(f4 t (hok t (by rw[hr];exact .head _))).2.1
 have qS:QR 2 (bgS h):=λq hq=>by
  obtain⟨t,ht,rfl⟩:=List.mem_map.1 hq
  exact qw_fr ((hFT t (hok t ht)).2.1 t.H (by simp)) (by decide)
 have qSl:(bgS h).length≤3:=by unfold bgS;rw[List.length_map];have:=Qu6 h.Tries;omega
 have eN:=Qu7 (k:=2) hn (by decide) (by omega) (λt ht=>(hFT t ht).2) hTr hYr (by omega)
 have mapl:(h.Tries.map nTr).length≤1000000:=by rw[List.length_map];omega
 have eNo:=Qto (h:=⟨h.Tries.map nTr,rF (fr h.T),rR (rvr h.Y)⟩) hn mapl
 have eSi:=Qtp (h:=⟨h.Tries.map nTr,rF (fr h.T),rR (rvr h.Y)⟩) hn mapl
 simp only[] at eNo eSi
 rw[Q7n nTr (λ_=>rfl)] at eNo eSi
 have g1:getI (((okR h.Tries).map nTr).map (·.T)++[rF (fr h.T)]) 0=some (rF (bgT h)):=by
  unfold bgT
  cases okR h.Tries with
  | nil=>rfl
  | cons t l=>exact Jd (i:=0) rfl
 have g2:getI (((okR h.Tries).map nTr).map (·.Y)++[rR (rvr h.Y)]) 0=some (rR (bgY h)):=by
  unfold bgY
  cases okR h.Tries with
  | nil=>rfl
  | cons t l=>exact Jd (i:=0) rfl
 have g3:((okR h.Tries).map nTr).map (·.H)=rR (bgS h):=by unfold bgS rR;rw[List.map_map,List.map_map];rfl
 rw[g3] at eSi
 generalize bgT h=T at *
 generalize bgY h=Y at *
 generalize bgS h=S at *
 have fix:=fun {T:Rat}{Y:List Rat}{S:List Rat}(q1:qw T≤129) (q2:QR 129 Y) (q3:Y.length≤1000) (q4:QR 2 S)=>Qtl (p:=tP p) (a:=129) (j:=2) (k:=2000) (t:=toF T) (y:=toR Y) (hs:=toR S) hn (by decide) (by decide) (by decide) (by decide) hw (K4 q1) (Qa4 q2) (by rw[Wx];exact q3) (Qa4 q4)
 obtain⟨a1,a2⟩:=fix (T:=T) (Y:=Y) (S:=S) (by omega) (K2 qY (by decide)) (by omega) qS
 rw[Qeu,Qeu,J8] at a1 a2
 have hMay:=Qwv (k:=2000) (p:=p) (y:=rR Y) (hs:=rR S) hn (by decide) (by decide) hwr (Q89 (k:=2000) (K2 qS (by decide))) (by rw[Km];omega)
 rw[Q4p,Q4p] at hMay
 rw[a1,sbind,eN,sbind,eNo,sbind,eSi,sbind,g2,sbind,hMay,sbind,bifnP]
 by_cases hm:mayQ (tP p) Y S
 case neg=>
  rw[if_neg hm,if_neg hm]
  simp only[]
  rw[Q17 hn,sbind,bifT,Qa6,bifT,w38];rfl
 rw[if_pos hm,if_pos hm,g1,sbind,sbind]
 have qT':qw T≤129:=by omega
 have qY':QR 129 Y:=K2 qY (by decide)
 rw[Qtn (a:=129) (j:=2) (k:=2000) hn (by decide) (by decide) (by decide) (by decide) hwr hm qT' qY' qS,sbind]
 unfold Qaj
 rw[if_pos hm] at a1
 cases hM:marchQ (tP p) S 0 T Y [] with
 | inl g=>
   have hk:=a2 hm g hM
   obtain⟨k1,k2,k3,k4⟩:=g
   simp only[]
   rw[show Vr big noH noHr=some true from Q17 hn,sbind,Bool.not_true,bifF,sbind,Qa6,Bool.not_true,bifF,Qec hk,Bool.not_false,bifT,w38];rfl
 | inr z=>
   have hd:=hm.1.1.1
   have hYl:(Y.length:Int)=(tP p).Tape.Dim:=hm.2.1
   obtain⟨zs,z1,z2,z3,z4,z5⟩:=Qu8 hM
   rw[List.nil_append] at z1
   rw[←z1] at z2 z3 z4 z5
   obtain⟨q1,q2,q3,q4⟩:=Qtm (a:=129) (j:=2) (by omega) qS (K2 qY' (by decide)) hYl hM
   have hK:(0+S.length)*(2+1)≤3*3:=Nat.mul_le_mul (by omega) (by omega)
   have ht:=Qof (a:=129) (j:=2) (K:=100000) (m:=Y.length) (by decide) (by omega) (by decide) (by omega) qS (K2 qY' (by decide)) rfl (λ_ h=>by cases h) hM
   have hzl:z.2.2.length=Y.length:=by omega
   have hz3:z.1.length≤3:=by rw[q4];simp;omega
   have hT1:qw z.2.1≤100000:=by omega
   have hY1:QR 100000 z.2.2:=K2 q2 (by decide)
   rw[hM] at a1
   simp only[] at a1 ⊢
   have hrep:Qat big (tP p) (mH z.1 z.2.1 z.2.2)=some (mH z.1 z.2.1 z.2.2,⟨0,0,0,0⟩):=by
    rw[Qk6 (h:=mH z.1 z.2.1 z.2.2) (k:=100000) hn (by decide) (by decide) (by show(z.1.map toTry).length≤_;rw[List.length_map];omega) (λx hx=>by
     obtain⟨t,htm,rfl⟩:=List.mem_map.1 hx
     have g:=ht t htm
     exact⟨Qa4 (Qwx g),Qa4 g.2.2.2.1,by show(toR t.Y).length≤_;rw[Wx,g.2.2.2.2];omega⟩) (K4 hT1) (Qa4 hY1) (by show(toR z.2.2).length≤_;rw[Wx];omega)]
    have r1:begT (mH z.1 z.2.1 z.2.2)=T:=by
     unfold begT mH
     rw[Qrt]
     cases hz:z.1 with
     | nil=>rw[hz] at z2;exact(J8 _).trans z2
     | cons t l=>rw[hz] at z2;exact(J8 _).trans z2.1
    have r2:begY (mH z.1 z.2.1 z.2.2)=Y:=by
     unfold begY mH
     rw[Qrt]
     cases hz:z.1 with
     | nil=>rw[hz] at z5;exact(Qeu _).trans z5
     | cons t l=>rw[hz] at z5;exact(Qeu _).trans z5
    have r3:szs (mH z.1 z.2.1 z.2.2)=S:=by
     unfold szs mH
     rw[Qrt,List.map_map,←z3]
     exact List.map_congr_left λt _=>J8 t.H
    rw[r1,r2,r3,a1];rfl
   have eM:(⟨z.1.map toTry,toF z.2.1,toR z.2.2⟩:Qw)=mH z.1 z.2.1 z.2.2:=rfl
   have hIs:=Q59 (n:=big) (a:=129) (j:=2) hn (by decide) (by omega) (by decide) qT' qS qY' hYl (by omega) (by omega) hM
   rw[hIs,sbind,Bool.not_true,bifF,sbind,Qa6,Bool.not_true,bifF,bifF,eM,hrep,sbind]
   have hpos:=hm.2.2.1
   have hdim:=hd.1
   rw[Qvb (K:=100000) (m:=Y.length) (T0:=T) hn (by decide) (by decide) ht hT1 hY1 hzl (by omega) (by omega) (by omega) (λt htm=>⟨hpos t.H (by rw[←z3];exact List.mem_map_of_mem htm),z4 t htm⟩) z2,sbind,bifT]
   simp only[]
   rw[Qa6,bifT,Qwy (K:=100000) (m:=Y.length) hn (by decide) (by decide) ht hT1 hY1,sbind,bifT,w38];rfl
end Go.Proofs.YtlihkcaoachkdaaGreatDoor
