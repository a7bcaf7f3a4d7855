import Derived.Test.YtmnlcblemgjeeaaGreatDoorTie
import Derived.Test.YtmnlcblemgjeeaaGreatDoorCards
import Derived.Lay
import Derived.Stop.Joined
import Derived.SevenTiedAt
import Derived.Test.YtmnlcblemgjeeaaGreatDoorFrameW
import Derived.Test.YtmnlcblemgjeeaaGreatDoorGs
import Derived.Test.YtmnlcblemgjeeaaGreatDoorGenL1
import Derived.Test.YtmnlcblemgjeeaaGreatDoorP2
namespace Go.Proofs.YtmnlcblemgjeeaaGreatDoor
open Go Go.RowKit Go.ChangeShapes Go.WideShapes Go.ChangeAt
set_option maxRecDepth 100000
set_option maxHeartbeats 8000000
theorem Q3o:OpnW Tryz.prog 124 u32 (λx=>(x<4294967296)/\True):=.of (Q32 uk32 Tryz.underlying124)
def Qte(xs:List Nat):Prop:=xs.length*4<=140737488351232/\∀ x∈xs,True
theorem Q07:OpnW Tryz.prog 26 (λxs:List Nat=>sli 1 (xs.map u32)) (λxs=>Qsb xs/\Qte xs):=by refine OpnW.mono (Qr8 (k:=1) Tryz.underlying26 oy rfl (λ_=>rfl) Q3o (q:=4) oy) ?_;exact λxs h=>⟨⟨h.1.1,λx hx=>(h.2 x hx).1⟩,⟨h.1.2,λx hx=>(h.2 x hx).2⟩⟩
theorem opn_4:OpnW Tryz.prog 4 bl (λx=>True/\True):=.of (Q33 Tryz.underlying4)
def Qbo(x:Qa):Prop:=True/\Qte x.N/\Qte x.D/\True
theorem Qww:OpnW Tryz.prog 28 (λx:Qa=>.agg [bl x.Neg,Qak x.N,Qak x.D]) (λx=>X8 x/\Qbo x):=Qk5 (fl:=[(4,0,1),(26,1,1),(26,2,1)]) (λy=>(⟨y.1,y.2.1,y.2.2.1⟩:Qa)) Tryz.underlying28 oy oy (Z5 opn_4 (Z5 Q07 (Z5 Q07 (Qoc)))) (λ_=>rfl) (λy h=>⟨⟨h.1.1,h.2.1.1,h.2.2.1.1,trivial⟩,by have a0:=h.1.2;have a1:=h.2.1.2;have a2:=h.2.2.1.2;exact⟨a0,a1,a2,trivial⟩⟩)
def Wb(xs:List Qa):Prop:=xs.length*56<=140737488351232/\∀ x∈xs,Qbo x
theorem Qmr:OpnW Tryz.prog 22 (λxs:List Qa=>sli 3 (xs.map Qb)) (λxs=>Kj xs/\Wb xs):=by refine OpnW.mono (Qr8 (k:=3) Tryz.underlying22 oy rfl (λ_=>rfl) Qww (q:=56) oy) ?_;exact λxs h=>⟨⟨h.1.1,λx hx=>(h.2 x hx).1⟩,⟨h.1.2,λx hx=>(h.2 x hx).2⟩⟩
def Qgi(x:Qi):Prop:=Wb x.Up/\Wb x.Gk/\True
theorem Q46:OpnW Tryz.prog 70 (λx:Qi=>.agg [Jp x.Up,Jp x.Gk]) (λx=>Qbs x/\Qgi x):=Qk5 (fl:=[(22,0,1),(22,1,1)]) (λy=>(⟨y.1,y.2.1⟩:Qi)) Tryz.underlying70 oy oy (Z5 Qmr (Z5 Qmr (Qoc))) (λ_=>rfl) (λy h=>⟨⟨h.1.1,h.2.1.1,trivial⟩,by have a0:=h.1.2;have a1:=h.2.1.2;exact⟨a0,a1,trivial⟩⟩)
def Qkd(xs:List Qi):Prop:=xs.length*48<=140737488351232/\∀ x∈xs,Qgi x
theorem Q47:OpnW Tryz.prog 62 (λxs:List Qi=>sli 2 (xs.map Q4)) (λxs=>Qen xs/\Qkd xs):=by refine OpnW.mono (Qr8 (k:=2) Tryz.underlying62 oy rfl (λ_=>rfl) Q46 (q:=48) oy) ?_;exact λxs h=>⟨⟨h.1.1,λx hx=>(h.2 x hx).1⟩,⟨h.1.2,λx hx=>(h.2 x hx).2⟩⟩
def Qim(x:Qu):Prop:=Qbo x.T/\Wb x.Y/\Wb x.U/\Wb x.V/\True
theorem Q48:OpnW Tryz.prog 64 (λx:Qu=>.agg [Qb x.T,Jp x.Y,Jp x.U,Jp x.V]) (λx=>Qb7 x/\Qim x):=Qk5 (fl:=[(28,0,3),(22,3,1),(22,4,1),(22,5,1)]) (λy=>(⟨y.1,y.2.1,y.2.2.1,y.2.2.2.1⟩:Qu)) Tryz.underlying64 oy oy (Z5 Qww (Z5 Qmr (Z5 Qmr (Z5 Qmr (Qoc))))) (λ_=>rfl) (λy h=>⟨⟨h.1.1,h.2.1.1,h.2.2.1.1,h.2.2.2.1.1,trivial⟩,by have a0:=h.1.2;have a1:=h.2.1.2;have a2:=h.2.2.1.2;have a3:=h.2.2.2.1.2;exact⟨a0,a1,a2,a3,trivial⟩⟩)
theorem Qpt(os:Os)(started:os.Started)(H:Type)(enc:TypeId×Value->H):
 ReturnsInHanded {} Tryz.checked os 4 .any (λw args=>(Rows.lineValuesSpec.pre enc Tryz.prog Tryz.f4 [] false w args/\laidMetH Tryz.prog Rows.lineValuesRow.laid w)/\sizedMet enc Tryz.prog Tryz.f4 (OpenSpec.ofChange Rows.lineValuesSpec) false w args) (Rows.lineValuesSpec.post enc Tryz.prog Tryz.f4 false true false false):=by
 refine returnsS (C:=Tryz.checked) (X:=λw _=>laidMetH Tryz.prog Rows.lineValuesRow.laid w) (λ_ _ _ hh h=>h.of_heap hh) ownK started oy Tryz.func4
  (ChangeSpec.witness_shaped (enc:=enc) (C:=Tryz.checked) (os:=os) (X:=λw _=>laidMetH Tryz.prog Rows.lineValuesRow.laid w) false (World.laidAll Tryz.prog os Rows.lineValuesRow.laid) #[.slice none 0 0,.agg #[.bool false,.slice none 0 0,.slice none 0 0],.agg #[.bool false,.slice none 0 0,.slice none 0 0,.slice none 0 0,.slice none 0 0,.slice none 0 0],.slice none 0 0] 40 (World.laidAll_os _ _ _)
   (World.shaped_of_ZipB oy oy) oy oy oy
   (by rw[MakeChecks.laidMetH_plain _ _ _ oy];exact laidMet_laidAll _ oy oy)) ?_
 intro W base args ds gs before hval0 hW hc hwt hL hsh _;have hval:∀(j:Nat) t v,Tryz.f4.params[j]?=some t->args[j]?=some v->Value.okWide Tryz.prog W .any base t v:=hval0;have hW':=hW;obtain⟨p,q,hA0,hV,rfl,_,_⟩:=hW;have hA:DataW.TrodAll enc Tryz.prog W 0 (λ_=>true) true Tryz.f4.params.toList args.toList ds p:=hA0;rw[Tryz.params4] at hA hval;obtain⟨v0,v1,v2,v3,d0,d1,d2,d3,p0,p1,p2,p3,rfl,rfl,rfl,h0,h1,h2,h3⟩:=trodAll_four hA;obtain⟨rfl,rfl⟩:=trodVars_none hV;have hw0:=Zw (i:=0) (t:=62) (d:=d0) oy rfl hwt;obtain⟨y0,hy0,b0⟩:=Qto Q47 (λ_=>rfl) (λ_ _ _=>⟨by rw[Tryz.underlying62];simp,by rw[Tryz.underlying62];simp⟩) (hval 0 62 v0 rfl rfl) h0 hw0;have hw1:=Zw (i:=1) (t:=28) (d:=d1) oy rfl hwt;obtain⟨y1,hy1,b1⟩:=Qtp Qww (.inl ⟨_,Tryz.underlying28⟩) (hval 1 28 v1 rfl rfl) h1 hw1;have hw2:=Zw (i:=2) (t:=64) (d:=d2) oy rfl hwt;obtain⟨y2,hy2,b2⟩:=Qtp Q48 (.inl ⟨_,Tryz.underlying64⟩) (hval 2 64 v2 rfl rfl) h2 hw2;have hw3:=Zw (i:=3) (t:=22) (d:=d3) oy rfl hwt;obtain⟨y3,hy3,b3⟩:=Qto Qmr (λ_=>rfl) (λ_ _ _=>⟨by rw[Tryz.underlying22];simp,by rw[Tryz.underlying22];simp⟩) (hval 3 22 v3 rfl rfl) h3 hw3;obtain⟨n,hn⟩:∃ n,K7 n y0 y1 y2 y3=some true:=Qtd y0 y1 y2 y3 b0.1 b1.1 b2.1 b3.1 ⟨by have:=b2.2.1.2.1.1;omega,by have:=b2.2.1.2.2.1.1;omega⟩;have hF:=Qhu _ hn;have hS:∀ b,Sx S0n g0n [] b->S0n b:=λb h=>by rcases h with h | ⟨_,_,_,h,_⟩;exact h;cases h
 refine(hF.2 W S0n g0n #[v0,v1,v2,v3] (λ_ h=>h.elim) (λ_ _=>rfl) (λ_ _ h=>by cases h) (λ_ _ _ _ _ _ _ h=>by cases h) (λ_ ⟨_,_,_,h,_⟩=>by cases h) ⟨v0,[v1,v2,v3],rfl,Ly.val_mono (Kp.refl _ _) (λb h=>.inl (hS b h)) (Ng.refl _) _ _ hy0,⟨v1,[v2,v3],rfl,Ly.val_mono (Kp.refl _ _) (λb h=>.inl (hS b h)) (Ng.refl _) _ _ hy1,⟨v2,[v3],rfl,Ly.val_mono (Kp.refl _ _) (λb h=>.inl (hS b h)) (Ng.refl _) _ _ hy2,⟨v3,[],rfl,Ly.val_mono (Kp.refl _ _) (λb h=>.inl (hS b h)) (Ng.refl _) _ _ hy3,rfl⟩⟩⟩⟩ (Q1d (λb h=>hS b h) hsh)).mono ?_;rintro e W' ⟨v,γ',rfl,hb⟩;have hv:v=.bool true:=hb.res;subst hv;have hbel:Below W.heap.size W W':=⟨hb.os,hb.tape,hb.output,hb.grow,λk hk=>hb.old k hk (λ⟨_,_,_,h,_⟩=>by cases h)⟩
 simp only[vo] at hW';refine⟨_,rfl,Qr7 (pa:=p0++p1++p2++p3) (pv:=[]) hW' hbel (λ_ _ _=>trodAll_mk1 (shut_bool Tryz.underlying4 _)) (λsp hsp=>by rw[show p0++p1++p2++p3=p0++(p1++(p2++(p3))) by simp only[xh]];exact trodAll_mk4 (WideElems.Trod_stays laidOutK oy (ye oy) h0 (λx hx=>hbel.same (hW'.lt x (yb _ (yb _ (yb _ (hx)))))) (λx hx=>hsp x (yb _ (yb _ (yb _ (hx)))))) (WideElems.Trod_stays laidOutK oy (ye oy) h1 (λx hx=>hbel.same (hW'.lt x (yb _ (yb _ (vg _ (hx)))))) (λx hx=>hsp x (yb _ (yb _ (vg _ (hx)))))) (WideElems.Trod_stays laidOutK oy (ye oy) h2 (λx hx=>hbel.same (hW'.lt x (yb _ (vg _ (hx))))) (λx hx=>hsp x (yb _ (vg _ (hx))))) (WideElems.Trod_stays laidOutK oy (ye oy) h3 (λx hx=>hbel.same (hW'.lt x (vg _ (hx)))) (λx hx=>hsp x (vg _ (hx))))) (λ_ _=>rfl) oc (ok_one oy rfl (okWide_bool_mk Tryz.underlying4 _))⟩
end Go.Proofs.YtmnlcblemgjeeaaGreatDoor
