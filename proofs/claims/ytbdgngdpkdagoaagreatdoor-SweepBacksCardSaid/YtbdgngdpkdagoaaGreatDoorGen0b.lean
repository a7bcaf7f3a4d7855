import Derived.Test.YtbdgngdpkdagoaaGreatDoorModb
import Derived.Test.YtbdgngdpkdagoaaGreatDoorGen0
set_option maxRecDepth 100000
set_option maxHeartbeats 4000000
namespace Go.Proofs.YtbdgngdpkdagoaaGreatDoor
open Go Go.RowKit
theorem Qgi{a0_ a1_ a2_}:IF (.agg [bl a0_,sli 1 a1_,sli 1 a2_]):=Qlg (Y4 if_bl (Y4 Qa4 (Y4 Qa4 (Qhh))))
abbrev Qm1(xs:List Jg):Ly:=sli 14 (xs.map Wc)
abbrev Q0(x:Q2):Ly:=.agg [Qm1 x.Aw,Qc x.T,Qh x.Y]
theorem Jlc:EqF Ub 2 127 (λx:Wj=>.agg [i64 x.Kept,i64 x.Again,i64 x.Most]) Qwy:=
 Qsr Gl ox (Qen rfl rfl sh_3.h (λ_=>rfl) (λ_=>rfl) (Qft (λx:Wj=>x.Kept) (Qhi (n:=0) Uu)) (Qen rfl rfl sh_3.h (λ_=>rfl) (λ_=>rfl) (Qft (λx:Wj=>x.Again) (Qhi (n:=0) Uu)) (Qen rfl rfl sh_3.h (λ_=>rfl) (λ_=>rfl) (Qft (λx:Wj=>x.Most) (Qhi (n:=0) Uu)) (Qyd))))
theorem Jqf:Tryz.prog.eqGuardType Tryz.prog.depth 127=false:=ox
end Go.Proofs.YtbdgngdpkdagoaaGreatDoor
