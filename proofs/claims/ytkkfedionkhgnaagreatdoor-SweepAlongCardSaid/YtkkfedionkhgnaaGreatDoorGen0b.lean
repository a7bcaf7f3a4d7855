import Derived.Test.YtkkfedionkhgnaaGreatDoorModb
import Derived.Test.YtkkfedionkhgnaaGreatDoorGen0
set_option maxRecDepth 100000
set_option maxHeartbeats 4000000
namespace Go.Proofs.YtkkfedionkhgnaaGreatDoor
open Go Go.RowKit
abbrev Q44(x:Qvm):Ly:=.agg [Jb x.t,Qd x.done,Qd x.co,Qcq x.grad]
abbrev Xw(x:Ke):Ly:=.agg [Kv x.P,Xg x.F,Qi x.Aw,Qi x.W]
theorem Jaq:EqF Ub 2 182 (λx:Qu=>.agg [i64 x.From,i64 x.To]) Qbc:=
 Qnd Gq (by kernel_rfl) (Qa2 rfl rfl sh_3.h (λ_=>rfl) (λ_=>rfl) (Qbu (λx:Qu=>x.From) (Qdb (n:=0) Ur)) (Qa2 rfl rfl sh_3.h (λ_=>rfl) (λ_=>rfl) (Qbu (λx:Qu=>x.To) (Qdb (n:=0) Ur)) (Qrm)))
theorem Jew:Tryz.prog.eqGuardType Tryz.prog.depth 182=false:=by kernel_rfl
theorem Q27:Zr (Q44 (⟨(⟨[],[],0,0⟩:Ql),[],[],(⟨(⟨(⟨false,[]⟩:Qg),[]⟩:Qa),[],[]⟩:Vb)⟩:Qvm)) [Ua,Ua,.int .i64 0,.int .i64 0,Ua,Ua,.bool false,Ua,Ua,Ua,Ua]:=Kc (Qm (c1:=[Ua,Ua,.int .i64 0,.int .i64 0]) Qcy (Qm (c1:=[Ua]) (Jq (k:=3)) (Qm (c1:=[Ua]) (Jq (k:=3)) (Qm (c1:=[.bool false,Ua,Ua,Ua,Ua]) Qoc (J1)))))
theorem Jar:EqF Ub 2 107 (λx:Kd=>.agg [i64 x.Kept,i64 x.A2,i64 x.Most]) Qqi:=
 Qnd Gd (by kernel_rfl) (Qa2 rfl rfl sh_3.h (λ_=>rfl) (λ_=>rfl) (Qbu (λx:Kd=>x.Kept) (Qdb (n:=0) Ur)) (Qa2 rfl rfl sh_3.h (λ_=>rfl) (λ_=>rfl) (Qbu (λx:Kd=>x.A2) (Qdb (n:=0) Ur)) (Qa2 rfl rfl sh_3.h (λ_=>rfl) (λ_=>rfl) (Qbu (λx:Kd=>x.Most) (Qdb (n:=0) Ur)) (Qrm))))
theorem Jex:Tryz.prog.eqGuardType Tryz.prog.depth 107=false:=by kernel_rfl
theorem Qzh(n:Int)(h1:-9223372036854775808<n)(h2:n≤9223372036854775807)(w:World)(b:Nat)(hw:w.heap[b]?=some (.cells #[.int .i64 n] 3 (0,0))):ItC Ub 210 #[.pointer (some ⟨b,0,none⟩)] n.toNat w:=
 Jck Tryz.func210 rfl rfl rfl sh_3.h h1 h2 w b hw
theorem Qzi:∀ args w,(callFunc 210 args).run Ub w=.ok (.enter 210 args) w:=entersF Tryz.func210 (by kernel_rfl) rfl
end Go.Proofs.YtkkfedionkhgnaaGreatDoor
