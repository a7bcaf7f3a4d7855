import Derived.Test.YtjmfkenegjhohaaGreatDoorModc
import Derived.Test.YtjmfkenegjhohaaGreatDoorGen0
set_option maxRecDepth 100000
set_option maxHeartbeats 4000000
namespace Go.Proofs.YtjmfkenegjhohaaGreatDoor
open Go Go.RowKit
theorem Jil:EqF Ub 2 174 (λx:Q0=>.agg [i64 x.From,i64 x.To]) Qew:=
 Qxf Gy ox (Qhb rfl rfl sh_3.h (λ_=>rfl) (λ_=>rfl) (Qjs (λx:Q0=>x.From) (Ql6 (n:=0) Uv)) (Qhb rfl rfl sh_3.h (λ_=>rfl) (λ_=>rfl) (Qjs (λx:Q0=>x.To) (Ql6 (n:=0) Uv)) (Q2l)))
theorem Jm4:Tryz.prog.eqGuardType Tryz.prog.depth 174=false:=ox
theorem Q53(n:Int)(h1:-9223372036854775808<n)(h2:n<=9223372036854775807)(w:World)(b:Nat)(hw:w.heap[b]?=some (.cells #[.int .i64 n] 3 (0,0))):ItC Ub 197 #[.pointer (some ⟨b,0,none⟩)] n.toNat w:=
 Jj9 Tryz.func197 rfl rfl rfl sh_3.h h1 h2 w b hw
theorem Q54:∀ args w,(callFunc 197 args).run Ub w=.ok (.enter 197 args) w:=entersF Tryz.func197 ox rfl
end Go.Proofs.YtjmfkenegjhohaaGreatDoor
