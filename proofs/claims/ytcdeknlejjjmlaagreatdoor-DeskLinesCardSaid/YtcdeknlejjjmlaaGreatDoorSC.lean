import Derived.Test.YtcdeknlejjjmlaaGreatDoorSB
namespace Go.Proofs.YtcdeknlejjjmlaaGreatDoor
open Go Go.RowKit
theorem tA_ {p : Prop} (h : p := by first | exact rfl | exact (Ag.get (by assumption) rfl).trans rfl | exact kI rfl | exact kB | exact k32 rfl | exact k8 rfl | exact k64 rfl | exact kS rfl | exact kNI | exact kAny) : p := h
theorem tB_ {p : Prop} (h : p := by first | exact rfl | exact (Ag.get (by assumption) rfl).trans rfl) : p := h
theorem tC_ {p : Prop} (h : p := by first | exact uk32 | exact uk8 | exact uk64) : p := h
theorem tD_ {p : Prop} (h : p := by first | assumption | exact getI_nat (by assumption)) : p := h
theorem tE_ {p : Prop} (h : p := by (repeat (first | exact trivial | refine ⟨⟨_, rfl⟩, ?_⟩))) : p := h
theorem tF_ {p : Prop} (h : p := by first | exact rfl | exact nzI (by assumption) | exact nzU (by assumption)) : p := h
theorem tG_ {p : Prop} (h : p := by (repeat (first | exact trivial | refine af_cons (kLm _) (rn_id CIF.h) ?_ | refine af_cons (by first | exact rfl | exact (Ag.get (by assumption) rfl).trans rfl | exact kI rfl | exact kB | exact k32 rfl | exact k8 rfl | exact k64 rfl | exact kS rfl | exact kNI | exact kAny) (by (repeat' first | exact rn_id CIF.h | exact rn_own rfl | exact rns_nil | refine rns_cons ?_ ?_ | refine rn_agg ?_ | exact rn_ptr rfl | exact rn_por rfl | exact rn_win rfl | refine rn_tup ?_ | exact rn_clo rfl | refine rn_bnd ?_)) ?_))) : p := h
theorem tH_ {p : Prop} (h : p := by (repeat (first | exact trivial | refine ⟨rfl, ?_⟩))) : p := h
theorem tI_ {p : Prop} (h : p := by (repeat (first | exact trivial | refine ⟨⟨_, _, rfl, rfl, rcg⟩, ?_⟩ | refine ⟨⟨_, _, rfl, rfl, rci (by first | exact rc_sl CIFs.h | exact rc_bx (by (repeat' first | exact rn_id CIF.h | exact rn_own rfl | exact rns_nil | refine rns_cons ?_ ?_ | refine rn_agg ?_ | exact rn_ptr rfl | exact rn_por rfl | exact rn_win rfl | refine rn_tup ?_ | exact rn_clo rfl | refine rn_bnd ?_)) | exact rc_ob | exact rc_ch | exact rc_mp CIFs.h)⟩, ?_⟩))) : p := h
set_option maxRecDepth 10000
class CUn (P : Program) (T : Nat) (d : outParam TypeDesc) : Prop where h : P.underlying T = some d
class CTy (P : Program) (T : Nat) (k b : outParam Nat) (z : outParam Value) : Prop where h : TyI P T k b z
class CSh (P : Program) (T : Nat) (ag : outParam Bool) (k : outParam Nat) : Prop where h : Shp P T ag k
class CFd (P : Program) (T j : Nat) (fo : outParam Nat) : Prop where h : FldAt P T j fo
class CPl (P : Program) (T : Nat) (pl : outParam (List (Nat × Nat))) : Prop where h : Plc P T pl
theorem fdA {P : Program} {T j fo : Nat} {fs : Array Field} {F : Field} {k b z} (h : P.underlying T = some (.struct fs)) (h1 : fs[j]? = some F) (h2 : F.offset = fo) (h3 : TyI P F.type k b z) (h4 : Nat.beq k 0 = false) : FldAt P T j fo := by
  obtain ⟨i, g1, _, g3, _⟩ := h3
  exact ⟨_, _, h, h1, h2, i, g1, by rw [g3]; rintro rfl; simp at h4⟩
class CZy (P : Program) (T : Nat) (ly : outParam Ly) : Prop where h : ∃ k b z, TyI P T k b z ∧ Zr ly z.cells.toList
class CIF (ly : Ly) : Prop where h : IF ly
class CIFs (l : List Ly) : Prop where h : IFs l
class CIFf {α : Type} (f : α → Ly) : Prop where h : ∀ x, IF (f x)
instance {x} : CIF (i64 x) := ⟨if_i64⟩
instance {x} : CIF (i32 x) := ⟨if_i32⟩
instance {x} : CIF (u8 x) := ⟨if_u8⟩
instance {x} : CIF (u32 x) := ⟨if_u32⟩
instance {x} : CIF (u64 x) := ⟨if_u64⟩
instance {x} : CIF (bl x) := ⟨if_bl⟩
instance {x} : CIF (str x) := ⟨if_str⟩
instance {k x} : CIF (sli k x) := ⟨if_sli⟩
instance {x} : CIF (ub x) := ⟨if_ub⟩
instance {x} : CIF (erl x) := ⟨if_erl⟩
instance : CIF nilI := ⟨if_nilI⟩
instance : CIF .any := ⟨if_any⟩
instance {x} [h : CIF x] : CIF (.ref x) := ⟨if_ref h.h⟩
instance {l} [h : CIFs l] : CIF (.agg l) := ⟨if_agg h.h⟩
instance {l} [h : CIFs l] : CIF (.tup l) := ⟨if_tup h.h⟩
instance : CIFs [] := ⟨ifs_nil⟩
instance {a l} [h : CIF a] [k : CIFs l] : CIFs (a :: l) := ⟨ifs_cons h.h k.h⟩
instance {α : Type} {f : α → Ly} [h : ∀ x, CIF (f x)] : CIFf f := ⟨fun x => (h x).h⟩
instance {α : Type} {f : α → Ly} {l : List α} [h : CIFf f] : CIFs (l.map f) := ⟨ifs_map h.h l⟩

theorem Ag.get {α : Type} {st st0 : Nat → Option α} {d : Nat} : ∀ {rs : List Nat}, Ag st st0 rs → anyB rs d = true → st d = st0 d
  | [], _, h => by simp [anyB] at h
  | x :: r, h, hb => by
    rw [show anyB (x :: r) d = (Nat.beq d x || anyB r d) from rfl] at hb
    cases hx : Nat.beq d x
    · rw [hx] at hb; exact Ag.get h.2 hb
    · rw [Nat.eq_of_beq_eq_true hx]; exact h.1

mutual
/-- The path to what lies at an offset. -/
def pathOf (ag : Bool) (k : Nat) : Nat → Ly → List Nat
  | off, .agg l => bif ag && Nat.beq off 0 && Nat.beq k (Ly.szs l) then [] else pathsOf ag k off 0 l
  | _, _ => []
def pathsOf (ag : Bool) (k : Nat) : Nat → Nat → List Ly → List Nat
  | _, _, [] => []
  | off, i, ly :: r => bif Nat.blt off ly.sz then i :: pathOf ag k off ly else pathsOf ag k (off - ly.sz) (i + 1) r
end

/-- An operation's rule. -/
structure OpS (X : Cx) (st : Nat → Option Ly) (mm : Nat → Option Ct) (o : Oper) (el : List (Nat × Ly)) (em : List (Nat × Ct)) : Prop where
  h : OpOk X st mm o el em
section
variable {X : Cx} {st : Nat → Option Ly} {mm : Nat → Option Ct} {ty : TypeId} {pos : String} {af : Array Edge}

theorem mv' {d x ly} (hd : Nat.blt d X.N = true := by exact rfl) (hx : autoParam (OpdF st x (ly)) tA_._auto_1)  : OpS X st mm ⟨some d, .move x, ty, pos, af, none⟩ [(d, ly)] [] := ⟨mv hd hx⟩
theorem asg' {d x ly} (hd : Nat.blt d X.N = true := by exact rfl) (hx : autoParam (OpdF st x (ly)) tA_._auto_1)  : OpS X st mm ⟨some d, .assign x, ty, pos, af, none⟩ [(d, ly)] [] := ⟨asg hd hx⟩
theorem pT {d c x y ly} (hd : Nat.blt d X.N = true := by exact rfl) (hc : autoParam (OpdF st c (bl true)) tA_._auto_1) (hx : autoParam (OpdF st x (ly)) tA_._auto_1)  : OpS X st mm ⟨some d, .pick c x y, ty, pos, af, none⟩ [(d, ly)] [] := ⟨pickT hd hc hx⟩
theorem pF {d c x y ly} (hd : Nat.blt d X.N = true := by exact rfl) (hc : autoParam (OpdF st c (bl false)) tA_._auto_1) (hx : autoParam (OpdF st y (ly)) tA_._auto_1)  : OpS X st mm ⟨some d, .pick c x y, ty, pos, af, none⟩ [(d, ly)] [] := ⟨pickF hd hc hx⟩
theorem addI' {d x y T T2} {p q : Int} (hd : Nat.blt d X.N = true := by exact rfl) (hx : autoParam (OpdF st x (i64 p)) tA_._auto_1) (hy : autoParam (OpdF st y (i64 q)) tA_._auto_1)  : OpS X st mm ⟨some d, .binOp .add T x y T2, ty, pos, af, none⟩ [(d, i64 (wrap64 (p + q)))] [] := ⟨addI hd hx hy⟩
theorem subI' {d x y T T2} {p q : Int} (hd : Nat.blt d X.N = true := by exact rfl) (hx : autoParam (OpdF st x (i64 p)) tA_._auto_1) (hy : autoParam (OpdF st y (i64 q)) tA_._auto_1)  : OpS X st mm ⟨some d, .binOp .sub T x y T2, ty, pos, af, none⟩ [(d, i64 (wrap64 (p - q)))] [] := ⟨subI hd hx hy⟩
theorem mulI' {d x y T T2} {p q : Int} (hd : Nat.blt d X.N = true := by exact rfl) (hx : autoParam (OpdF st x (i64 p)) tA_._auto_1) (hy : autoParam (OpdF st y (i64 q)) tA_._auto_1)  : OpS X st mm ⟨some d, .binOp .mul T x y T2, ty, pos, af, none⟩ [(d, i64 (wrap64 (p * q)))] [] := ⟨mulI hd hx hy⟩
theorem andI' {d x y T T2} {p q : Int} (hd : Nat.blt d X.N = true := by exact rfl) (hx : autoParam (OpdF st x (i64 p)) tA_._auto_1) (hy : autoParam (OpdF st y (i64 q)) tA_._auto_1)  : OpS X st mm ⟨some d, .binOp .and T x y T2, ty, pos, af, none⟩ [(d, i64 (wrap64 (andZ p q)))] [] := ⟨andI hd hx hy⟩
theorem ltI' {d x y T T2} {p q : Int} (hd : Nat.blt d X.N = true := by exact rfl) (hx : autoParam (OpdF st x (i64 p)) tA_._auto_1) (hy : autoParam (OpdF st y (i64 q)) tA_._auto_1)  : OpS X st mm ⟨some d, .binOp .lss T x y T2, ty, pos, af, none⟩ [(d, bl (decide (p < q)))] [] := ⟨ltI hd hx hy⟩
theorem leI' {d x y T T2} {p q : Int} (hd : Nat.blt d X.N = true := by exact rfl) (hx : autoParam (OpdF st x (i64 p)) tA_._auto_1) (hy : autoParam (OpdF st y (i64 q)) tA_._auto_1)  : OpS X st mm ⟨some d, .binOp .leq T x y T2, ty, pos, af, none⟩ [(d, bl (decide (p ≤ q)))] [] := ⟨leI hd hx hy⟩
theorem gtI' {d x y T T2} {p q : Int} (hd : Nat.blt d X.N = true := by exact rfl) (hx : autoParam (OpdF st x (i64 p)) tA_._auto_1) (hy : autoParam (OpdF st y (i64 q)) tA_._auto_1)  : OpS X st mm ⟨some d, .binOp .gtr T x y T2, ty, pos, af, none⟩ [(d, bl (decide (q < p)))] [] := ⟨gtI hd hx hy⟩
theorem geI' {d x y T T2} {p q : Int} (hd : Nat.blt d X.N = true := by exact rfl) (hx : autoParam (OpdF st x (i64 p)) tA_._auto_1) (hy : autoParam (OpdF st y (i64 q)) tA_._auto_1)  : OpS X st mm ⟨some d, .binOp .geq T x y T2, ty, pos, af, none⟩ [(d, bl (decide (q ≤ p)))] [] := ⟨geI hd hx hy⟩
theorem eqI' {d x y T T2} {p q : Int} (hd : Nat.blt d X.N = true := by exact rfl) (hx : autoParam (OpdF st x (i64 p)) tA_._auto_1) (hy : autoParam (OpdF st y (i64 q)) tA_._auto_1)  : OpS X st mm ⟨some d, .binOp .eql T x y T2, ty, pos, af, none⟩ [(d, bl (decide (p = q)))] [] := ⟨eqI hd hx hy⟩
theorem neI' {d x y T T2} {p q : Int} (hd : Nat.blt d X.N = true := by exact rfl) (hx : autoParam (OpdF st x (i64 p)) tA_._auto_1) (hy : autoParam (OpdF st y (i64 q)) tA_._auto_1)  : OpS X st mm ⟨some d, .binOp .neq T x y T2, ty, pos, af, none⟩ [(d, bl (!decide (p = q)))] [] := ⟨neI hd hx hy⟩
theorem quoI' {d x y T T2} {p q : Int} (hd : Nat.blt d X.N = true := by exact rfl) (hx : autoParam (OpdF st x (i64 p)) tA_._auto_1) (hy : autoParam (OpdF st y (i64 q)) tA_._auto_1) (hq : autoParam ((q == 0) = false) tF_._auto_1)  : OpS X st mm ⟨some d, .binOp .quo T x y T2, ty, pos, af, none⟩ [(d, i64 (wrap64 (p.tdiv q)))] [] := ⟨quoI hq hd hx hy⟩
theorem remI' {d x y T T2} {p q : Int} (hd : Nat.blt d X.N = true := by exact rfl) (hx : autoParam (OpdF st x (i64 p)) tA_._auto_1) (hy : autoParam (OpdF st y (i64 q)) tA_._auto_1) (hq : autoParam ((q == 0) = false) tF_._auto_1)  : OpS X st mm ⟨some d, .binOp .rem T x y T2, ty, pos, af, none⟩ [(d, i64 (p.tmod q))] [] := ⟨remI hq hd hx hy⟩
theorem ltU' {d x y T T2 k} {p q : Nat} (hd : Nat.blt d X.N = true := by exact rfl) (hx : autoParam (OpdF st x (uk k p)) tA_._auto_1) (hy : autoParam (OpdF st y (uk k q)) tA_._auto_1)  : OpS X st mm ⟨some d, .binOp .lss T x y T2, ty, pos, af, none⟩ [(d, bl (decide (p < q)))] [] := ⟨ltU k hd hx hy⟩
theorem leU' {d x y T T2 k} {p q : Nat} (hd : Nat.blt d X.N = true := by exact rfl) (hx : autoParam (OpdF st x (uk k p)) tA_._auto_1) (hy : autoParam (OpdF st y (uk k q)) tA_._auto_1)  : OpS X st mm ⟨some d, .binOp .leq T x y T2, ty, pos, af, none⟩ [(d, bl (decide (p ≤ q)))] [] := ⟨leU k hd hx hy⟩
theorem gtU' {d x y T T2 k} {p q : Nat} (hd : Nat.blt d X.N = true := by exact rfl) (hx : autoParam (OpdF st x (uk k p)) tA_._auto_1) (hy : autoParam (OpdF st y (uk k q)) tA_._auto_1)  : OpS X st mm ⟨some d, .binOp .gtr T x y T2, ty, pos, af, none⟩ [(d, bl (decide (q < p)))] [] := ⟨gtU k hd hx hy⟩
theorem geU' {d x y T T2 k} {p q : Nat} (hd : Nat.blt d X.N = true := by exact rfl) (hx : autoParam (OpdF st x (uk k p)) tA_._auto_1) (hy : autoParam (OpdF st y (uk k q)) tA_._auto_1)  : OpS X st mm ⟨some d, .binOp .geq T x y T2, ty, pos, af, none⟩ [(d, bl (decide (q ≤ p)))] [] := ⟨geU k hd hx hy⟩
theorem eqU' {d x y T T2 k} {p q : Nat} (hd : Nat.blt d X.N = true := by exact rfl) (hx : autoParam (OpdF st x (uk k p)) tA_._auto_1) (hy : autoParam (OpdF st y (uk k q)) tA_._auto_1)  : OpS X st mm ⟨some d, .binOp .eql T x y T2, ty, pos, af, none⟩ [(d, bl (decide (p = q)))] [] := ⟨eqU k hd hx hy⟩
theorem neU' {d x y T T2 k} {p q : Nat} (hd : Nat.blt d X.N = true := by exact rfl) (hx : autoParam (OpdF st x (uk k p)) tA_._auto_1) (hy : autoParam (OpdF st y (uk k q)) tA_._auto_1)  : OpS X st mm ⟨some d, .binOp .neq T x y T2, ty, pos, af, none⟩ [(d, bl (!decide (p = q)))] [] := ⟨neU k hd hx hy⟩
theorem addU' {d x y T T2 k N} {p q : Nat} (hd : Nat.blt d X.N = true := by exact rfl) (hx : autoParam (OpdF st x (uk k p)) tA_._auto_1) (hy : autoParam (OpdF st y (uk k q)) tA_._auto_1) (hu : autoParam (UK k N) tC_._auto_1)  : OpS X st mm ⟨some d, .binOp .add T x y T2, ty, pos, af, none⟩ [(d, uk k ((p + q) % N))] [] := ⟨addU hu hd hx hy⟩
theorem subU' {d x y T T2 k N} {p q : Nat} (hd : Nat.blt d X.N = true := by exact rfl) (hx : autoParam (OpdF st x (uk k p)) tA_._auto_1) (hy : autoParam (OpdF st y (uk k q)) tA_._auto_1) (hu : autoParam (UK k N) tC_._auto_1)  : OpS X st mm ⟨some d, .binOp .sub T x y T2, ty, pos, af, none⟩ [(d, uk k ((p + N - q) % N))] [] := ⟨subU hu hd hx hy⟩
theorem mulU' {d x y T T2 k N} {p q : Nat} (hd : Nat.blt d X.N = true := by exact rfl) (hx : autoParam (OpdF st x (uk k p)) tA_._auto_1) (hy : autoParam (OpdF st y (uk k q)) tA_._auto_1) (hu : autoParam (UK k N) tC_._auto_1)  : OpS X st mm ⟨some d, .binOp .mul T x y T2, ty, pos, af, none⟩ [(d, uk k ((p * q) % N))] [] := ⟨mulU hu hd hx hy⟩
theorem orU' {d x y T T2 k N} {p q : Nat} (hd : Nat.blt d X.N = true := by exact rfl) (hx : autoParam (OpdF st x (uk k p)) tA_._auto_1) (hy : autoParam (OpdF st y (uk k q)) tA_._auto_1) (hu : autoParam (UK k N) tC_._auto_1)  : OpS X st mm ⟨some d, .binOp .or T x y T2, ty, pos, af, none⟩ [(d, uk k (p ||| q))] [] := ⟨orU hu hd hx hy⟩
theorem andU' {d x y T T2 k N} {p q : Nat} (hd : Nat.blt d X.N = true := by exact rfl) (hx : autoParam (OpdF st x (uk k p)) tA_._auto_1) (hy : autoParam (OpdF st y (uk k q)) tA_._auto_1) (hu : autoParam (UK k N) tC_._auto_1)  : OpS X st mm ⟨some d, .binOp .and T x y T2, ty, pos, af, none⟩ [(d, uk k (p &&& q))] [] := ⟨andU hu hd hx hy⟩
theorem quoU' {d x y T T2 k N} {p q : Nat} (hd : Nat.blt d X.N = true := by exact rfl) (hx : autoParam (OpdF st x (uk k p)) tA_._auto_1) (hy : autoParam (OpdF st y (uk k q)) tA_._auto_1) (hu : autoParam (UK k N) tC_._auto_1) (hq : autoParam (Nat.beq q 0 = false) tF_._auto_1)  : OpS X st mm ⟨some d, .binOp .quo T x y T2, ty, pos, af, none⟩ [(d, uk k (p / q))] [] := ⟨quoU hu hq hd hx hy⟩
theorem remU' {d x y T T2 k N} {p q : Nat} (hd : Nat.blt d X.N = true := by exact rfl) (hx : autoParam (OpdF st x (uk k p)) tA_._auto_1) (hy : autoParam (OpdF st y (uk k q)) tA_._auto_1) (hu : autoParam (UK k N) tC_._auto_1) (hq : autoParam (Nat.beq q 0 = false) tF_._auto_1)  : OpS X st mm ⟨some d, .binOp .rem T x y T2, ty, pos, af, none⟩ [(d, uk k (p % q))] [] := ⟨remU hu hq hd hx hy⟩
theorem notB' {d x T b} (hd : Nat.blt d X.N = true := by exact rfl) (hx : autoParam (OpdF st x (bl b)) tA_._auto_1)  : OpS X st mm ⟨some d, .unOp .not T x, ty, pos, af, none⟩ [(d, bl (!b))] [] := ⟨notB hd hx⟩
theorem negI' {d x T p} (hd : Nat.blt d X.N = true := by exact rfl) (hx : autoParam (OpdF st x (i64 p)) tA_._auto_1)  : OpS X st mm ⟨some d, .unOp .neg T x, ty, pos, af, none⟩ [(d, i64 (wrap64 (-p)))] [] := ⟨negI hd hx⟩
theorem cvUw' {d x S T ds k k' N N' p} (hd : Nat.blt d X.N = true := by exact rfl) (hx : autoParam (OpdF st x (uk k' p)) tA_._auto_1) (hS : X.P.underlying S = some ds := by exact CUn.h) (hT : X.P.underlying T = some (.int k) := by exact CUn.h) (hu : autoParam (UK k N) tC_._auto_1) (hu' : autoParam (UK k' N') tC_._auto_1) (hN : Nat.ble N' N = true := by exact rfl)  : OpS X st mm ⟨some d, .convert S T x, ty, pos, af, none⟩ [(d, uk k p)] [] := ⟨cvUw hu hu' hN hS hT hd hx⟩
theorem cvU' {d x S T ds k k' N p} (hd : Nat.blt d X.N = true := by exact rfl) (hx : autoParam (OpdF st x (uk k' p)) tA_._auto_1) (hS : X.P.underlying S = some ds := by exact CUn.h) (hT : X.P.underlying T = some (.int k) := by exact CUn.h) (hu : autoParam (UK k N) tC_._auto_1)  : OpS X st mm ⟨some d, .convert S T x, ty, pos, af, none⟩ [(d, uk k (p % N))] [] := ⟨cvU hu hS hT hd hx⟩
theorem cvIU' {d x S T ds k k' N} {p : Int} (hd : Nat.blt d X.N = true := by exact rfl) (hx : autoParam (OpdF st x (.cell (cpI k' p))) tA_._auto_1) (hS : X.P.underlying S = some ds := by exact CUn.h) (hT : X.P.underlying T = some (.int k) := by exact CUn.h) (hu : autoParam (UK k N) tC_._auto_1)  : OpS X st mm ⟨some d, .convert S T x, ty, pos, af, none⟩ [(d, uk k (p % (N : Int)).toNat)] [] := ⟨cvIU hu hS hT hd hx⟩
theorem cvUI' {d x S T ds} {p : Nat} (hd : Nat.blt d X.N = true := by exact rfl) (hx : autoParam (OpdF st x (u64 p)) tA_._auto_1) (hS : X.P.underlying S = some ds := by exact CUn.h) (hT : X.P.underlying T = some (.int .i64) := by exact CUn.h)  : OpS X st mm ⟨some d, .convert S T x, ty, pos, af, none⟩ [(d, i64 (wrap64 p))] [] := ⟨cvUI hS hT hd hx⟩
theorem cvUIw' {d x S T ds k' N'} {p : Nat} (hd : Nat.blt d X.N = true := by exact rfl) (hx : autoParam (OpdF st x (uk k' p)) tA_._auto_1) (hS : X.P.underlying S = some ds := by exact CUn.h) (hT : X.P.underlying T = some (.int .i64) := by exact CUn.h) (hu' : autoParam (UK k' N') tC_._auto_1) (hN : Nat.ble N' 9223372036854775808 = true := by exact rfl)  : OpS X st mm ⟨some d, .convert S T x, ty, pos, af, none⟩ [(d, i64 p)] [] := ⟨cvUIw hu' hN hS hT hd hx⟩
theorem cvI' {d x S T ds} {p : Int} (hd : Nat.blt d X.N = true := by exact rfl) (hx : autoParam (OpdF st x (i64 p)) tA_._auto_1) (hS : X.P.underlying S = some ds := by exact CUn.h) (hT : X.P.underlying T = some (.int .i64) := by exact CUn.h)  : OpS X st mm ⟨some d, .convert S T x, ty, pos, af, none⟩ [(d, i64 p)] [] := ⟨cvI hS hT hd hx⟩
theorem lenL' {d x T E k} {α : Type} {f : α → Ly} {xs : List α} (hd : Nat.blt d X.N = true := by exact rfl) (hx : autoParam (OpdF st x (sli k (xs.map f))) tA_._auto_1) (hT : X.P.underlying T = some (.slice E) := by exact CUn.h)  : OpS X st mm ⟨some d, .call { callee := .builtin .len, args := #[x], argTypes := #[T] }, ty, pos, af, none⟩ [(d, i64 xs.length)] [] := ⟨lenL hT hd hx⟩
theorem lenO' {d x T E E' k id} {α : Type} {f : α → Ly} {xs : List α} (hd : Nat.blt d X.N = true := by exact rfl) (hx : autoParam (OpdF st x (.own id)) tA_._auto_1) (hm : autoParam (mm id = some (.sl E' k (xs.map f))) tB_._auto_1) (hT : X.P.underlying T = some (.slice E) := by exact CUn.h)  : OpS X st mm ⟨some d, .call { callee := .builtin .len, args := #[x], argTypes := #[T] }, ty, pos, af, none⟩ [(d, i64 xs.length)] [] := ⟨lenO hT hm hd hx⟩
theorem lenW' {d x T E id off} {len : Nat} (hd : Nat.blt d X.N = true := by exact rfl) (hx : autoParam (OpdF st x (.win id off len)) tA_._auto_1) (hT : X.P.underlying T = some (.slice E) := by exact CUn.h)  : OpS X st mm ⟨some d, .call { callee := .builtin .len, args := #[x], argTypes := #[T] }, ty, pos, af, none⟩ [(d, i64 (len : Nat))] [] := ⟨lenW hT hd hx⟩
theorem lenS' {d x T s} (hd : Nat.blt d X.N = true := by exact rfl) (hx : autoParam (OpdF st x (str s)) tA_._auto_1) (hT : X.P.underlying T = some .string := by exact CUn.h)  : OpS X st mm ⟨some d, .call { callee := .builtin .len, args := #[x], argTypes := #[T] }, ty, pos, af, none⟩ [(d, i64 s.length)] [] := ⟨lenS hT hd hx⟩
theorem maxI' {d x y T1 T2} {p q : Int} (hd : Nat.blt d X.N = true := by exact rfl) (hx : autoParam (OpdF st x (i64 p)) tA_._auto_1) (hy : autoParam (OpdF st y (i64 q)) tA_._auto_1)  : OpS X st mm ⟨some d, .call { callee := .builtin .max, args := #[x, y], argTypes := #[T1, T2] }, ty, pos, af, none⟩ [(d, i64 (max p q))] [] := ⟨maxI hd hx hy⟩
theorem minI' {d x y T1 T2} {p q : Int} (hd : Nat.blt d X.N = true := by exact rfl) (hx : autoParam (OpdF st x (i64 p)) tA_._auto_1) (hy : autoParam (OpdF st y (i64 q)) tA_._auto_1)  : OpS X st mm ⟨some d, .call { callee := .builtin .min, args := #[x, y], argTypes := #[T1, T2] }, ty, pos, af, none⟩ [(d, i64 (min p q))] [] := ⟨minI hd hx hy⟩
theorem ixS' {kk d x i T s y} {p : Int} (hd : Nat.blt d X.N = true := by exact rfl) (hx : autoParam (OpdF st x (str s)) tA_._auto_1) (hi : autoParam (OpdF st i (.cell (cpI kk p))) tA_._auto_1) (hT : X.P.underlying T = some .string := by exact CUn.h) (hg : getS s p = some y := by assumption)  : OpS X st mm ⟨some d, .index T x i, ty, pos, af, none⟩ [(d, uk .u8 y)] [] := ⟨ixS hT hg hd hx hi⟩
theorem catS' {d x y T T2 s t z} (hd : Nat.blt d X.N = true := by exact rfl) (hx : autoParam (OpdF st x (str s)) tA_._auto_1) (hy : autoParam (OpdF st y (str t)) tA_._auto_1) (hz : catS s t = some z := by assumption)  : OpS X st mm ⟨some d, .binOp .add T x y T2, ty, pos, af, none⟩ [(d, str z)] [] := ⟨catStr hz hd hx hy⟩
theorem eqS' {d x y T T2 s t} (hd : Nat.blt d X.N = true := by exact rfl) (hx : autoParam (OpdF st x (str s)) tA_._auto_1) (hy : autoParam (OpdF st y (str t)) tA_._auto_1)  : OpS X st mm ⟨some d, .binOp .eql T x y T2, ty, pos, af, none⟩ [(d, bl (decide (s = t)))] [] := ⟨eqS hd hx hy⟩
theorem neS' {d x y T T2 s t} (hd : Nat.blt d X.N = true := by exact rfl) (hx : autoParam (OpdF st x (str s)) tA_._auto_1) (hy : autoParam (OpdF st y (str t)) tA_._auto_1)  : OpS X st mm ⟨some d, .binOp .neq T x y T2, ty, pos, af, none⟩ [(d, bl (!decide (s = t)))] [] := ⟨neS hd hx hy⟩
theorem eqB' {d x y T T2 p q} (hd : Nat.blt d X.N = true := by exact rfl) (hx : autoParam (OpdF st x (bl p)) tA_._auto_1) (hy : autoParam (OpdF st y (bl q)) tA_._auto_1) (hT : X.P.underlying T = some .bool := by exact CUn.h)  : OpS X st mm ⟨some d, .binOp .eql T x y T2, ty, pos, af, none⟩ [(d, bl (p == q))] [] := ⟨eqB hT hd hx hy⟩
theorem neB' {d x y T T2 p q} (hd : Nat.blt d X.N = true := by exact rfl) (hx : autoParam (OpdF st x (bl p)) tA_._auto_1) (hy : autoParam (OpdF st y (bl q)) tA_._auto_1) (hT : X.P.underlying T = some .bool := by exact CUn.h)  : OpS X st mm ⟨some d, .binOp .neq T x y T2, ty, pos, af, none⟩ [(d, bl (p != q))] [] := ⟨neB hT hd hx hy⟩
theorem ixR' {kk d x i T E k b z} {p : Int} {α : Type} {f : α → Ly} {xs : List α} {y : α} (hd : Nat.blt d X.N = true := by exact rfl) (hx : autoParam (OpdF st x (sli k (xs.map f))) tA_._auto_1) (hi : autoParam (OpdF st i (.cell (cpI kk p))) tA_._auto_1) (hT : X.P.underlying T = some (.slice E) := by exact CUn.h) (hE : TyI X.P E k b z := by exact CTy.h) (hg : autoParam (getI xs p = some y) tD_._auto_1)  : OpS X st mm ⟨some d, .indexAddr T x i, ty, pos, af, none⟩ [(d, .ref (f y))] [] := ⟨ixR hT hE hg hd hx hi⟩
theorem ixO' {kk d x i T E E' k k' b z id} {p : Int} {α : Type} {f : α → Ly} {xs : List α} {y : α} (hd : Nat.blt d X.N = true := by exact rfl) (hx : autoParam (OpdF st x (.own id)) tA_._auto_1) (hi : autoParam (OpdF st i (.cell (cpI kk p))) tA_._auto_1) (hm : autoParam (mm id = some (.sl E' k (xs.map f))) tB_._auto_1) (hT : X.P.underlying T = some (.slice E) := by exact CUn.h) (hE : TyI X.P E k' b z := by exact CTy.h) (hg : autoParam (getI xs p = some y) tD_._auto_1)  : OpS X st mm ⟨some d, .indexAddr T x i, ty, pos, af, none⟩ [(d, .ptr id (p.toNat * k'))] [] := ⟨ixO hm hT hE hg hd hx hi⟩
theorem ldR' {d x T ag k ly} (hd : Nat.blt d X.N = true := by exact rfl) (hx : autoParam (OpdF st x (.ref ly)) tA_._auto_1) (hT : Shp X.P T ag k := by exact CSh.h) (hn : ly.isN = ag := by exact rfl) (hz : ly.sz = k := by exact rfl)  : OpS X st mm ⟨some d, .load T x, ty, pos, af, none⟩ [(d, ly)] [] := ⟨ldR hT hn hz hd hx⟩
theorem ldW {d x T ag k id E ly} (hd : Nat.blt d X.N = true := by exact rfl) (hx : autoParam (OpdF st x (.own id)) tA_._auto_1) (hm : autoParam (mm id = some (.bx E ly)) tB_._auto_1) (hT : Shp X.P T ag k := by exact CSh.h) (hn : ly.isN = ag := by exact rfl) (hz : ly.sz = k := by exact rfl)  : OpS X st mm ⟨some d, .load T x, ty, pos, af, none⟩ [(d, ly)] [] := ⟨ldB [] hm rfl hT hn hz hd hx (.inr ⟨rfl, rfl, _, _, hm⟩)⟩
theorem ldP {d x T ag k id E ly lz off off'} (hd : Nat.blt d X.N = true := by exact rfl) (hx : autoParam (OpdF st x (.ptr id off)) tA_._auto_1) (hm : autoParam (mm id = some (.bx E ly)) tB_._auto_1) (hT : Shp X.P T ag k := by exact CSh.h) (hg : Ly.go (pathOf ag k off ly) ly = some (lz, off') := by exact rfl) (ho : off' = off := by exact rfl) (hn : lz.isN = ag := by exact rfl) (hz : lz.sz = k := by exact rfl)  : OpS X st mm ⟨some d, .load T x, ty, pos, af, none⟩ [(d, lz)] [] := ⟨ldB _ hm hg hT hn hz hd hx (.inl (ho ▸ rfl))⟩
theorem ldE0 {d x T ag k kk id E} {p : Int} {α : Type} {f : α → Ly} {xs : List α} {y : α} (hd : Nat.blt d X.N = true := by exact rfl) (hx : autoParam (OpdF st x (.ptr id (p.toNat * k))) tA_._auto_1) (hm : autoParam (mm id = some (.sl E k (xs.map f))) tB_._auto_1) (hy : autoParam (getI xs p = some y) tD_._auto_1) (hT : Shp X.P T ag kk := by exact CSh.h) (hn : (f y).isN = ag := by exact rfl) (hz : (f y).sz = kk := by exact rfl)  : OpS X st mm ⟨some d, .load T x, ty, pos, af, none⟩ [(d, f y)] [] := ⟨ldO (f := f) [] hm (getI_ix hy) rfl off0 hT hn hz hd hx⟩
theorem ldE1 {d x T ag k kk id E fo fo' lz} {p : Int} {α : Type} {f : α → Ly} {xs : List α} {y : α} (hd : Nat.blt d X.N = true := by exact rfl) (hx : autoParam (OpdF st x (.ptr id (p.toNat * k + fo))) tA_._auto_1) (hm : autoParam (mm id = some (.sl E k (xs.map f))) tB_._auto_1) (hy : autoParam (getI xs p = some y) tD_._auto_1) (hT : Shp X.P T ag kk := by exact CSh.h) (hg : Ly.go (pathOf ag kk fo (f y)) (f y) = some (lz, fo') := by exact rfl) (ho : fo' = fo := by exact rfl) (hn : lz.isN = ag := by exact rfl) (hz : lz.sz = kk := by exact rfl)  : OpS X st mm ⟨some d, .load T x, ty, pos, af, none⟩ [(d, lz)] [] := ⟨ldO (f := f) _ hm (getI_ix hy) hg (ho ▸ rfl) hT hn hz hd hx⟩
theorem stW {x y T ag k id E ly ln} (hx : autoParam (OpdF st x (.own id)) tA_._auto_1) (hy : autoParam (OpdF st y (ln)) tA_._auto_1) (hm : autoParam (mm id = some (.bx E ly)) tB_._auto_1) (hT : Shp X.P T ag k := by exact CSh.h) (hz : ly.sz = k := by exact rfl) (hnz : ln.sz = k := by exact rfl) (hnl : ln.lies = true := by exact rfl)  : OpS X st mm ⟨none, .store T x y, ty, pos, af, none⟩ [] [(id, .bx E ln)] := ⟨stB2 [] rfl hm rfl hT hz hnz hnl hx (.inr ⟨rfl, rfl, _, _, hm⟩) hy⟩
theorem stP {x y T ag k id E ly lz ln off off'} (ly2 : Ly) (p : List Nat) (hx : autoParam (OpdF st x (.ptr id off)) tA_._auto_1) (hy : autoParam (OpdF st y ln) tA_._auto_1) (hm : autoParam (mm id = some (.bx E ly)) tB_._auto_1) (hT : Shp X.P T ag k := by exact CSh.h) (hg : Ly.go p ly = some (lz, off') := by exact rfl) (ho : off' = off := by exact rfl) (hpu : Ly.pu ln p ly = ly2 := by exact rfl) (hz : lz.sz = k := by exact rfl) (hnz : ln.sz = k := by exact rfl) (hnl : ln.lies = true := by exact rfl) : OpS X st mm ⟨none, .store T x y, ty, pos, af, none⟩ [] [(id, .bx E ly2)] := ⟨stB2 p hpu hm hg hT hz hnz hnl hx (.inl (ho ▸ rfl)) hy⟩
theorem stV {x y T ag k id E ly lz ln} (ly2 : Ly) (p : List Nat) (hx : autoParam (OpdF st x (.own id)) tA_._auto_1) (hy : autoParam (OpdF st y ln) tA_._auto_1) (hm : autoParam (mm id = some (.bx E ly)) tB_._auto_1) (hT : Shp X.P T ag k := by exact CSh.h) (hg : Ly.go p ly = some (lz, 0) := by exact rfl) (hpu : Ly.pu ln p ly = ly2 := by exact rfl) (hz : lz.sz = k := by exact rfl) (hnz : ln.sz = k := by exact rfl) (hnl : ln.lies = true := by exact rfl) : OpS X st mm ⟨none, .store T x y, ty, pos, af, none⟩ [] [(id, .bx E ly2)] := ⟨stB2 p hpu hm hg hT hz hnz hnl hx (.inr ⟨rfl, rfl, _, _, hm⟩) hy⟩
theorem stE0 {x y T ag k kk id E ln} {p : Int} {α : Type} {f : α → Ly} {xs : List α} {e e' : α} (hx : autoParam (OpdF st x (.ptr id (p.toNat * k))) tA_._auto_1) (hy : autoParam (OpdF st y (ln)) tA_._auto_1) (hm : autoParam (mm id = some (.sl E k (xs.map f))) tB_._auto_1) (he : autoParam (getI xs p = some e) tD_._auto_1) (hl : f e' = ln := by exact rfl) (hT : Shp X.P T ag kk := by exact CSh.h) (hz : (f e).sz = kk := by exact rfl) (hnz : (f e').sz = kk := by exact rfl) (hnk : (f e').sz = k := by exact rfl) (hnl : (f e').lies = true := by exact rfl)  : OpS X st mm ⟨none, .store T x y, ty, pos, af, none⟩ [] [(id, .sl E k ((xs.set p.toNat e').map f))] := ⟨stO (f := f) e' [] hm (getI_ix he) rfl off0 rfl hnk hT hz hnz hnl hx (hl ▸ hy)⟩
theorem faO' {d x T j fo id E ly} (hd : Nat.blt d X.N = true := by exact rfl) (hx : autoParam (OpdF st x (.own id)) tA_._auto_1) (hm : autoParam (mm id = some (.bx E ly)) tB_._auto_1) (hF : FldAt X.P T j fo := by exact CFd.h)  : OpS X st mm ⟨some d, .fieldAddr T x j, ty, pos, af, none⟩ [(d, .ptr id fo)] [] := ⟨faO hm hF hd hx⟩
theorem faP' {d x T j fo id off} (hd : Nat.blt d X.N = true := by exact rfl) (hx : autoParam (OpdF st x (.ptr id off)) tA_._auto_1) (hF : FldAt X.P T j fo := by exact CFd.h)  : OpS X st mm ⟨some d, .fieldAddr T x j, ty, pos, af, none⟩ [(d, .ptr id (off + fo))] [] := ⟨faP hF hd hx⟩
theorem faR' {d x T j fo l lz} (hd : Nat.blt d X.N = true := by exact rfl) (hx : autoParam (OpdF st x (.ref (.agg l))) tA_._auto_1) (hF : FldAt X.P T j fo := by exact CFd.h) (hg : Ly.go [j] (.agg l) = some (lz, fo) := by exact rfl)  : OpS X st mm ⟨some d, .fieldAddr T x j, ty, pos, af, none⟩ [(d, .ref lz)] [] := ⟨faR hF hg hd hx⟩
theorem ext' {d x i l ly} (hd : Nat.blt d X.N = true := by exact rfl) (hx : autoParam (OpdF st x (.tup l)) tA_._auto_1) (hl : l[i]? = some ly := by exact rfl)  : OpS X st mm ⟨some d, .extract x i, ty, pos, af, none⟩ [(d, ly)] [] := ⟨ext hl hd hx⟩
theorem nck' {d x ly} (hd : Nat.blt d X.N = true := by exact rfl) (hx : autoParam (OpdF st x (ly)) tA_._auto_1) (hn : NotNil mm ly := by first | exact trivial | exact ⟨_, _, rfl⟩ | exact ⟨_, _, (Ag.get (by assumption) rfl).trans rfl⟩)  : OpS X st mm ⟨some d, .nilCheck x, ty, pos, af, none⟩ [(d, ly)] [] := ⟨nck hn hd hx⟩
theorem al' (y : Nat) {d T ly} (hd : Nat.blt d X.N = true := by exact rfl) (hy : autoParam (mm y = none) tB_._auto_1) (h : ∃ k b z, TyI X.P T k b z ∧ Zr ly z.cells.toList := by exact CZy.h) : OpS X st mm ⟨some d, .alloc T, ty, pos, af, none⟩ [(d, .own y)] [(y, .bx T ly)] := by
  obtain ⟨k, b, z, h1, h2⟩ := h
  exact ⟨al h1 h2 hy hd⟩
theorem bx' (y : Nat) {d T x ly} (hd : Nat.blt d X.N = true := by exact rfl) (hx : autoParam (OpdF st x ly) tA_._auto_1) (hl : ly.lies = true := by exact rfl) (hy : autoParam (mm y = none) tB_._auto_1) : OpS X st mm ⟨some d, .box T x, ty, pos, af, none⟩ [(d, .own y)] [(y, .bx T ly)] := ⟨box hl hx hy hd⟩
theorem app' (y : Nat) {d s x T id E k b z lx} {α : Type} {f : α → Ly} {xs ys zs : List α} (hd : Nat.blt d X.N = true := by exact rfl) (hs : autoParam (OpdF st s (.own id)) tA_._auto_1) (hx : autoParam (OpdF st x lx) tA_._auto_1) (hm : autoParam (mm id = some (.sl E k (xs.map f))) tB_._auto_1) (hT : X.P.underlying T = some (.slice E) := by exact CUn.h) (hE : TyI X.P E k b z := by exact CTy.h) (hF : SlF mm lx k (ys.map f) := by first | exact .inl rfl | exact .inr ⟨_, _, rfl, rfl⟩ | exact .inr ⟨_, _, rfl, (Ag.get (by assumption) rfl).trans rfl⟩) (hz : appM b xs ys = some zs := by assumption) (hzk : z.cells.size = k := by exact rfl) (hk0 : Nat.blt 0 k = true := by exact rfl) (hy : autoParam (mm y = none) tB_._auto_1) : OpS X st mm ⟨some d, .call { callee := .builtin .append, args := #[s, x], argTypes := #[T, T] }, ty, pos, af, none⟩ [(d, .own y)] [(y, .sl E k (zs.map f)), (id, .gone)] := ⟨app hz hm hT hE hzk hk0 hs hx hF hy hd⟩
/-- What needs no more to be said. -/
theorem ops {o el em} (h : OpS X st mm o el em := by first | exact mv' | exact asg' | exact ldW | exact faO' | exact stW | exact ext' | exact ldP | exact pF | exact pT | exact lenL' | exact addI' | exact eqI' | exact ldR' | exact ixR' | exact notB' | exact faP' | exact ltI' | exact gtI' | exact nck' | exact subI' | exact ixO' | exact ldE0 | exact ldE1 | exact stE0 | exact lenS' | exact lenO' | exact neI' | exact geI' | exact leI' | exact cvUw' | exact cvU' | exact addU' | exact subU' | exact mulU' | exact orU' | exact andU' | exact eqU' | exact neU' | exact ltU' | exact gtU' | exact leU' | exact geU' | exact eqS' | exact neS' | exact eqB' | exact neB' | exact mulI' | exact andI' | exact quoI' | exact remI' | exact quoU' | exact remU' | exact negI' | exact cvIU' | exact cvUI' | exact cvUIw' | exact cvI' | exact lenW' | exact maxI' | exact minI' | exact ixS' | exact catS' | exact faR') : OpS X st mm o el em := h
end

section
variable {R : Type} {X : Cx} {l : List (Nat × Ly)} {m : List (Nat × Ct)} {md : Option R} {Q : R → Exit → Act → World → Prop} {G : R → Act → World → Prop} {n : List Nat} {i : Nat}
/-- So many steps are to be taken. -/
structure Cnt (n : List Nat) (p : Prop) : Prop where
  h : p
structure CntI (i : Nat) (n : List Nat) (p : Prop) : Prop where
  h : p
/-- What is given. -/
structure Hold (p : Prop) : Prop where
  h : p
theorem pk (i : Nat) {n : List Nat} {p : Prop} (h : CntI i n p) : Cnt (i :: n) p := ⟨h.h⟩
theorem q_seq {x y : Code} (h : Cnt n (Sq X l m md (fun r => x.wp X.P (Exit.then (y.wp X.P (Q r)) (Q r))))) : CntI i n (Sq X l m md (fun r => (Code.seq x y).wp X.P (Q r))) := ⟨sseq h.h⟩
theorem q_reg {id : Nat} {ls : List Oper} (h : Cnt n (Sq X l m md (fun r => wpList X.P ⟨ls⟩ (Q r) ls))) : CntI i n (Sq X l m md (fun r => (Code.region id ⟨ls⟩ false).wp X.P (Q r))) := ⟨sreg h.h⟩
theorem q_nil {ops : Array Oper} (h : Cnt n (Sq X l m md (fun r => Q r .normal))) : CntI i n (Sq X l m md (fun r => wpList X.P ops (Q r) [])) := ⟨snil h.h⟩
theorem q_nm {y : Code} (h : Cnt n (Sq X l m md (fun r => y.wp X.P (Q r)))) : CntI i n (Sq X l m md (fun r => Exit.then (y.wp X.P (Q r)) (Q r) .normal)) := ⟨pnm h.h⟩
theorem q_blk {id : Nat} {c : Code} (h : Cnt n (Sq X l m md (fun r => c.wp X.P (Exit.inBlock id (Q r))))) : CntI i n (Sq X l m md (fun r => (Code.block id c).wp X.P (Q r))) := ⟨sblk h.h⟩
theorem q_scp {c : Code} (h : Cnt n (Sq X l m md (fun r => c.wp X.P (Exit.noGoto (Q r))))) : CntI i n (Sq X l m md (fun r => (Code.scope c).wp X.P (Q r))) := ⟨sscp h.h⟩
theorem q_ret (h : Cnt n (Sq X l m md (fun r => Q r .ret))) : CntI i n (Sq X l m md (fun r => Code.ret.wp X.P (Q r))) := ⟨sret h.h⟩
theorem q_skip (h : Cnt n (Sq X l m md (fun r => Q r .normal))) : CntI i n (Sq X l m md (fun r => Code.skip.wp X.P (Q r))) := ⟨sskip h.h⟩
theorem q_lab {i' : Nat} (h : Cnt n (Sq X l m md (fun r => Q r .normal))) : CntI i n (Sq X l m md (fun r => (Code.label i').wp X.P (Q r))) := ⟨slab h.h⟩
theorem q_exit {id : Nat} (h : Cnt n (Sq X l m md (fun r => Q r (.exit id)))) : CntI i n (Sq X l m md (fun r => (Code.exit id).wp X.P (Q r))) := ⟨sexit h.h⟩
theorem q_x {id : Nat} (h : Cnt n (Sq X l m md (fun r => Q r .normal))) : CntI i n (Sq X l m md (fun r => Exit.inBlock id (Q r) (.exit id))) := ⟨sx h.h⟩
theorem q_xo {id id' : Nat} (hne : Nat.beq id' id = false) (h : Cnt n (Sq X l m md (fun r => Q r (.exit id')))) : CntI i n (Sq X l m md (fun r => Exit.inBlock id (Q r) (.exit id'))) := ⟨sxo hne h.h⟩
theorem q_th {N : R → Act → World → Prop} (h : Cnt n (Sq X l m md (fun r => Q r .ret))) : CntI i n (Sq X l m md (fun r => Exit.then (N r) (Q r) .ret)) := ⟨pth h.h⟩
theorem q_tx {N : R → Act → World → Prop} {id : Nat} (h : Cnt n (Sq X l m md (fun r => Q r (.exit id)))) : CntI i n (Sq X l m md (fun r => Exit.then (N r) (Q r) (.exit id))) := ⟨ptx h.h⟩
theorem q_bn {id : Nat} (h : Cnt n (Sq X l m md (fun r => Q r .normal))) : CntI i n (Sq X l m md (fun r => Exit.inBlock id (Q r) .normal)) := ⟨pbn h.h⟩
theorem q_bl {id : Nat} (h : Cnt n (Sq X l m md (fun r => Q r .ret))) : CntI i n (Sq X l m md (fun r => Exit.inBlock id (Q r) .ret)) := ⟨pbl h.h⟩
theorem q_gn (h : Cnt n (Sq X l m md (fun r => Q r .normal))) : CntI i n (Sq X l m md (fun r => Exit.noGoto (Q r) .normal)) := ⟨pgn h.h⟩
theorem q_gr (h : Cnt n (Sq X l m md (fun r => Q r .ret))) : CntI i n (Sq X l m md (fun r => Exit.noGoto (Q r) .ret)) := ⟨pgr h.h⟩
theorem q_gx {i' : Nat} (h : Cnt n (Sq X l m md (fun r => Q r (.exit i')))) : CntI i n (Sq X l m md (fun r => Exit.noGoto (Q r) (.exit i'))) := ⟨pgx h.h⟩
theorem q_o {d op ty pos after} {ops : Array Oper} {rest : List Oper} {el em} (h : OpS X (lk l) (lk m) ⟨d, op, ty, pos, after, none⟩ el em)
    (k : Cnt n (Sq X (el ++ l) (em ++ m) md (fun r => wpList X.P ops (Q r) rest))) : CntI i n (Sq X l m md (fun r => wpList X.P ops (Q r) (⟨d, op, ty, pos, after, none⟩ :: rest))) := ⟨so h.h k.h⟩
theorem q_g {d op ty pos after j b dj} {ops : Array Oper} {rest : List Oper} {el em} (hj : ((ops[j]?).bind (·.dst)) = some dj) (hv : lk l dj = some (bl b)) (h : OpS X (lk l) (lk m) ⟨d, op, ty, pos, after, none⟩ el em)
    (k : Cnt n (Sq X (el ++ l) (em ++ m) md (fun r => wpList X.P ops (Q r) rest))) : CntI i n (Sq X l m md (fun r => wpList X.P ops (Q r) (⟨d, op, ty, pos, after, some (j, b)⟩ :: rest))) := ⟨sg dj hj hv h.h k.h⟩
theorem q_B {d op ty pos after j b b' dj} {ops : Array Oper} {rest : List Oper} (hj : ((ops[j]?).bind (·.dst)) = some dj) (hv : lk l dj = some (bl b')) (hb : b' = !b) (hd : Nat.blt d X.N = true)
    (k : Cnt n (Sq X ((d, .tup []) :: l) m md (fun r => wpList X.P ops (Q r) rest))) : CntI i n (Sq X l m md (fun r => wpList X.P ops (Q r) (⟨some d, op, ty, pos, after, some (j, b)⟩ :: rest))) := ⟨spB dj hj (hb ▸ hv) hd k.h⟩
theorem q_U {d op ty pos after j b dj} {ops : Array Oper} {rest : List Oper} (hj : ((ops[j]?).bind (·.dst)) = some dj) (hv : lk l dj = some (.tup [])) (hd : Nat.blt d X.N = true)
    (k : Cnt n (Sq X ((d, .tup []) :: l) m md (fun r => wpList X.P ops (Q r) rest))) : CntI i n (Sq X l m md (fun r => wpList X.P ops (Q r) (⟨some d, op, ty, pos, after, some (j, b)⟩ :: rest))) := ⟨spU dj hj hv hd k.h⟩
theorem cnt0 {p : Prop} (h : p) : Cnt [] p := ⟨h⟩
theorem q_E {ops : Array Oper} {y : Code} (h : Cnt n (Sq X l m md (fun r => y.wp X.P (Q r)))) : CntI i n (Sq X l m md (fun r => wpList X.P ops (Exit.then (y.wp X.P (Q r)) (Q r)) [])) := ⟨snil (pnm h.h)⟩
theorem q_S {id : Nat} {ls : List Oper} {y : Code} (h : Cnt n (Sq X l m md (fun r => wpList X.P ⟨ls⟩ (Exit.then (y.wp X.P (Q r)) (Q r)) ls))) : CntI i n (Sq X l m md (fun r => (Code.seq (Code.region id ⟨ls⟩ false) y).wp X.P (Q r))) := ⟨sseq (sreg h.h)⟩
theorem q_op {d op ty pos after} {ops : Array Oper} {rest : List Oper} {el em} (h : OpS X (lk l) (lk m) ⟨d, op, ty, pos, after, none⟩ el em)
    (k : Cnt n (Sq X (el ++ l) (em ++ m) md (fun r => wpList X.P ops (Q r) rest))) : CntI i n (Sq X l m md (fun r => wpList X.P ops (Q r) (⟨d, op, ty, pos, after, none⟩ :: rest))) := ⟨so h.h k.h⟩
/-- A number and what it is about. -/
theorem pk1 (i : Nat) {y : Nat} {n : List Nat} {p : Prop} (h : CntI y n p) : Cnt (i :: y :: n) p := ⟨h.h⟩
class CNs (i : Nat) (k : outParam Nat) (α : outParam Type) (f : outParam (α → Ly)) : Prop where h : True
theorem q_oz {α : Type} {f : α → Ly} {d ty pos after k} [CNs i k α f] {ops : Array Oper} {rest : List Oper}
    (h : Cnt n (Sq X ((d, sli k (List.map f [])) :: l) m md (fun r => wpList X.P ops (Q r) rest))) (hd : Nat.blt d X.N = true := by exact rfl) : CntI i n (Sq X l m md (fun r => wpList X.P ops (Q r) (⟨some d, .assign (.const (.slice none 0 0)), ty, pos, after, none⟩ :: rest))) := ⟨s1 (asg hd (kLm f)) h.h⟩
theorem q_oy {d d' op ty pos after} {ops : Array Oper} {rest : List Oper} {em} (h : OpS X (lk l) (lk m) ⟨d, op, ty, pos, after, none⟩ [(d', .own i)] em)
    (k : Cnt n (Sq X ([(d', .own i)] ++ l) (em ++ m) md (fun r => wpList X.P ops (Q r) rest))) : CntI i n (Sq X l m md (fun r => wpList X.P ops (Q r) (⟨d, op, ty, pos, after, none⟩ :: rest))) := ⟨so h.h k.h⟩
theorem q_sU {σ τ : Type} {L : σ → List (Nat × Ly)} {M : σ → List (Nat × Ct)} {k : τ → Option R} {t : τ} (h : Cnt n (Sq X l m (k t) (fun r => Q r .ret))) :
    CntI i n (Sq X l m (some (Lp.out t)) (fun (o : Lp σ τ) => LpQ X L M k Q o .ret)) := ⟨sout (fun h => by cases h) h.h⟩
theorem q_su {σ τ : Type} {L : σ → List (Nat × Ly)} {M : σ → List (Nat × Ct)} {k : τ → Option R} {t : τ} {j : Nat} (h : Cnt n (Sq X l m (k t) (fun r => Q r (.exit j)))) :
    CntI i n (Sq X l m (some (Lp.out t)) (fun (o : Lp σ τ) => LpQ X L M k Q o (.exit j))) := ⟨sout (fun h => by cases h) h.h⟩
/-- So many steps, of which none needs a word. -/
theorem z {a b : Prop} (n : List Nat) (h : Hold b → Cnt n a := by
    intro kk
    repeat (first
      | (refine pk 30 ?_; refine q_op mv' ?_)
      | (refine pk 1 ?_; refine q_E ?_)
      | (refine pk 31 ?_; refine q_op asg' ?_)
      | (refine pk 2 ?_; refine q_S ?_)
      | (refine pk 23 ?_; refine q_B rfl rfl rfl rfl ?_)
      | (refine pk1 94 ?_; first | refine q_oy (al' _) ?_ | refine q_oy (bx' _) ?_ | refine q_oy (app' _) ?_)
      | (refine pk1 93 ?_; refine q_oz ?_)
      | (refine pk 97 ?_; refine q_su ?_)
      | (refine pk 96 ?_; refine q_sU ?_)
      | (refine pk 32 ?_; refine q_op ldW ?_)
      | (refine pk 22 ?_; refine q_g rfl rfl ops ?_)
      | (refine pk 33 ?_; refine q_op faO' ?_)
      | (refine pk 34 ?_; refine q_op stW ?_)
      | (refine pk 35 ?_; refine q_op ext' ?_)
      | (refine pk 5 ?_; refine q_seq ?_)
      | (refine pk 3 ?_; refine q_nil ?_)
      | (refine pk 4 ?_; refine q_nm ?_)
      | (refine pk 8 ?_; refine q_ret ?_)
      | (refine pk 9 ?_; refine q_skip ?_)
      | (refine pk 6 ?_; refine q_reg ?_)
      | (refine pk 7 ?_; refine q_blk ?_)
      | (refine pk 10 ?_; refine q_th ?_)
      | (refine pk 12 ?_; refine q_bl ?_)
      | (refine pk 11 ?_; refine q_bn ?_)
      | (refine pk 13 ?_; refine q_x ?_)
      | (refine pk 36 ?_; refine q_op ldP ?_)
      | (refine pk 37 ?_; refine q_op pF ?_)
      | (refine pk 38 ?_; refine q_op pT ?_)
      | (refine pk 39 ?_; refine q_op lenL' ?_)
      | (refine pk 40 ?_; refine q_op addI' ?_)
      | (refine pk 41 ?_; refine q_op eqI' ?_)
      | (refine pk 42 ?_; refine q_op ldR' ?_)
      | (refine pk 43 ?_; refine q_op ixR' ?_)
      | (refine pk 44 ?_; refine q_op notB' ?_)
      | (refine pk 45 ?_; refine q_op faP' ?_)
      | (refine pk 24 ?_; refine q_U rfl rfl rfl ?_)
      | (refine pk 14 ?_; refine q_exit ?_)
      | (refine pk 15 ?_; refine q_tx ?_)
      | (refine pk 16 ?_; refine q_scp ?_)
      | (refine pk 17 ?_; refine q_gn ?_)
      | (refine pk 18 ?_; refine q_gr ?_)
      | (refine pk 19 ?_; refine q_gx ?_)
      | (refine pk 20 ?_; refine q_lab ?_)
      | (refine pk 21 ?_; refine q_xo rfl ?_)
      | (refine pk 46 ?_; refine q_op ltI' ?_)
      | (refine pk 47 ?_; refine q_op gtI' ?_)
      | (refine pk 48 ?_; refine q_op nck' ?_)
      | (refine pk 49 ?_; refine q_op subI' ?_)
      | (refine pk 50 ?_; refine q_op ixO' ?_)
      | (refine pk 51 ?_; refine q_op ldE0 ?_)
      | (refine pk 52 ?_; refine q_op ldE1 ?_)
      | (refine pk 53 ?_; refine q_op stE0 ?_)
      | (refine pk 54 ?_; refine q_op lenS' ?_)
      | (refine pk 55 ?_; refine q_op lenO' ?_)
      | (refine pk 56 ?_; refine q_op neI' ?_)
      | (refine pk 57 ?_; refine q_op geI' ?_)
      | (refine pk 58 ?_; refine q_op leI' ?_)
      | (refine pk 59 ?_; refine q_op cvUw' ?_)
      | (refine pk 60 ?_; refine q_op cvU' ?_)
      | (refine pk 61 ?_; refine q_op addU' ?_)
      | (refine pk 62 ?_; refine q_op subU' ?_)
      | (refine pk 63 ?_; refine q_op mulU' ?_)
      | (refine pk 64 ?_; refine q_op orU' ?_)
      | (refine pk 65 ?_; refine q_op andU' ?_)
      | (refine pk 66 ?_; refine q_op eqU' ?_)
      | (refine pk 67 ?_; refine q_op neU' ?_)
      | (refine pk 68 ?_; refine q_op ltU' ?_)
      | (refine pk 69 ?_; refine q_op gtU' ?_)
      | (refine pk 70 ?_; refine q_op leU' ?_)
      | (refine pk 71 ?_; refine q_op geU' ?_)
      | (refine pk 72 ?_; refine q_op eqS' ?_)
      | (refine pk 73 ?_; refine q_op neS' ?_)
      | (refine pk 74 ?_; refine q_op eqB' ?_)
      | (refine pk 75 ?_; refine q_op neB' ?_)
      | (refine pk 76 ?_; refine q_op mulI' ?_)
      | (refine pk 77 ?_; refine q_op andI' ?_)
      | (refine pk 78 ?_; refine q_op quoI' ?_)
      | (refine pk 79 ?_; refine q_op remI' ?_)
      | (refine pk 80 ?_; refine q_op quoU' ?_)
      | (refine pk 81 ?_; refine q_op remU' ?_)
      | (refine pk 82 ?_; refine q_op negI' ?_)
      | (refine pk 83 ?_; refine q_op cvIU' ?_)
      | (refine pk 84 ?_; refine q_op cvUI' ?_)
      | (refine pk 85 ?_; refine q_op cvUIw' ?_)
      | (refine pk 86 ?_; refine q_op cvI' ?_)
      | (refine pk 87 ?_; refine q_op lenW' ?_)
      | (refine pk 88 ?_; refine q_op maxI' ?_)
      | (refine pk 89 ?_; refine q_op minI' ?_)
      | (refine pk 90 ?_; refine q_op ixS' ?_)
      | (refine pk 91 ?_; refine q_op catS' ?_)
      | (refine pk 92 ?_; refine q_op faR' ?_)
      | (refine pk 0 ?_; refine q_o ops ?_))
    exact cnt0 kk.h) (k : b) : a := (h ⟨k⟩).h
end

/-! calls -/
def swp : List (Nat × Nat) → List (Nat × Nat)
  | [] => []
  | (i, j) :: r => (j, i) :: swp r
def zpK {α : Type} : List (Nat × α) → List Nat → List (Nat × Nat)
  | (i, _) :: m, b :: bs => (i, b) :: zpK m bs
  | _, _ => []
def kz {α : Type} : List (Nat × α) → List Nat
  | [] => []
  | (i, _) :: r => i :: kz r
theorem af_cons {st ρ x xs ly ly' lys} (h : OpdF st x ly) (h2 : Rn ρ ly ly') (k : ArgF st ρ xs lys) : ArgF st ρ (x :: xs) (ly' :: lys) := ⟨⟨_, h, h2⟩, k⟩
theorem ri_own {σi σ : List (Nat × Nat)} {x y} (h : lk σi x = some y) (h2 : lk σ y = some x) : Rn σ (.own x) (.own y) ∧ lk σi x = some y := ⟨rn_own h2, h⟩
/-- As Rn, with the way back at hand. -/
structure RnI (σ σi : List (Nat × Nat)) (ly ly' : Ly) : Prop where
  h : Rn σ ly ly'
structure RnsI (σ σi : List (Nat × Nat)) (l l' : List Ly) : Prop where
  h : Rns σ l l'
theorem rj_id {σ σi ly} (h : IF ly) : RnI σ σi ly ly := ⟨rn_id h⟩
theorem rj_own {σ σi x y} (_ : lk σi x = some y) (h : lk σ y = some x) : RnI σ σi (.own x) (.own y) := ⟨rn_own h⟩
theorem rj_ptr {σ σi x y o} (_ : lk σi x = some y) (h : lk σ y = some x) : RnI σ σi (.ptr x o) (.ptr y o) := ⟨rn_ptr h⟩
theorem rj_por {σ σi x y} (_ : lk σi x = some y) (h : lk σ y = some x) : RnI σ σi (.por x) (.por y) := ⟨rn_por h⟩
theorem rj_win {σ σi x y o n} (_ : lk σi x = some y) (h : lk σ y = some x) : RnI σ σi (.win x o n) (.win y o n) := ⟨rn_win h⟩
theorem rj_agg {σ σi l l'} (h : RnsI σ σi l l') : RnI σ σi (.agg l) (.agg l') := ⟨rn_agg h.h⟩
theorem rj_tup {σ σi l l'} (h : RnsI σ σi l l') : RnI σ σi (.tup l) (.tup l') := ⟨rn_tup h.h⟩
theorem rj_nil {σ σi} : RnsI σ σi [] [] := ⟨rns_nil⟩
theorem rj_cons {σ σi a a' l l'} (h : RnI σ σi a a') (k : RnsI σ σi l l') : RnsI σ σi (a :: l) (a' :: l') := ⟨rns_cons h.h k.h⟩
/-- What a call leaves behind, by its caller's names. -/
structure EmR (σ σi ρ : List (Nat × Nat)) (mo : List (Nat × Ct)) (ks : List Nat) (em : List (Nat × Ct)) : Prop where
  h : BackM σ ρ mo em
theorem em_nil {σ σi ρ mo} : EmR σ σi ρ mo [] [] := ⟨trivial⟩
theorem em_gone {σ σi ρ mo x y ks em} (_ : lk σ y = some x) (_ : lk mo x = some .gone) (h2 : lk ρ x = some y) (k : EmR σ σi ρ mo ks em) : EmR σ σi ρ mo (y :: ks) ((y, .gone) :: em) := ⟨.inr ⟨rfl, x, lk_mem h2⟩, k.h⟩
theorem em_bx {σ σi ρ mo x y ks em E ly ly'} (hx : lk σ y = some x) (h1 : lk mo x = some (.bx E ly)) (h2 : RnI σ σi ly ly') (k : EmR σ σi ρ mo ks em) : EmR σ σi ρ mo (y :: ks) ((y, .bx E ly') :: em) := ⟨.inl ⟨x, _, hx, h1, rc_bx h2.h⟩, k.h⟩
theorem em_sl {σ σi ρ mo x y ks em E n ls} (hx : lk σ y = some x) (h1 : lk mo x = some (.sl E n ls)) (h2 : IFs ls) (k : EmR σ σi ρ mo ks em) : EmR σ σi ρ mo (y :: ks) ((y, .sl E n ls) :: em) := ⟨.inl ⟨x, _, hx, h1, rc_sl h2⟩, k.h⟩
theorem em_ob {σ σi ρ mo x y ks em o} (hx : lk σ y = some x) (h1 : lk mo x = some (.ob o)) (k : EmR σ σi ρ mo ks em) : EmR σ σi ρ mo (y :: ks) ((y, .ob o) :: em) := ⟨.inl ⟨x, _, hx, h1, rc_ob⟩, k.h⟩
theorem em_ch {σ σi ρ mo x y ks em o} (hx : lk σ y = some x) (h1 : lk mo x = some (.ch o)) (k : EmR σ σi ρ mo ks em) : EmR σ σi ρ mo (y :: ks) ((y, .ch o) :: em) := ⟨.inl ⟨x, _, hx, h1, rc_ch⟩, k.h⟩
theorem em_mp {σ σi ρ mo x y ks em is ls} (hx : lk σ y = some x) (h1 : lk mo x = some (.mp is ls)) (h2 : IFs ls) (k : EmR σ σi ρ mo ks em) : EmR σ σi ρ mo (y :: ks) ((y, .mp is ls) :: em) := ⟨.inl ⟨x, _, hx, h1, rc_mp h2⟩, k.h⟩
/-- What is as it was is not named. -/
structure DropM (mm : Nat → Option Ct) (sm : List Nat) (em em' : List (Nat × Ct)) : Prop where
  h : up mm em = up mm em'
theorem dm_nil {mm sm} : DropM mm sm [] [] := ⟨rfl⟩
theorem dm_keep {mm sm id c em em'} (_ : anyB sm id = false) (k : DropM mm sm em em') : DropM mm sm ((id, c) :: em) ((id, c) :: em') := ⟨by
  funext i
  have := congrFun k.h i
  simp only [up, lk] at this ⊢
  cases Nat.beq id i
  · simpa using this
  · rfl⟩
theorem dm_drop {mm sm id c em em'} (_ : anyB sm id = true) (h : mm id = some c) (hn : lk em id = none) (k : DropM mm sm em em') : DropM mm sm ((id, c) :: em) em' := ⟨by
  rw [← k.h]
  funext i
  simp only [up, lk]
  cases hb : Nat.beq id i
  · rfl
  · have := Nat.eq_of_beq_eq_true hb
    subst this
    rw [hn, h]; rfl⟩
theorem mif_cons {ρ mm x y c c' r} (h1 : lk ρ x = some y) (h2 : mm y = some c) (h3 : RnC ρ c c') (k : MiF ρ mm r) : MiF ρ mm ((x, c') :: r) := ⟨⟨_, _, h1, h2, h3⟩, k⟩
section
variable {X : Cx} {st : Nat → Option Ly} {mm : Nat → Option Ct} {ty : TypeId} {pos : String} {af : Array Edge}
theorem c0 {d f args argTypes largs res} (hf : FnOk X.P f largs [] res []) (hd : Nat.blt d X.N = true := by exact rfl) (ha : autoParam (ArgF st [] args largs) tG_._auto_1) (hres : IF res := by exact CIF.h) :
    OpS X st mm ⟨some d, .call { callee := .value (.func f), args := ⟨args⟩, argTypes := argTypes }, ty, pos, af, none⟩ [(d, res)] [] := ⟨call0 hf ha hres hd⟩
theorem cG {d f args argTypes largs mi res mo res' em em'} (hf : FnOk X.P f largs mi res mo) (bs : List Nat) (τ : List (Nat × Nat)) (sm : List Nat) (hd : Nat.blt d X.N = true := by exact rfl)
    (ha : autoParam (ArgF st (zpK mi bs) args largs) tG_._auto_1)
    (hmi : MiF (zpK mi bs) mm mi := by (repeat (first | exact trivial | refine mif_cons rfl (by first | exact rfl | exact (Ag.get (by assumption) rfl).trans rfl) (by first | exact rc_sl CIFs.h | exact rc_bx (by (repeat' first | exact rn_id CIF.h | exact rn_own rfl | exact rns_nil | refine rns_cons ?_ ?_ | refine rn_agg ?_ | exact rn_ptr rfl | exact rn_por rfl | exact rn_win rfl | refine rn_tup ?_ | exact rn_clo rfl | refine rn_bnd ?_)) | exact rc_ob | exact rc_ch | exact rc_mp CIFs.h) ?_)))
    (hρm : autoParam (NmM mi (zpK mi bs)) tE_._auto_1) (hρn : nodupB ((zpK mi bs).map (·.2)) = true := by exact rfl)
    (hτ : Fresh mm τ := by (repeat (first | exact trivial | refine ⟨(by first | exact rfl | exact (Ag.get (by assumption) rfl).trans rfl), ?_⟩)))
    (hσ : SigT τ (zpK mi bs) (τ ++ swp (zpK mi bs)) := by (repeat (first | exact trivial | refine ⟨.inl rfl, ?_⟩ | refine ⟨.inr rfl, ?_⟩)))
    (hσn : nodupB ((τ ++ swp (zpK mi bs)).map (·.2)) = true := by exact rfl)
    (hem : EmR (τ ++ swp (zpK mi bs)) (swp τ ++ zpK mi bs) (zpK mi bs) mo (kz τ ++ bs) em := by (repeat (first | exact em_nil | (apply em_gone; exact rfl; exact rfl; exact rfl) | (apply em_sl; exact rfl; exact rfl; exact CIFs.h) | (apply em_bx; exact rfl; exact rfl; exact by (repeat' first | exact rj_id CIF.h | exact rj_own rfl rfl | exact rj_nil | apply rj_cons | apply rj_agg | apply rj_tup | exact rj_ptr rfl rfl | exact rj_por rfl rfl | exact rj_win rfl rfl)) | (apply em_ob; exact rfl; exact rfl) | (apply em_ch; exact rfl; exact rfl) | (apply em_mp; exact rfl; exact rfl; exact CIFs.h))))
    (hall : autoParam (AllIn em ((zpK mi bs).map (·.2))) tE_._auto_1) (hall2 : autoParam (AllIn em (τ.map (·.1))) tE_._auto_1)
    (hres : RnI (τ ++ swp (zpK mi bs)) (swp τ ++ zpK mi bs) res res' := by (repeat' first | exact rj_id CIF.h | exact rj_own rfl rfl | exact rj_nil | apply rj_cons | apply rj_agg | apply rj_tup | exact rj_ptr rfl rfl | exact rj_por rfl rfl | exact rj_win rfl rfl))
    (hdm : DropM mm sm em em' := by (repeat (first | exact dm_nil | (apply dm_keep; exact rfl) | (apply dm_drop; exact rfl; exact (by first | exact rfl | exact (Ag.get (by assumption) rfl).trans rfl); exact rfl)))) :
    OpS X st mm ⟨some d, .call { callee := .value (.func f), args := ⟨args⟩, argTypes := argTypes }, ty, pos, af, none⟩ [(d, res')] em' := ⟨by
  have h := callG (ty := ty) (pos := pos) (af := af) (argTypes := argTypes) (zpK mi bs) τ (τ ++ swp (zpK mi bs)) hf ha (MiF.get hmi) hρm hρn hτ hσ hσn hem.h hall hall2 hres.h hd
  intro a w γ K Q hi hK
  exact h a w γ K Q hi fun a' w' γ' hi' => hK a' w' γ' (hdm.h ▸ hi')⟩
end
section
variable {R : Type} {X : Cx} {l : List (Nat × Ly)} {m : List (Nat × Ct)} {md : Option R} {Q : R → Exit → Act → World → Prop} {G : R → Act → World → Prop}
theorem b {α : Type} {x : Option α} {f : α → Option R} (h : ∀ y, x = some y → Sq X l m (f y) G) : Sq X l m (x.bind f) G := bd h
theorem o {d op ty pos after} {ops : Array Oper} {rest : List Oper} {el em} (h : OpS X (lk l) (lk m) ⟨d, op, ty, pos, after, none⟩ el em)
    (k : Sq X (el ++ l) (em ++ m) md (fun r => wpList X.P ops (Q r) rest)) : Sq X l m md (fun r => wpList X.P ops (Q r) (⟨d, op, ty, pos, after, none⟩ :: rest)) := so h.h k
theorem og' {d op ty pos after j b dj} {ops : Array Oper} {rest : List Oper} {el em} (h : OpS X (lk l) (lk m) ⟨d, op, ty, pos, after, none⟩ el em)
    (k : Sq X (el ++ l) (em ++ m) md (fun r => wpList X.P ops (Q r) rest)) (hj : ((ops[j]?).bind (·.dst)) = some dj := by exact rfl) (hv : lk l dj = some (bl b) := by exact rfl) : Sq X l m md (fun r => wpList X.P ops (Q r) (⟨d, op, ty, pos, after, some (j, b)⟩ :: rest)) := sg dj hj hv h.h k
theorem c {b : Bool} {c : Operand} {x y : Code} {m1 m2 : Option R} 
    (h1 : Sq X l m m1 (fun r => x.wp X.P (Q r))) (h2 : Sq X l m m2 (fun r => y.wp X.P (Q r))) (hc : OpdF (lk l) c (bl b) := by exact rfl) :
    Sq X l m (bif b then m1 else m2) (fun r => (Code.cond c x y).wp X.P (Q r)) := scond hc h1 h2
structure CallO (X : Cx) (st : Nat → Option Ly) (α : Type) (md1 : Option α) (f : Nat) (args : List Operand) (d : Nat) (res : α → Ly) : Prop where
  h : ∃ largs, (∀ r, md1 = some r → FnOk X.P f largs [] (res r) []) ∧ ArgF st [] args largs ∧ (∀ r, IF (res r)) ∧ Nat.blt d X.N = true
theorem ca {α : Type} {md1 : Option α} {f args d largs} {res : α → Ly} (c : ∀ r, md1 = some r → FnOk X.P f largs [] (res r) []) (hd : Nat.blt d X.N = true := by exact rfl) (ha : autoParam (ArgF (lk l) [] args largs) tG_._auto_1) (hres : ∀ r, IF (res r) := by intro r; exact CIF.h) : CallO X (lk l) α md1 f args d res := ⟨_, c, ha, hres, hd⟩
theorem cb {α : Type} {md1 : Option α} {k : α → Option R} {d f args argTypes ty pos af} {res : α → Ly} {ops : Array Oper} {rest : List Oper} (c : CallO X (lk l) α md1 f args d res)
    (h : ∀ r, Sq X ((d, res r) :: l) m (k r) (fun r => wpList X.P ops (Q r) rest)) :
    Sq X l m (md1.bind k) (fun r => wpList X.P ops (Q r) (⟨some d, .call { callee := .value (.func f), args := ⟨args⟩, argTypes := argTypes }, ty, pos, af, none⟩ :: rest)) := by
  obtain ⟨largs, c, ha, hres, hd⟩ := c
  exact bd fun r hr => s1 (call0 (c r hr) ha (hres r) hd) (h r)
def dI (l : List Nat) : List (Nat × Nat) := l.map fun x => (x, x)
theorem eI {l' : List (Nat × Ly)} (h : autoParam (SubL l' l) tH_._auto_1) : Ent X l [] l' [] := entI h eqm0
theorem eR {l' m'} (σ : List (Nat × Nat)) (hn : nodupB ((alv σ m').map (·.2)) = true := by exact rfl) (hk : KeepS σ X.g0 := by exact keepS (by assumption) (by (repeat (first | exact trivial | refine ⟨rfl, ?_⟩)))) (hs : autoParam (NmM m' σ) tE_._auto_1)
    (hm : autoParam (RnM σ m m') tI_._auto_1)
    (hl : RnL σ l l' := by (repeat (first | exact trivial | refine ⟨⟨_, rfl, (by (repeat' first | exact rn_id CIF.h | exact rn_own rfl | exact rns_nil | refine rns_cons ?_ ?_ | refine rn_agg ?_ | exact rn_ptr rfl | exact rn_por rfl | exact rn_win rfl | refine rn_tup ?_ | exact rn_clo rfl | refine rn_bnd ?_))⟩, ?_⟩))) : Ent X l m l' m' := entR σ hn hk hs hm hl
structure ResL (lys : List Ly) (ly : Ly) : Prop where
  h : resL lys = ly
theorem resl_tup {l} (h : resL l = .tup l) : ResL l (.tup l) := ⟨h⟩
theorem resl_one {ly} : ResL [ly] ly := ⟨rfl⟩
theorem rf_nil {P} : ResF P l m [] [] := trivial
theorem rf_tmp {P t rs ly lys} (h : lk l t = some ly) (k : ResF P l m rs lys) : ResF P l m (.tmp t :: rs) (ly :: lys) := ⟨h, k⟩
theorem rf_cell {P t T rs ly lys id E} (h : lk l t = some (.own id)) (h2 : lk m id = some (.bx E ly)) (h3 : Shp P T ly.isN ly.sz) (k : ResF P l m rs lys) : ResF P l m (.cell t T :: rs) (ly :: lys) := ⟨⟨_, _, h, h2, h3⟩, k⟩
theorem rt {P : Program} {N : Nat} {w0 : World} {S0 γ0} {mi : List (Nat × Ct)} {R : Type} {res : R → Ly} {mo : R → List (Nat × Ct)} {fn : Func} {l : List (Nat × Ly)} {m : List (Nat × Ct)} {r : R} {rs lys lys' e} (σ : List (Nat × Nat))
    (hγ : ∀ id, lk mi id = none → γ0 id = none := by assumption) (he : e = .ret ∨ e = .normal := by first | exact .inl rfl | exact .inr rfl) (hr : fn.results = ⟨rs⟩ := by exact rfl) (hres : ResL lys' (res r) := by first | exact resl_tup rfl | exact resl_one)
    (hF : ResF P l m rs lys := by (repeat (first | exact rf_nil | (apply rf_tmp; exact rfl) | (apply rf_cell; exact rfl; exact rfl; exact CSh.h))))
    (hn : nodupB ((alv σ (mo r)).map (·.2)) = true := by exact rfl) (hk : autoParam (KpL σ mi) tH_._auto_1) (hs : autoParam (NmM (mo r) σ) tE_._auto_1)
    (hm : autoParam (RnM σ m (mo r)) tI_._auto_1) (hl : Rns σ lys lys' := by (repeat' first | exact rn_id CIF.h | exact rn_own rfl | exact rns_nil | refine rns_cons ?_ ?_ | refine rn_agg ?_ | exact rn_ptr rfl | exact rn_por rfl | exact rn_win rfl | refine rn_tup ?_ | exact rn_clo rfl | refine rn_bnd ?_)) :
    Sq ⟨P, N, w0, S0, Ow γ0 (lk mi), γ0, []⟩ l m (some r) (fun r => bodyPost P fn (RetP w0 S0 γ0 mi (res r) (mo r)) e) := ret σ rs lys lys' e hγ he hr hF hn hk hs hm hl hres.h
theorem fs {P : Program} {f N : Nat} {fn : Func} {c : Code} {args : List Ly} {mi : List (Nat × Ct)} {R : Type} {res : R → Ly} {mo : R → List (Nat × Ct)} {md : Option R}
    (hf : P.funcs[f]? = some fn) (h : ∀ w S0 γ, (∀ id, lk mi id = none → γ id = none) → Sq ⟨P, N, w, S0, Ow γ (lk mi), γ, []⟩ (argl 0 args) mi md (fun r => c.wp P (bodyPost P fn (RetP w S0 γ mi (res r) (mo r)))))
    (hb : fn.body = some c := by exact rfl) (hN : fn.ntmps = N := by exact rfl) (hname : (fn.name == "runtime.NumGoroutine") = false := by kernel_rfl) (hl : Nat.ble args.length N = true := by exact rfl) :
    ∀ r, md = some r → FnOk P f args mi (res r) (mo r) := fn_of_sq hf hb hN hname hl h
theorem tK_ {p : Prop} (h : p := by (repeat (first | exact rfl | refine ⟨_, _, _, tA_, (by exact rfl), (by exact rfl), (by exact rfl), Nat.eq_of_beq_eq_true (by exact rfl), ?_⟩))) : p := h
theorem tO_ {p : Prop} (h : p := by (repeat (first | exact rfl | refine ⟨_, _, _, tA_, (by exact rfl), (by exact rfl), (by exact rfl), (by exact rfl), (by exact rfl), ?_⟩))) : p := h
theorem tL_ {p : Prop} (h : p := by (repeat (first | exact trivial | refine ⟨(by exact rfl), tA_, (by exact rfl), (by exact rfl), ?_⟩))) : p := h
section
variable {X : Cx} {st : Nat → Option Ly} {mm : Nat → Option Ct} {ty : TypeId} {pos : String} {af : Array Edge}
theorem mB (l : List Ly) {d T parts pl lz} (hd : Nat.blt d X.N = true := by exact rfl) (hT : Plc X.P T pl := by exact CPl.h) (h : ∃ k b z, TyI X.P T k b z ∧ Zr lz z.cells.toList := by exact CZy.h) (hp : autoParam (BPart st pl parts lz (.agg l)) tK_._auto_1) : OpS X st mm ⟨some d, .build T ⟨parts⟩, ty, pos, af, none⟩ [(d, .agg l)] [] := by
  obtain ⟨k, b, z, h1, h2⟩ := h
  exact ⟨bld hT h1 h2 hp hd⟩
theorem mAr (l : List Ly) {d T n E parts k b z lz} (hd : Nat.blt d X.N = true := by exact rfl) (hT : X.P.underlying T = some (.array n E) := by exact CUn.h) (h : ∃ k b z, TyI X.P T k b z ∧ Zr lz z.cells.toList := by exact CZy.h) (hE : TyI X.P E k b z := by exact CTy.h) (hle : (parts.all fun p => Nat.blt p.1 n) = true := by exact rfl) (hp : autoParam (APart st k parts lz (.agg l)) tO_._auto_1) : OpS X st mm ⟨some d, .build T ⟨parts⟩, ty, pos, af, none⟩ [(d, .agg l)] [] := by
  obtain ⟨k, b, z, h1, h2⟩ := h
  exact ⟨bldA hT h1 hE h2 hle hp hd⟩
theorem mS (y : Nat) (ls : List Ly) {d T len parts E k b z} (hd : Nat.blt d X.N = true := by exact rfl) (hy : autoParam (mm y = none) tB_._auto_1) (hT : X.P.underlying T = some (.slice E) := by exact CUn.h) (hE : TyI X.P E k b z := by exact CTy.h) (hz : z.cells.size = k := by exact rfl) (hlen : parts.length = len := by exact rfl) (hll : ls.length = len := by exact rfl) (hle : Nat.ble (len * k) 16777216 = true := by exact rfl) (hk0 : Nat.blt 0 k = true := by exact rfl) (hp : autoParam (Parts st k 0 parts ls) tL_._auto_1) :
    OpS X st mm ⟨some d, .buildSlice T len ⟨parts⟩, ty, pos, af, none⟩ [(d, .own y)] [(y, .sl E k ls)] := ⟨bsl hT hE hz hlen hll hle hk0 hp hy hd⟩
end
section
variable {R : Type} {X : Cx} {l : List (Nat × Ly)} {m : List (Nat × Ct)} {md : Option R} {Q : R → Exit → Act → World → Prop} {G : R → Act → World → Prop} {a : Prop}
theorem zb {α : Type} {x : Option α} {f : α → Option R} (n : List Nat) (k : ∀ y, x = some y → Sq X l m (f y) G) (h : autoParam (Hold (Sq X l m (x.bind f) G) → Cnt n a) z._auto_1) : a := (h ⟨b k⟩).h
theorem zc {b : Bool} {c : Operand} {x y : Code} {m1 m2 : Option R} (n : List Nat) (h : autoParam (Hold (Sq X l m (bif b then m1 else m2) (fun r => (Code.cond c x y).wp X.P (Q r))) → Cnt n a) z._auto_1)
    (hc : OpdF (lk l) c (bl b) := by exact rfl) (h1 : Sq X l m m1 (fun r => x.wp X.P (Q r))) (h2 : Sq X l m m2 (fun r => y.wp X.P (Q r))) : a := (h ⟨scond hc h1 h2⟩).h
theorem zi {b : Bool} {m1 m2 : Option R} (n : List Nat) (d : Nat) (h : autoParam (Hold (Sq X l m (bif b then m1 else m2) G) → Cnt n a) z._auto_1) (hd : lk l d = some (bl b) := by exact rfl)
    (h1 : Sq X ((d, bl true) :: l) m m1 G) (h2 : Sq X ((d, bl false) :: l) m m2 G) : a := (h ⟨sifd d hd h1 h2⟩).h
theorem zk {α : Type} {md1 : Option α} {k : α → Option R} {P : Program} {d f args argTypes ty pos af largs} {res : α → Ly} {ops : Array Oper} {rest : List Oper} (n : List Nat) (c : ∀ r, md1 = some r → FnOk P f largs [] (res r) [])
    (h : ∀ r, Sq X ((d, res r) :: l) m (k r) (fun r => wpList X.P ops (Q r) rest))
    (hz : autoParam (Hold (Sq X l m (md1.bind k) (fun r => wpList X.P ops (Q r) (⟨some d, .call { callee := .value (.func f), args := ⟨args⟩, argTypes := argTypes }, ty, pos, af, none⟩ :: rest))) → Cnt n a) z._auto_1)
    (hP : P = X.P := by exact rfl) (hd : Nat.blt d X.N = true := by exact rfl) (ha : autoParam (ArgF (lk l) [] args largs) tG_._auto_1) (hres : ∀ r, IF (res r) := by intro r; exact CIF.h) : a := by
  subst hP; exact (hz ⟨cb (ca c hd ha hres) h⟩).h
theorem zj {σ : Type} {L : σ → List (Nat × Ly)} {j : σ → Option R} {s : σ} (n : List Nat) (k : ∀ s, Sq X (L s) [] (j s) G) (hz : autoParam (Hold (Sq X l [] (j s) G) → Cnt n a) z._auto_1) (h : autoParam (SubL (L s) l) tH_._auto_1) : a := (hz ⟨sj (k s) (eI h)⟩).h
theorem zJ {σ' : Type} {L : σ' → List (Nat × Ly)} {M : σ' → List (Nat × Ct)} {j : σ' → Option R} {s : σ'} (n : List Nat) (k : ∀ s, Sq X (L s) (M s) (j s) G) (σ : List (Nat × Nat) := dI (kz (M s))) (hz : autoParam (Hold (Sq X l m (j s) G) → Cnt n a) z._auto_1)
    (hn : nodupB ((alv σ (M s)).map (·.2)) = true := by exact rfl) (hk : autoParam (KeepS σ X.g0) eR._auto_2) (hs : autoParam (NmM (M s) σ) tE_._auto_1) (hm : autoParam (RnM σ m (M s)) tI_._auto_1) (hl : autoParam (RnL σ l (L s)) eR._auto_3) : a := (hz ⟨sj (k s) (eR σ hn hk hs hm hl)⟩).h
theorem zg {σ τ : Type} {L : σ → List (Nat × Ly)} {k : τ → Option R} {s : σ} (n : List Nat) (hz : autoParam (Hold (Sq X l [] (some (Lp.go s)) (fun o => LpQ X L (fun _ => []) k Q o .normal)) → Cnt n a) z._auto_1) (h : autoParam (SubL (L s) l) tH_._auto_1) : a := (hz ⟨sgo (eI h)⟩).h
theorem zG {σ' τ : Type} {L : σ' → List (Nat × Ly)} {M : σ' → List (Nat × Ct)} {k : τ → Option R} {s : σ'} (n : List Nat) (σ : List (Nat × Nat) := dI (kz (M s))) (hz : autoParam (Hold (Sq X l m (some (Lp.go s)) (fun o => LpQ X L M k Q o .normal)) → Cnt n a) z._auto_1)
    (hn : nodupB ((alv σ (M s)).map (·.2)) = true := by exact rfl) (hk : autoParam (KeepS σ X.g0) eR._auto_2) (hs : autoParam (NmM (M s) σ) tE_._auto_1) (hm : autoParam (RnM σ m (M s)) tI_._auto_1) (hl : autoParam (RnL σ l (L s)) eR._auto_3) : a := (hz ⟨sgo (eR σ hn hk hs hm hl)⟩).h
theorem zr {P : Program} {N : Nat} {w0 : World} {S0 γ0} {mi : List (Nat × Ct)} {res : R → Ly} {mo : R → List (Nat × Ct)} {fn : Func} {r : R} {rs lys lys' e} (n : List Nat) (σ : List (Nat × Nat) := [])
    (hz : autoParam (Hold (Sq ⟨P, N, w0, S0, Ow γ0 (lk mi), γ0, []⟩ l m (some r) (fun r => bodyPost P fn (RetP w0 S0 γ0 mi (res r) (mo r)) e)) → Cnt n a) z._auto_1)
    (hγ : ∀ id, lk mi id = none → γ0 id = none := by assumption) (he : e = .ret ∨ e = .normal := by first | exact .inl rfl | exact .inr rfl) (hr : fn.results = ⟨rs⟩ := by exact rfl) (hres : ResL lys' (res r) := by first | exact resl_tup rfl | exact resl_one)
    (hF : autoParam (ResF P l m rs lys) rt._auto_5) (hn : nodupB ((alv σ (mo r)).map (·.2)) = true := by exact rfl) (hk : autoParam (KpL σ mi) tH_._auto_1) (hs : autoParam (NmM (mo r) σ) tE_._auto_1)
    (hm : autoParam (RnM σ m (mo r)) tI_._auto_1) (hl : autoParam (Rns σ lys lys') rt._auto_7) : a := (hz ⟨rt σ hγ he hr hres hF hn hk hs hm hl⟩).h
end
/-! freezing -/
structure FzLs (id k : Nat) (ls : List Ly) (l : List (Nat × Ly)) (ds : List Nat) (l1 : List (Nat × Ly)) : Prop where
  h : FzL id k ls l l1
structure FzMs (id k : Nat) (ls : List Ly) (m : List (Nat × Ct)) (ds : List Nat) (m1 : List (Nat × Ct)) : Prop where
  h : FzM id k ls m m1
theorem fl_nil {id k ls l} : FzLs id k ls l [] [] := ⟨trivial⟩
theorem fl_cons {id k ls l d ds l1 ly ly'} (h : lk l d = some ly) (h2 : FzR id k ls ly ly') (h3 : FzLs id k ls l ds l1) : FzLs id k ls l (d :: ds) ((d, ly') :: l1) := ⟨⟨_, h, h2⟩, h3.h⟩
theorem fm_nil {id k ls m} : FzMs id k ls m [] [] := ⟨trivial⟩
theorem fm_cons {id k ls m d ds m1 E ly ly'} (hb : Nat.beq id d = false) (h : lk m d = some (.bx E ly)) (h2 : FzR id k ls ly ly') (h3 : FzMs id k ls m ds m1) : FzMs id k ls m (d :: ds) ((d, .bx E ly') :: m1) := ⟨⟨hb, _, h, h2⟩, h3.h⟩
theorem fz_idp {id k ls ly} (_ : IF ly) : FzR id k ls ly ly := fz_id
theorem fz (id : Nat) (ds is : List Nat) {E k ls l1 m1} (K : Sq X (l1 ++ l) (m1 ++ (id, .gone) :: m) md G) (hm : lk m id = some (.sl E k ls) := by exact rfl) (hif : IFs ls := by exact CIFs.h)
    (hl1 : FzLs id k ls l ds l1 := by (repeat (first | exact fl_nil | (apply fl_cons; exact rfl; exact by (repeat' first | exact fz_own | exact fz_idp CIF.h | exact fzs_nil | apply fzs_cons | apply fz_agg | exact fz_id))))) (hm1 : FzMs id k ls m is m1 := by (repeat (first | exact fm_nil | (apply fm_cons; exact rfl; exact rfl; exact by (repeat' first | exact fz_own | exact fz_idp CIF.h | exact fzs_nil | apply fzs_cons | apply fz_agg | exact fz_id))))) : Sq X l m md G := frz l1 m1 hm hif hl1.h hm1.h K
/-! regions in an open order -/
theorem fin_app {α : Type} : ∀ (a : List (List (Nat × α))) (e l), fin (a ++ [e]) l = e ++ fin a l
  | [], _, _ => rfl
  | x :: a, e, l => fin_app a e (x ++ l)
theorem steps_app {ops : Array Oper} : ∀ {ls : List Oper} {ds : List D} {l m o os d}, Steps' X ops l m ls ds → (∀ st mm, Ag st (lk (fin (ds.map (·.el)) l)) d.rs → Ag mm (lk (fin (ds.map (·.em)) m)) d.ri → OpG X ops st mm o d.el d.em) → os = ls ++ [o] → Steps' X ops l m os (ds ++ [d])
  | [], [], l, m, o, os, d, _, h, e => by subst e; exact ⟨h, trivial⟩
  | o' :: ls, d' :: ds, l, m, o, os, d, hs, h, e => by subst e; exact ⟨hs.1, steps_app hs.2 h rfl⟩
  | [], _ :: _, _, _, _, _, _, h, _, _ => by simp [Steps'] at h
  | _ :: _, [], _, _, _, _, _, h, _, _ => by simp [Steps'] at h
/-- A region in an open order, of which some is done. -/
def SqD (X : Cx) (Wp : R → Act → World → Prop) (ls0 : List Oper) (l0 : List (Nat × Ly)) (m0 : List (Nat × Ct)) (md : Option R) (_ : R → Exit → Act → World → Prop) (ds : List D) (l : List (Nat × Ly)) (m : List (Nat × Ct)) (ls : List Oper) : Prop :=
  ∀ pre, ls0 = pre ++ ls → Steps' X ⟨ls0⟩ l0 m0 pre ds → fin (ds.map (·.el)) l0 = l → fin (ds.map (·.em)) m0 = m → Sq X l0 m0 md Wp
theorem sd {id : Nat} {ls : List Oper} (h : SqD X (fun r => (Code.region id ⟨ls⟩ true).wp X.P (Q r)) ls l m md Q [] l m ls) : Sq X l m md (fun r => (Code.region id ⟨ls⟩ true).wp X.P (Q r)) := h [] rfl trivial rfl rfl
theorem de {id : Nat} {ls0 l0 m0 ds} (hf : X.P.follows .mixedOrders = true) (k : Sq X l m md (fun r => Q r .normal)) (hD : drawOk ls0 ds 0 [] [] = true := by kernel_rfl) : SqD X (fun r => (Code.region id ⟨ls0⟩ true).wp X.P (Q r)) ls0 l0 m0 md Q ds l m [] := by
  intro pre e hs hl hm
  simp at e; subst e
  intro r a w γ hr hi
  refine wp_region_any hf (sdrawA ds hD hs ?_ r a w γ hr hi)
  rw [hl, hm]; exact k
theorem dx {Wp ls0 l0 m0 ds o os} (rs ri : List Nat) {el em} (h : ∀ st mm, Ag st (lk l) rs → Ag mm (lk m) ri → OpG X ⟨ls0⟩ st mm o el em) (k : SqD X Wp ls0 l0 m0 md Q (ds ++ [⟨rs, ri, el, em⟩]) (el ++ l) (em ++ m) os) : SqD X Wp ls0 l0 m0 md Q ds l m (o :: os) := by
  intro pre e hs hl hm
  refine k (pre ++ [o]) (by simp [e]) (steps_app hs (by simpa only [hl, hm] using h) rfl) ?_ ?_
  · rw [List.map_append]; exact (fin_app _ _ _).trans (by rw [hl])
  · rw [List.map_append]; exact (fin_app _ _ _).trans (by rw [hm])
def tmps : List Operand → List Nat
  | [] => []
  | .tmp t :: r => t :: tmps r
  | _ :: r => tmps r
/-- The slots that an operation reads. -/
def opRs (ls : Array Oper) (o : Oper) : List Nat := (match o.guard with
  | some (j, _) => match (ls[j]?).bind (·.dst) with
    | some d => [d]
    | none => []
  | none => []) ++ tmps o.op.operands.toList
theorem dd {Wp ls0 l0 m0 ds os d op ty pos after} (ri : List Nat) {el em} (h : ∀ st mm, Ag st (lk l) (opRs ⟨ls0⟩ ⟨d, op, ty, pos, after, none⟩) → Ag mm (lk m) ri → OpS X st mm ⟨d, op, ty, pos, after, none⟩ el em)
    (k : SqD X Wp ls0 l0 m0 md Q (ds ++ [⟨opRs ⟨ls0⟩ ⟨d, op, ty, pos, after, none⟩, ri, el, em⟩]) (el ++ l) (em ++ m) os) : SqD X Wp ls0 l0 m0 md Q ds l m (⟨d, op, ty, pos, after, none⟩ :: os) := dx _ ri (fun st mm h1 h2 => og (h st mm h1 h2).h) k
theorem dG {Wp ls0 l0 m0 ds os d op ty pos after j b dj} (ri : List Nat) {el em} (h : ∀ st mm, Ag st (lk l) (opRs ⟨ls0⟩ ⟨d, op, ty, pos, after, some (j, b)⟩) → Ag mm (lk m) ri → OpS X st mm ⟨d, op, ty, pos, after, none⟩ el em)
    (k : SqD X Wp ls0 l0 m0 md Q (ds ++ [⟨opRs ⟨ls0⟩ ⟨d, op, ty, pos, after, some (j, b)⟩, ri, el, em⟩]) (el ++ l) (em ++ m) os) (hj : (((⟨ls0⟩ : Array Oper)[j]?).bind (·.dst)) = some dj := by exact rfl) (hv : lk l dj = some (bl b) := by exact rfl) (hr : anyB (opRs ⟨ls0⟩ ⟨d, op, ty, pos, after, some (j, b)⟩) dj = true := by exact rfl) : SqD X Wp ls0 l0 m0 md Q ds l m (⟨d, op, ty, pos, after, some (j, b)⟩ :: os) := dx _ ri (fun st mm h1 h2 => ogG dj hj ((h1.get hr).trans hv) (h st mm h1 h2).h) k
/-- So many steps in an open order are to be taken, which read these. -/
structure CntD (n : List (List Nat)) (p : Prop) : Prop where
  h : p
theorem qd_o {Wp ls0 l0 m0 ds os d op ty pos after ri rr} {el em} (h : ∀ st mm, Ag st (lk l) (opRs ⟨ls0⟩ ⟨d, op, ty, pos, after, none⟩) → Ag mm (lk m) ri → OpS X st mm ⟨d, op, ty, pos, after, none⟩ el em)
    (k : CntD rr (SqD X Wp ls0 l0 m0 md Q (ds ++ [⟨opRs ⟨ls0⟩ ⟨d, op, ty, pos, after, none⟩, ri, el, em⟩]) (el ++ l) (em ++ m) os)) : CntD (ri :: rr) (SqD X Wp ls0 l0 m0 md Q ds l m (⟨d, op, ty, pos, after, none⟩ :: os)) := ⟨dd ri h k.h⟩
theorem qd_g {Wp ls0 l0 m0 ds os d op ty pos after j b dj ri rr} {el em} (hj : (((⟨ls0⟩ : Array Oper)[j]?).bind (·.dst)) = some dj) (hv : lk l dj = some (bl b)) (hr : anyB (opRs ⟨ls0⟩ ⟨d, op, ty, pos, after, some (j, b)⟩) dj = true) (h : ∀ st mm, Ag st (lk l) (opRs ⟨ls0⟩ ⟨d, op, ty, pos, after, some (j, b)⟩) → Ag mm (lk m) ri → OpS X st mm ⟨d, op, ty, pos, after, none⟩ el em)
    (k : CntD rr (SqD X Wp ls0 l0 m0 md Q (ds ++ [⟨opRs ⟨ls0⟩ ⟨d, op, ty, pos, after, some (j, b)⟩, ri, el, em⟩]) (el ++ l) (em ++ m) os)) : CntD (ri :: rr) (SqD X Wp ls0 l0 m0 md Q ds l m (⟨d, op, ty, pos, after, some (j, b)⟩ :: os)) := ⟨dG ri h k.h hj hv hr⟩
theorem qd_B {Wp ls0 l0 m0 ds os d op ty pos after j b b' dj ri rr} (hj : (((⟨ls0⟩ : Array Oper)[j]?).bind (·.dst)) = some dj) (hv : lk l dj = some (bl b')) (hb : b' = !b) (hr : anyB (opRs ⟨ls0⟩ ⟨some d, op, ty, pos, after, some (j, b)⟩) dj = true) (hd : Nat.blt d X.N = true)
    (k : CntD rr (SqD X Wp ls0 l0 m0 md Q (ds ++ [⟨opRs ⟨ls0⟩ ⟨some d, op, ty, pos, after, some (j, b)⟩, ri, [(d, .tup [])], []⟩]) ((d, .tup []) :: l) m os)) : CntD (ri :: rr) (SqD X Wp ls0 l0 m0 md Q ds l m (⟨some d, op, ty, pos, after, some (j, b)⟩ :: os)) := ⟨dx _ ri (fun _ _ h1 _ => ogB dj hj ((h1.get hr).trans (hb ▸ hv)) hd) k.h⟩
theorem qd_U {Wp ls0 l0 m0 ds os d op ty pos after j b dj ri rr} (hj : (((⟨ls0⟩ : Array Oper)[j]?).bind (·.dst)) = some dj) (hv : lk l dj = some (.tup [])) (hr : anyB (opRs ⟨ls0⟩ ⟨some d, op, ty, pos, after, some (j, b)⟩) dj = true) (hd : Nat.blt d X.N = true)
    (k : CntD rr (SqD X Wp ls0 l0 m0 md Q (ds ++ [⟨opRs ⟨ls0⟩ ⟨some d, op, ty, pos, after, some (j, b)⟩, ri, [(d, .tup [])], []⟩]) ((d, .tup []) :: l) m os)) : CntD (ri :: rr) (SqD X Wp ls0 l0 m0 md Q ds l m (⟨some d, op, ty, pos, after, some (j, b)⟩ :: os)) := ⟨dx _ ri (fun _ _ h1 _ => ogU dj hj ((h1.get hr).trans hv) hd) k.h⟩
theorem cntD0 {p : Prop} (h : p) : CntD [] p := ⟨h⟩
theorem zd {a b : Prop} (n : List (List Nat)) (h : Hold b → CntD n a := by
    intro kk
    repeat (first
      | refine qd_o (fun _ _ _ _ => ops) ?_
      | refine qd_g rfl rfl rfl (fun _ _ _ _ => ops) ?_ | refine qd_B rfl rfl rfl rfl rfl ?_ | refine qd_U rfl rfl rfl rfl ?_)
    exact cntD0 kk.h) (k : b) : a := (h ⟨k⟩).h
theorem obk {st mm o d b c em} (hb : b = c) (h : OpS X st mm o [(d, bl b)] em) : OpS X st mm o [(d, bl c)] em := ⟨okb hb h.h⟩
theorem of {st mm o el em} (h : OpOk X st mm o el em) : OpS X st mm o el em := ⟨h⟩
theorem tV {st mm o d y E k ls em} (h : OpS X st mm o [(d, .own y)] ((y, .sl E k ls) :: em)) (hif : IFs ls := by exact CIFs.h) : OpS X st mm o [(d, sli k ls)] ((y, .gone) :: em) := ⟨toV h.h hif⟩
class CFo (P : Program) : Prop where h : P.follows .mixedOrders = true
/-- A region in an open order from its beginning, and to its end. -/
theorem zs {a : Prop} {id : Nat} {ls : List Oper} (n : List (List Nat)) (k : a) (h : autoParam (Hold a → CntD n (SqD X (fun r => (Code.region id ⟨ls⟩ true).wp X.P (Q r)) ls l m md Q [] l m ls)) zd._auto_1) : Sq X l m md (fun r => (Code.region id ⟨ls⟩ true).wp X.P (Q r)) := sd (h ⟨k⟩).h
theorem zx {id : Nat} {ls : List Oper} {ds l' m'} (n : List (List Nat)) (k : Sq X l' m' md (fun r => Q r .normal)) (h : autoParam (Hold (SqD X (fun r => (Code.region id ⟨ls⟩ true).wp X.P (Q r)) ls l m md Q ds l' m' []) → CntD n (SqD X (fun r => (Code.region id ⟨ls⟩ true).wp X.P (Q r)) ls l m md Q [] l m ls)) zd._auto_1)
    (hf : X.P.follows .mixedOrders = true := by exact CFo.h) (hD : drawOk ls ds 0 [] [] = true := by kernel_rfl) : Sq X l m md (fun r => (Code.region id ⟨ls⟩ true).wp X.P (Q r)) := sd (h ⟨de hf k hD⟩).h
theorem zy {a : Prop} {id : Nat} {ls0 : List Oper} {l0 m0 ds} (n : List (List Nat)) (h : autoParam (Hold (SqD X (fun r => (Code.region id ⟨ls0⟩ true).wp X.P (Q r)) ls0 l0 m0 md Q ds l m []) → CntD n a) zd._auto_1)
    (hf : X.P.follows .mixedOrders = true := by exact CFo.h) (hD : drawOk ls0 ds 0 [] [] = true := by kernel_rfl) (k : Sq X l m md (fun r => Q r .normal)) : a := (h ⟨de hf k hD⟩).h
theorem dE {id : Nat} {ls0 : List Oper} {l0 m0 ds} (k : Sq X l m md (fun r => Q r .normal)) (hf : X.P.follows .mixedOrders = true := by exact CFo.h) (hD : drawOk ls0 ds 0 [] [] = true := by kernel_rfl) : SqD X (fun r => (Code.region id ⟨ls0⟩ true).wp X.P (Q r)) ls0 l0 m0 md Q ds l m [] := de hf k hD
theorem tM_ {p : Prop} (h : p := by intro _ _ _ _; exact tG_) : p := h
theorem dC {P : Program} {Wp ls0 l0 m0 ds os d f args argTypes ty pos after largs res} (hf : FnOk P f largs [] res [])
    (k : SqD X Wp ls0 l0 m0 md Q (ds ++ [⟨opRs ⟨ls0⟩ ⟨some d, .call { callee := .value (.func f), args := ⟨args⟩, argTypes := argTypes }, ty, pos, after, none⟩, [], [(d, res)], []⟩]) ((d, res) :: l) m os) (hP : P = X.P := by exact rfl) (hd : Nat.blt d X.N = true := by exact rfl)
    (ha : autoParam (∀ (st : Nat → Option Ly) (mm : Nat → Option Ct), Ag st (lk l) (opRs ⟨ls0⟩ ⟨some d, .call { callee := .value (.func f), args := ⟨args⟩, argTypes := argTypes }, ty, pos, after, none⟩) → Ag mm (lk m) [] → ArgF st [] args largs) tM_._auto_1) (hres : IF res := by exact CIF.h) :
    SqD X Wp ls0 l0 m0 md Q ds l m (⟨some d, .call { callee := .value (.func f), args := ⟨args⟩, argTypes := argTypes }, ty, pos, after, none⟩ :: os) := by
  subst hP; exact dd [] (fun st mm h1 h2 => c0 hf hd (ha st mm h1 h2) hres) k
theorem dO {Wp ls0 l0 m0 ds os d d' op ty pos after b c em} (hb : b = c)
    (k : SqD X Wp ls0 l0 m0 md Q (ds ++ [⟨opRs ⟨ls0⟩ ⟨d, op, ty, pos, after, none⟩, [], [(d', bl c)], em⟩]) ((d', bl c) :: l) (em ++ m) os) (h : ∀ st mm, Ag st (lk l) (opRs ⟨ls0⟩ ⟨d, op, ty, pos, after, none⟩) → Ag mm (lk m) [] → OpS X st mm ⟨d, op, ty, pos, after, none⟩ [(d', bl b)] em := by intro _ _ _ _; exact ops) :
    SqD X Wp ls0 l0 m0 md Q ds l m (⟨d, op, ty, pos, after, none⟩ :: os) := dd [] (fun st mm h1 h2 => obk hb (h st mm h1 h2)) k
/-! loops -/
structure RgE {σ : Type} (X : Cx) (l : List (Nat × Ly)) (m : List (Nat × Ct)) (tc ti tn t2 n : Nat) (L : σ → List (Nat × Ly)) (M : σ → List (Nat × Ct)) (s0 : σ) : Prop where
  h0 : Ent X l m ((ti, i64 (0 : Nat)) :: (tn, i64 n) :: L s0) (M s0)
  hd : (Nat.blt tc X.N && Nat.blt ti X.N && Nat.blt t2 X.N && !(Nat.beq tc ti) && !(Nat.beq tc tn) && !(Nat.beq ti tn) && !(Nat.beq t2 tn) && !(Nat.beq t2 ti)) = true
  hk : ∀ s, (nkey tc (L s) && nkey ti (L s) && nkey t2 (L s) && nkey tn (L s)) = true
theorem rE {σ : Type} {tc ti tn t2 n : Nat} {L : σ → List (Nat × Ly)} {M : σ → List (Nat × Ct)} {s0 : σ} (h0 : Ent X l m ((ti, i64 (0 : Nat)) :: (tn, i64 n) :: L s0) (M s0))
    (hd : (Nat.blt tc X.N && Nat.blt ti X.N && Nat.blt t2 X.N && !(Nat.beq tc ti) && !(Nat.beq tc tn) && !(Nat.beq ti tn) && !(Nat.beq t2 tn) && !(Nat.beq t2 ti)) = true := by exact rfl)
    (hk : ∀ s, (nkey tc (L s) && nkey ti (L s) && nkey t2 (L s) && nkey tn (L s)) = true := by intro s; exact rfl) : RgE X l m tc ti tn t2 n L M s0 := ⟨h0, hd, hk⟩
theorem srN {α σ : Type} {f : Nat → α → σ → Option (Lp σ R)} {xs : List α} {s0 : σ} {k : σ → Option R}
    {id1 id2 e tc ti tn t2 T1 T2 T3 T4 ty1 ty2 ty3 : Nat} {p1 p2 p3 : String} {f1 f2 f3 : Array Edge} {B : Code}
    (L : σ → List (Nat × Ly)) (M : σ → List (Nat × Ct)) (h0 : RgE X l m tc ti tn t2 xs.length L M s0)
    (hb : ∀ (i : Nat) x s, xs[i]? = some x → Sq X ((ti, i64 i) :: (tn, i64 xs.length) :: L s) (M s) (f i x s)
      (fun o => B.wp X.P (LpQ X (fun s => (ti, i64 i) :: (tn, i64 xs.length) :: L s) M (fun t => lpK k (.out t)) Q o)))
    (hJ : ∀ s, Sq X (L s) (M s) (k s) (fun r => Q r (.exit e))) :
    Sq X l m ((rangeL f xs 0 s0).bind (lpK k)) (fun r => (Code.loop (.seq (.region id1 ⟨[⟨some tc, .binOp .lss T1 (.tmp ti) (.tmp tn) T2, ty1, p1, f1, none⟩]⟩ false)
      (.seq (.cond (.tmp tc) .skip (.exit e)) (.seq B (.region id2 ⟨[⟨some t2, .binOp .add T3 (.tmp ti) (.const (.int .i64 1)) T4, ty2, p2, f2, none⟩, ⟨some ti, .move (.tmp t2), ty3, p3, f3, none⟩]⟩ false))))).wp X.P (Q r)) := srangeN L M h0.hd h0.hk h0.h0 hb hJ
theorem srB {α σ : Type} {f : Nat → α → σ → Option (Lp σ (Lp σ R))} {xs : List α} {s0 : σ} {k : σ → Option R}
    {id1 id2 e tc ti tn t2 T1 T2 T3 T4 ty1 ty2 ty3 : Nat} {p1 p2 p3 : String} {f1 f2 f3 : Array Edge} {B : Code}
    (L : σ → List (Nat × Ly)) (M : σ → List (Nat × Ct)) (h0 : RgE X l m tc ti tn t2 xs.length L M s0)
    (hb : (∀ s, Sq X (L s) (M s) (k s) (fun r => Q r (.exit e))) → ∀ (i : Nat) x s, xs[i]? = some x → Sq X ((ti, i64 i) :: (tn, i64 xs.length) :: L s) (M s) (f i x s)
      (fun o => B.wp X.P (LpQ X (fun s => (ti, i64 i) :: (tn, i64 xs.length) :: L s) M (fun t => rgJ k (.out t)) Q o)))
    (hJ : ∀ s, Sq X (L s) (M s) (k s) (fun r => Q r (.exit e))) :
    Sq X l m ((rangeL f xs 0 s0).bind (rgJ k)) (fun r => (Code.loop (.seq (.region id1 ⟨[⟨some tc, .binOp .lss T1 (.tmp ti) (.tmp tn) T2, ty1, p1, f1, none⟩]⟩ false)
      (.seq (.cond (.tmp tc) .skip (.exit e)) (.seq B (.region id2 ⟨[⟨some t2, .binOp .add T3 (.tmp ti) (.const (.int .i64 1)) T4, ty2, p2, f2, none⟩, ⟨some ti, .move (.tmp t2), ty3, p3, f3, none⟩]⟩ false))))).wp X.P (Q r)) := srangeB L M h0.hd h0.hk h0.h0 hb hJ
theorem su {σ τ : Type} {L : σ → List (Nat × Ly)} {M : σ → List (Nat × Ct)} {k : τ → Option R} {t : τ} {i : Nat} (h : Sq X l m (k t) (fun r => Q r (.exit i))) :
    Sq X l m (some (Lp.out t)) (fun (o : Lp σ τ) => LpQ X L M k Q o (.exit i)) := sout (fun h => by cases h) h
theorem sU {σ τ : Type} {L : σ → List (Nat × Ly)} {M : σ → List (Nat × Ct)} {k : τ → Option R} {t : τ} (h : Sq X l m (k t) (fun r => Q r .ret)) :
    Sq X l m (some (Lp.out t)) (fun (o : Lp σ τ) => LpQ X L M k Q o .ret) := sout (fun h => by cases h) h
end

/-! joins and loops that name only what turns -/
structure KpE {α : Type} (l : List (Nat × α)) (ks : List Nat) (l1 : List (Nat × α)) : Prop where h : True
theorem kp_nil {α : Type} {l : List (Nat × α)} : KpE l [] [] := ⟨trivial⟩
theorem kp_cons {α : Type} {l : List (Nat × α)} {k ks v l1} (_ : lk l k = some v) (_ : KpE l ks l1) : KpE l (k :: ks) ((k, v) :: l1) := ⟨trivial⟩
theorem tN_ {p : Prop} (h : p := by (repeat (first | exact kp_nil | (apply kp_cons; exact rfl)))) : p := h
section
variable {R : Type} {X : Cx} {l : List (Nat × Ly)} {m : List (Nat × Ct)} {md : Option R} {Q : R → Exit → Act → World → Prop} {G : R → Act → World → Prop}
theorem zq {σ : Type} {x y : Code} {A : (σ → Option R) → Option R} {k : σ → Option R} {l1 m1} (ks km : List Nat) (L : σ → List (Nat × Ly)) (M : σ → List (Nat × Ct))
    (h : ∀ j : σ → Option R, (∀ s, Sq X (L s ++ l1) (M s ++ m1) (j s) (fun r => y.wp X.P (Q r))) → Sq X l m (A j) (fun r => x.wp X.P (Exit.then (y.wp X.P (Q r)) (Q r))))
    (J : ∀ s, Sq X (L s ++ l1) (M s ++ m1) (k s) (fun r => y.wp X.P (Q r)))
    (hl : autoParam (KpE l ks l1) tN_._auto_1) (hm : autoParam (KpE m km m1) tN_._auto_1) : Sq X l m (jn A k) (fun r => (Code.seq x y).wp X.P (Q r)) := sjq (fun s => L s ++ l1) (fun s => M s ++ m1) h J
theorem yE {σ τ τ0 : Type} {body : Code} {f : σ → Option (Lp σ τ)} {N : Nat} {s0 : σ} {k : τ → Option R} {l1 lo} (e : Nat) (inj : τ0 → τ) (ks ko : List Nat) (L : σ → List (Nat × Ly)) (Lo : τ0 → List (Nat × Ly))
    (hb : (∀ t, Sq X (Lo t ++ lo) [] (k (inj t)) (fun r => Q r (.exit e))) → ∀ s, Sq X (L s ++ l1) [] (f s) (fun o => body.wp X.P (LpQ X (fun s => L s ++ l1) (fun _ => []) k Q o)))
    (hJ : ∀ t, Sq X (Lo t ++ lo) [] (k (inj t)) (fun r => Q r (.exit e)))
    (hl : autoParam (KpE l ks l1) tN_._auto_1) (ho : autoParam (KpE l ko lo) tN_._auto_1) (h0 : autoParam (SubL (L s0 ++ l1) l) tH_._auto_1) : Sq X l [] ((loopM f N s0).bind k) (fun r => (Code.loop body).wp X.P (Q r)) :=
  (sloopE e inj (fun s => L s ++ l1) (fun _ => []) (fun t => Lo t ++ lo) (fun _ => []) (eI h0) hb hJ)
theorem yR {σ' τ τ0 : Type} {body : Code} {f : σ' → Option (Lp σ' τ)} {N : Nat} {s0 : σ'} {k : τ → Option R} {l1 m1 lo mo} (e : Nat) (inj : τ0 → τ) (ks km ko kn : List Nat) (L : σ' → List (Nat × Ly)) (M : σ' → List (Nat × Ct)) (Lo : τ0 → List (Nat × Ly)) (Mo : τ0 → List (Nat × Ct))
    (hb : (∀ t, Sq X (Lo t ++ lo) (Mo t ++ mo) (k (inj t)) (fun r => Q r (.exit e))) → ∀ s, Sq X (L s ++ l1) (M s ++ m1) (f s) (fun o => body.wp X.P (LpQ X (fun s => L s ++ l1) (fun s => M s ++ m1) k Q o)))
    (hJ : ∀ t, Sq X (Lo t ++ lo) (Mo t ++ mo) (k (inj t)) (fun r => Q r (.exit e))) (σ : List (Nat × Nat) := dI (kz (M s0 ++ m1)))
    (hl : autoParam (KpE l ks l1) tN_._auto_1) (hm' : autoParam (KpE m km m1) tN_._auto_1) (ho : autoParam (KpE l ko lo) tN_._auto_1) (ho' : autoParam (KpE m kn mo) tN_._auto_1)
    (hn : nodupB ((alv σ (M s0 ++ m1)).map (·.2)) = true := by exact rfl) (hk : autoParam (KeepS σ X.g0) eR._auto_2) (hs : autoParam (NmM (M s0 ++ m1) σ) tE_._auto_1) (hm : autoParam (RnM σ m (M s0 ++ m1)) tI_._auto_1) (hL : autoParam (RnL σ l (L s0 ++ l1)) eR._auto_3) : Sq X l m ((loopM f N s0).bind k) (fun r => (Code.loop body).wp X.P (Q r)) :=
  (sloopE e inj (fun s => L s ++ l1) (fun s => M s ++ m1) (fun t => Lo t ++ lo) (fun t => Mo t ++ mo) (eR σ hn hk hs hm hL) hb hJ)
theorem nE {α σ : Type} {f : Nat → α → σ → Option (Lp σ R)} {xs : List α} {s0 : σ} {k : σ → Option R} {l1}
    {id1 id2 e tc ti tn t2 T1 T2 T3 T4 ty1 ty2 ty3 : Nat} {p1 p2 p3 : String} {f1 f2 f3 : Array Edge} {B : Code} (ks : List Nat) (L : σ → List (Nat × Ly))
    (hb : ∀ (i : Nat) x s, xs[i]? = some x → Sq X ((ti, i64 i) :: (tn, i64 xs.length) :: (L s ++ l1)) [] (f i x s)
      (fun o => B.wp X.P (LpQ X (fun s => (ti, i64 i) :: (tn, i64 xs.length) :: (L s ++ l1)) (fun _ => []) (fun t => lpK k (.out t)) Q o)))
    (hJ : ∀ s, Sq X (L s ++ l1) [] (k s) (fun r => Q r (.exit e)))
    (hl : autoParam (KpE l ks l1) tN_._auto_1)
    (hd : (Nat.blt tc X.N && Nat.blt ti X.N && Nat.blt t2 X.N && !(Nat.beq tc ti) && !(Nat.beq tc tn) && !(Nat.beq ti tn) && !(Nat.beq t2 tn) && !(Nat.beq t2 ti)) = true := by exact rfl)
    (hk : ∀ s, (nkey tc (L s ++ l1) && nkey ti (L s ++ l1) && nkey t2 (L s ++ l1) && nkey tn (L s ++ l1)) = true := by intro s; exact rfl)
    (h0 : autoParam (SubL ((ti, i64 (0 : Nat)) :: (tn, i64 xs.length) :: (L s0 ++ l1)) l) tH_._auto_1) : Sq X l [] ((rangeL f xs 0 s0).bind (lpK k)) (fun r => (Code.loop (.seq (.region id1 ⟨[⟨some tc, .binOp .lss T1 (.tmp ti) (.tmp tn) T2, ty1, p1, f1, none⟩]⟩ false)
      (.seq (.cond (.tmp tc) .skip (.exit e)) (.seq B (.region id2 ⟨[⟨some t2, .binOp .add T3 (.tmp ti) (.const (.int .i64 1)) T4, ty2, p2, f2, none⟩, ⟨some ti, .move (.tmp t2), ty3, p3, f3, none⟩]⟩ false))))).wp X.P (Q r)) := srN (fun s => L s ++ l1) (fun _ => []) (rE (eI h0) hd hk) hb hJ
theorem nR {α σ' : Type} {f : Nat → α → σ' → Option (Lp σ' R)} {xs : List α} {s0 : σ'} {k : σ' → Option R} {l1 m1}
    {id1 id2 e tc ti tn t2 T1 T2 T3 T4 ty1 ty2 ty3 : Nat} {p1 p2 p3 : String} {f1 f2 f3 : Array Edge} {B : Code} (ks km : List Nat) (L : σ' → List (Nat × Ly)) (M : σ' → List (Nat × Ct))
    (hb : ∀ (i : Nat) x s, xs[i]? = some x → Sq X ((ti, i64 i) :: (tn, i64 xs.length) :: (L s ++ l1)) (M s ++ m1) (f i x s)
      (fun o => B.wp X.P (LpQ X (fun s => (ti, i64 i) :: (tn, i64 xs.length) :: (L s ++ l1)) (fun s => M s ++ m1) (fun t => lpK k (.out t)) Q o)))
    (hJ : ∀ s, Sq X (L s ++ l1) (M s ++ m1) (k s) (fun r => Q r (.exit e))) (σ : List (Nat × Nat) := dI (kz (M s0 ++ m1)))
    (hl : autoParam (KpE l ks l1) tN_._auto_1) (hm' : autoParam (KpE m km m1) tN_._auto_1)
    (hd : (Nat.blt tc X.N && Nat.blt ti X.N && Nat.blt t2 X.N && !(Nat.beq tc ti) && !(Nat.beq tc tn) && !(Nat.beq ti tn) && !(Nat.beq t2 tn) && !(Nat.beq t2 ti)) = true := by exact rfl)
    (hy : ∀ s, (nkey tc (L s ++ l1) && nkey ti (L s ++ l1) && nkey t2 (L s ++ l1) && nkey tn (L s ++ l1)) = true := by intro s; exact rfl)
    (hn : nodupB ((alv σ (M s0 ++ m1)).map (·.2)) = true := by exact rfl) (hk : autoParam (KeepS σ X.g0) eR._auto_2) (hs : autoParam (NmM (M s0 ++ m1) σ) tE_._auto_1) (hm : autoParam (RnM σ m (M s0 ++ m1)) tI_._auto_1) (hL : autoParam (RnL σ l ((ti, i64 (0 : Nat)) :: (tn, i64 xs.length) :: (L s0 ++ l1))) eR._auto_3) : Sq X l m ((rangeL f xs 0 s0).bind (lpK k)) (fun r => (Code.loop (.seq (.region id1 ⟨[⟨some tc, .binOp .lss T1 (.tmp ti) (.tmp tn) T2, ty1, p1, f1, none⟩]⟩ false)
      (.seq (.cond (.tmp tc) .skip (.exit e)) (.seq B (.region id2 ⟨[⟨some t2, .binOp .add T3 (.tmp ti) (.const (.int .i64 1)) T4, ty2, p2, f2, none⟩, ⟨some ti, .move (.tmp t2), ty3, p3, f3, none⟩]⟩ false))))).wp X.P (Q r)) :=
  srN (fun s => L s ++ l1) (fun s => M s ++ m1) (rE (eR σ hn hk hs hm hL) hd hy) hb hJ
end

end Go.Proofs.YtcdeknlejjjmlaaGreatDoor
