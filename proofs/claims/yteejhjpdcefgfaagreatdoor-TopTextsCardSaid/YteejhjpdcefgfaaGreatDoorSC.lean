import Derived.Test.YteejhjpdcefgfaaGreatDoorSB
namespace Go.Proofs.YteejhjpdcefgfaaGreatDoor
open Go Go.RowKit
theorem tA_{p:Prop}(h:p:=by first | exact rfl | exact(Ag.get (by assumption) rfl).trans rfl | exact kI rfl | exact kB | exact k32 rfl | exact k8 rfl | exact k64 rfl | exact kS rfl | exact kNI | exact kAny):p:=h
theorem tB_{p:Prop}(h:p:=by first | exact rfl | exact(Ag.get (by assumption) rfl).trans rfl):p:=h
theorem tC_{p:Prop}(h:p:=by first | exact uk32 | exact uk8 | exact uk64):p:=h
theorem tD_{p:Prop}(h:p:=by first | assumption | exact Jec (by assumption)):p:=h
theorem tE_{p:Prop}(h:p:=by (repeat (first | exact trivial | refine⟨⟨_,rfl⟩,?_⟩))):p:=h
theorem tF_{p:Prop}(h:p:=by first | exact rfl | exact nzI (by assumption) | exact nzU (by assumption)):p:=h
theorem tG_{p:Prop}(h:p:=by (repeat (first | exact trivial | refine Q9a (kLm _) (rn_id CIF.h) ?_ | refine Q9a (by first | exact rfl | exact(Ag.get (by assumption) rfl).trans rfl | exact kI rfl | exact kB | exact k32 rfl | exact k8 rfl | exact k64 rfl | exact kS rfl | exact kNI | exact kAny) (by (repeat' first | exact rn_id CIF.h | exact J7 rfl | exact J9 | refine Qx ?_ ?_ | refine Wy ?_ | exact Qnx rfl | exact Qdi rfl | exact Qn1 rfl | refine Qf2 ?_ | exact Qn2 rfl | refine Qq4 ?_)) ?_))):p:=h
theorem tH_{p:Prop}(h:p:=by (repeat (first | exact trivial | refine⟨rfl,?_⟩))):p:=h
theorem tI_{p:Prop}(h:p:=by (repeat (first | exact trivial | refine⟨⟨_,_,rfl,rfl,rcg⟩,?_⟩ | refine⟨⟨_,_,rfl,rfl,rci (by first | exact rc_sl CIFs.h | exact rc_bx (by (repeat' first | exact rn_id CIF.h | exact J7 rfl | exact J9 | refine Qx ?_ ?_ | refine Wy ?_ | exact Qnx rfl | exact Qdi rfl | exact Qn1 rfl | refine Qf2 ?_ | exact Qn2 rfl | refine Qq4 ?_)) | exact rc_ob | exact rc_ch | exact rc_mp CIFs.h)⟩,?_⟩))):p:=h
set_option maxRecDepth 10000
class CUn (P:Program) (T:Nat) (d:outParam TypeDesc):Prop where h:P.underlying T=some d
class CTy (P:Program) (T:Nat) (k b:outParam Nat) (z:outParam Value):Prop where h:TyI P T k b z
class CSh (P:Program) (T:Nat) (ag:outParam Bool) (k:outParam Nat):Prop where h:Shp P T ag k
class CFd (P:Program) (T j:Nat) (fo:outParam Nat):Prop where h:FldAt P T j fo
class CPl (P:Program) (T:Nat) (pl:outParam (List (Nat×Nat))):Prop where h:Plc P T pl
theorem fdA{P:Program}{T j d:Nat}{fs:Array Field}{F:Field}{k b z}(h:P.underlying T=some (.struct fs))(e:fs[j]?=some F)(f:F.offset=d)(g:TyI P F.type k b z)(p:Nat.beq k 0=false):FldAt P T j d:=by obtain⟨i,g1,_,g3,_⟩:=g;exact⟨_,_,h,e,f,i,g1,by rw[g3];rintro rfl;simp at p⟩
class CZy (P:Program) (T:Nat) (ly:outParam Ly):Prop where h:∃ k b z,TyI P T k b z/\Zr ly z.cells.toList
class CIF (ly:Ly):Prop where h:IF ly
class CIFs (l:List Ly):Prop where h:IFs l
class CIFf {α:Type}(f:α->Ly):Prop where h:∀ x,IF (f x)
instance{x}:CIF (i64 x):=⟨K0⟩
instance{x}:CIF (i32 x):=⟨Jh8⟩
instance{x}:CIF (u8 x):=⟨if_u8⟩
instance{x}:CIF (u32 x):=⟨Qa8⟩
instance{x}:CIF (u64 x):=⟨Jh9⟩
instance{x}:CIF (bl x):=⟨if_bl⟩
instance{x}:CIF (str x):=⟨X0⟩
instance{k x}:CIF (sli k x):=⟨Yw⟩
instance{x}:CIF (ub x):=⟨if_ub⟩
instance{x}:CIF (erl x):=⟨Jic⟩
instance:CIF nilI:=⟨Qnq⟩
instance:CIF .any:=⟨Q4c⟩
instance{x}[h:CIF x]:CIF (.ref x):=⟨Jh6 h.h⟩
instance{l}[h:CIFs l]:CIF (.agg l):=⟨Qnw h.h⟩
instance{l}[h:CIFs l]:CIF (.tup l):=⟨Jh5 h.h⟩
instance:CIFs []:=⟨Qka⟩
instance{a l}[h:CIF a][k:CIFs l]:CIFs (a::l):=⟨Yh h.h k.h⟩
instance{α:Type}{f:α->Ly}[h:∀ x,CIF (f x)]:CIFf f:=⟨λx=>(h x).h⟩
instance{α:Type}{f:α->Ly}{l:List α}[h:CIFf f]:CIFs (l.map f):=⟨Jm h.h l⟩
theorem Ag.get{α:Type}{st e:Nat->Option α}{d:Nat}:∀ {rs:List Nat},Ag st e rs->anyB rs d=true->st d=e d
 | [],_,h=>by simp[anyB] at h
 | x::r,h,f=>by rw[show anyB (x::r) d=(Nat.beq d x || anyB r d) from rfl] at f;cases g:Nat.beq d x;rw[g] at f;exact Ag.get h.2 f;rw[xm g];exact h.1
mutual
def pathOf(d:Bool)(k:Nat):Nat->Ly->List Nat
 | off,.agg l=>bif d && Nat.beq off 0 && Nat.beq k (Ly.szs l) then [] else pathsOf d k off 0 l
 | _,_=>[]
def pathsOf(d:Bool)(k:Nat):Nat->Nat->List Ly->List Nat
 | _,_,[]=>[]
 | off,i,ly::r=>bif Nat.blt off ly.sz then i::pathOf d k off ly else pathsOf d k (off - ly.sz) (i+1) r
end
structure OpS(X:Cx)(st:Nat->Option Ly)(mm:Nat->Option Ct)(o:Oper)(el:List (Nat×Ly))(em:List (Nat×Ct)):Prop where
 h:OpOk X st mm o el em
section
variable {X:Cx}{st:Nat->Option Ly}{mm:Nat->Option Ct}{ty:TypeId}{pos:String}{af:Array Edge}
theorem mv'{d x ly}(hd:Nat.blt d X.N=true:=by exact rfl)(e:autoParam (OpdF st x (ly)) tA_._auto_1):OpS X st mm ⟨some d,.move x,ty,pos,af,none⟩ [(d,ly)] []:=⟨mv hd e⟩
theorem asg'{d x ly}(hd:Nat.blt d X.N=true:=by exact rfl)(e:autoParam (OpdF st x (ly)) tA_._auto_1):OpS X st mm ⟨some d,.assign x,ty,pos,af,none⟩ [(d,ly)] []:=⟨asg hd e⟩
theorem pT{d c x y ly}(hd:Nat.blt d X.N=true:=by exact rfl)(e:autoParam (OpdF st c (bl true)) tA_._auto_1)(f:autoParam (OpdF st x (ly)) tA_._auto_1):OpS X st mm ⟨some d,.pick c x y,ty,pos,af,none⟩ [(d,ly)] []:=⟨pickT hd e f⟩
theorem pF{d c x y ly}(hd:Nat.blt d X.N=true:=by exact rfl)(e:autoParam (OpdF st c (bl false)) tA_._auto_1)(f:autoParam (OpdF st y (ly)) tA_._auto_1):OpS X st mm ⟨some d,.pick c x y,ty,pos,af,none⟩ [(d,ly)] []:=⟨pickF hd e f⟩
theorem addI'{d x y T e}{p q:Int}(hd:Nat.blt d X.N=true:=by exact rfl)(f:autoParam (OpdF st x (i64 p)) tA_._auto_1)(g:autoParam (OpdF st y (i64 q)) tA_._auto_1):OpS X st mm ⟨some d,.binOp .add T x y e,ty,pos,af,none⟩ [(d,i64 (wrap64 (p+q)))] []:=⟨addI hd f g⟩
theorem subI'{d x y T e}{p q:Int}(hd:Nat.blt d X.N=true:=by exact rfl)(f:autoParam (OpdF st x (i64 p)) tA_._auto_1)(g:autoParam (OpdF st y (i64 q)) tA_._auto_1):OpS X st mm ⟨some d,.binOp .sub T x y e,ty,pos,af,none⟩ [(d,i64 (wrap64 (p - q)))] []:=⟨subI hd f g⟩
theorem mulI'{d x y T e}{p q:Int}(hd:Nat.blt d X.N=true:=by exact rfl)(f:autoParam (OpdF st x (i64 p)) tA_._auto_1)(g:autoParam (OpdF st y (i64 q)) tA_._auto_1):OpS X st mm ⟨some d,.binOp .mul T x y e,ty,pos,af,none⟩ [(d,i64 (wrap64 (p*q)))] []:=⟨mulI hd f g⟩
theorem andI'{d x y T e}{p q:Int}(hd:Nat.blt d X.N=true:=by exact rfl)(f:autoParam (OpdF st x (i64 p)) tA_._auto_1)(g:autoParam (OpdF st y (i64 q)) tA_._auto_1):OpS X st mm ⟨some d,.binOp .and T x y e,ty,pos,af,none⟩ [(d,i64 (wrap64 (andZ p q)))] []:=⟨andI hd f g⟩
theorem ltI'{d x y T e}{p q:Int}(hd:Nat.blt d X.N=true:=by exact rfl)(f:autoParam (OpdF st x (i64 p)) tA_._auto_1)(g:autoParam (OpdF st y (i64 q)) tA_._auto_1):OpS X st mm ⟨some d,.binOp .lss T x y e,ty,pos,af,none⟩ [(d,bl (decide (p<q)))] []:=⟨ltI hd f g⟩
theorem leI'{d x y T e}{p q:Int}(hd:Nat.blt d X.N=true:=by exact rfl)(f:autoParam (OpdF st x (i64 p)) tA_._auto_1)(g:autoParam (OpdF st y (i64 q)) tA_._auto_1):OpS X st mm ⟨some d,.binOp .leq T x y e,ty,pos,af,none⟩ [(d,bl (decide (p<=q)))] []:=⟨leI hd f g⟩
theorem gtI'{d x y T e}{p q:Int}(hd:Nat.blt d X.N=true:=by exact rfl)(f:autoParam (OpdF st x (i64 p)) tA_._auto_1)(g:autoParam (OpdF st y (i64 q)) tA_._auto_1):OpS X st mm ⟨some d,.binOp .gtr T x y e,ty,pos,af,none⟩ [(d,bl (decide (q<p)))] []:=⟨gtI hd f g⟩
theorem geI'{d x y T e}{p q:Int}(hd:Nat.blt d X.N=true:=by exact rfl)(f:autoParam (OpdF st x (i64 p)) tA_._auto_1)(g:autoParam (OpdF st y (i64 q)) tA_._auto_1):OpS X st mm ⟨some d,.binOp .geq T x y e,ty,pos,af,none⟩ [(d,bl (decide (q<=p)))] []:=⟨geI hd f g⟩
theorem eqI'{d x y T e}{p q:Int}(hd:Nat.blt d X.N=true:=by exact rfl)(f:autoParam (OpdF st x (i64 p)) tA_._auto_1)(g:autoParam (OpdF st y (i64 q)) tA_._auto_1):OpS X st mm ⟨some d,.binOp .eql T x y e,ty,pos,af,none⟩ [(d,bl (decide (p=q)))] []:=⟨eqI hd f g⟩
theorem neI'{d x y T e}{p q:Int}(hd:Nat.blt d X.N=true:=by exact rfl)(f:autoParam (OpdF st x (i64 p)) tA_._auto_1)(g:autoParam (OpdF st y (i64 q)) tA_._auto_1):OpS X st mm ⟨some d,.binOp .neq T x y e,ty,pos,af,none⟩ [(d,bl (!decide (p=q)))] []:=⟨neI hd f g⟩
theorem quoI'{d x y T e}{p q:Int}(hd:Nat.blt d X.N=true:=by exact rfl)(g:autoParam (OpdF st x (i64 p)) tA_._auto_1)(j:autoParam (OpdF st y (i64 q)) tA_._auto_1)(f:autoParam ((q == 0)=false) tF_._auto_1):OpS X st mm ⟨some d,.binOp .quo T x y e,ty,pos,af,none⟩ [(d,i64 (wrap64 (p.tdiv q)))] []:=⟨quoI f hd g j⟩
theorem remI'{d x y T e}{p q:Int}(hd:Nat.blt d X.N=true:=by exact rfl)(g:autoParam (OpdF st x (i64 p)) tA_._auto_1)(j:autoParam (OpdF st y (i64 q)) tA_._auto_1)(f:autoParam ((q == 0)=false) tF_._auto_1):OpS X st mm ⟨some d,.binOp .rem T x y e,ty,pos,af,none⟩ [(d,i64 (p.tmod q))] []:=⟨remI f hd g j⟩
theorem ltU'{d x y T e k}{p q:Nat}(hd:Nat.blt d X.N=true:=by exact rfl)(f:autoParam (OpdF st x (uk k p)) tA_._auto_1)(g:autoParam (OpdF st y (uk k q)) tA_._auto_1):OpS X st mm ⟨some d,.binOp .lss T x y e,ty,pos,af,none⟩ [(d,bl (decide (p<q)))] []:=⟨ltU k hd f g⟩
theorem leU'{d x y T e k}{p q:Nat}(hd:Nat.blt d X.N=true:=by exact rfl)(f:autoParam (OpdF st x (uk k p)) tA_._auto_1)(g:autoParam (OpdF st y (uk k q)) tA_._auto_1):OpS X st mm ⟨some d,.binOp .leq T x y e,ty,pos,af,none⟩ [(d,bl (decide (p<=q)))] []:=⟨leU k hd f g⟩
theorem gtU'{d x y T e k}{p q:Nat}(hd:Nat.blt d X.N=true:=by exact rfl)(f:autoParam (OpdF st x (uk k p)) tA_._auto_1)(g:autoParam (OpdF st y (uk k q)) tA_._auto_1):OpS X st mm ⟨some d,.binOp .gtr T x y e,ty,pos,af,none⟩ [(d,bl (decide (q<p)))] []:=⟨gtU k hd f g⟩
theorem geU'{d x y T e k}{p q:Nat}(hd:Nat.blt d X.N=true:=by exact rfl)(f:autoParam (OpdF st x (uk k p)) tA_._auto_1)(g:autoParam (OpdF st y (uk k q)) tA_._auto_1):OpS X st mm ⟨some d,.binOp .geq T x y e,ty,pos,af,none⟩ [(d,bl (decide (q<=p)))] []:=⟨geU k hd f g⟩
theorem eqU'{d x y T e k}{p q:Nat}(hd:Nat.blt d X.N=true:=by exact rfl)(f:autoParam (OpdF st x (uk k p)) tA_._auto_1)(g:autoParam (OpdF st y (uk k q)) tA_._auto_1):OpS X st mm ⟨some d,.binOp .eql T x y e,ty,pos,af,none⟩ [(d,bl (decide (p=q)))] []:=⟨eqU k hd f g⟩
theorem neU'{d x y T e k}{p q:Nat}(hd:Nat.blt d X.N=true:=by exact rfl)(f:autoParam (OpdF st x (uk k p)) tA_._auto_1)(g:autoParam (OpdF st y (uk k q)) tA_._auto_1):OpS X st mm ⟨some d,.binOp .neq T x y e,ty,pos,af,none⟩ [(d,bl (!decide (p=q)))] []:=⟨neU k hd f g⟩
theorem addU'{d x y T e k N}{p q:Nat}(hd:Nat.blt d X.N=true:=by exact rfl)(g:autoParam (OpdF st x (uk k p)) tA_._auto_1)(j:autoParam (OpdF st y (uk k q)) tA_._auto_1)(f:autoParam (UK k N) tC_._auto_1):OpS X st mm ⟨some d,.binOp .add T x y e,ty,pos,af,none⟩ [(d,uk k ((p+q)%N))] []:=⟨addU f hd g j⟩
theorem subU'{d x y T e k N}{p q:Nat}(hd:Nat.blt d X.N=true:=by exact rfl)(g:autoParam (OpdF st x (uk k p)) tA_._auto_1)(j:autoParam (OpdF st y (uk k q)) tA_._auto_1)(f:autoParam (UK k N) tC_._auto_1):OpS X st mm ⟨some d,.binOp .sub T x y e,ty,pos,af,none⟩ [(d,uk k ((p+N - q)%N))] []:=⟨subU f hd g j⟩
theorem mulU'{d x y T e k N}{p q:Nat}(hd:Nat.blt d X.N=true:=by exact rfl)(g:autoParam (OpdF st x (uk k p)) tA_._auto_1)(j:autoParam (OpdF st y (uk k q)) tA_._auto_1)(f:autoParam (UK k N) tC_._auto_1):OpS X st mm ⟨some d,.binOp .mul T x y e,ty,pos,af,none⟩ [(d,uk k ((p*q)%N))] []:=⟨mulU f hd g j⟩
theorem orU'{d x y T e k N}{p q:Nat}(hd:Nat.blt d X.N=true:=by exact rfl)(g:autoParam (OpdF st x (uk k p)) tA_._auto_1)(j:autoParam (OpdF st y (uk k q)) tA_._auto_1)(f:autoParam (UK k N) tC_._auto_1):OpS X st mm ⟨some d,.binOp .or T x y e,ty,pos,af,none⟩ [(d,uk k (p ||| q))] []:=⟨orU f hd g j⟩
theorem andU'{d x y T e k N}{p q:Nat}(hd:Nat.blt d X.N=true:=by exact rfl)(g:autoParam (OpdF st x (uk k p)) tA_._auto_1)(j:autoParam (OpdF st y (uk k q)) tA_._auto_1)(f:autoParam (UK k N) tC_._auto_1):OpS X st mm ⟨some d,.binOp .and T x y e,ty,pos,af,none⟩ [(d,uk k (p &&& q))] []:=⟨andU f hd g j⟩
theorem quoU'{d x y T e k N}{p q:Nat}(hd:Nat.blt d X.N=true:=by exact rfl)(j:autoParam (OpdF st x (uk k p)) tA_._auto_1)(r:autoParam (OpdF st y (uk k q)) tA_._auto_1)(g:autoParam (UK k N) tC_._auto_1)(f:autoParam (Nat.beq q 0=false) tF_._auto_1):OpS X st mm ⟨some d,.binOp .quo T x y e,ty,pos,af,none⟩ [(d,uk k (p / q))] []:=⟨quoU g f hd j r⟩
theorem remU'{d x y T e k N}{p q:Nat}(hd:Nat.blt d X.N=true:=by exact rfl)(j:autoParam (OpdF st x (uk k p)) tA_._auto_1)(r:autoParam (OpdF st y (uk k q)) tA_._auto_1)(g:autoParam (UK k N) tC_._auto_1)(f:autoParam (Nat.beq q 0=false) tF_._auto_1):OpS X st mm ⟨some d,.binOp .rem T x y e,ty,pos,af,none⟩ [(d,uk k (p%q))] []:=⟨remU g f hd j r⟩
theorem notB'{d x T b}(hd:Nat.blt d X.N=true:=by exact rfl)(e:autoParam (OpdF st x (bl b)) tA_._auto_1):OpS X st mm ⟨some d,.unOp .not T x,ty,pos,af,none⟩ [(d,bl (!b))] []:=⟨notB hd e⟩
theorem negI'{d x T p}(hd:Nat.blt d X.N=true:=by exact rfl)(e:autoParam (OpdF st x (i64 p)) tA_._auto_1):OpS X st mm ⟨some d,.unOp .neg T x,ty,pos,af,none⟩ [(d,i64 (wrap64 (-p)))] []:=⟨negI hd e⟩
theorem cvUw'{d x S T g k f N N' p}(hd:Nat.blt d X.N=true:=by exact rfl)(t:autoParam (OpdF st x (uk f p)) tA_._auto_1)(q:X.P.underlying S=some g:=by exact CUn.h)(r:X.P.underlying T=some (.int k):=by exact CUn.h)(s:autoParam (UK k N) tC_._auto_1)(e:autoParam (UK f N') tC_._auto_1)(j:Nat.ble N' N=true:=by exact rfl):OpS X st mm ⟨some d,.convert S T x,ty,pos,af,none⟩ [(d,uk k p)] []:=⟨cvUw s e j q r hd t⟩
theorem cvU'{d x S T e k r N p}(hd:Nat.blt d X.N=true:=by exact rfl)(q:autoParam (OpdF st x (uk r p)) tA_._auto_1)(f:X.P.underlying S=some e:=by exact CUn.h)(g:X.P.underlying T=some (.int k):=by exact CUn.h)(j:autoParam (UK k N) tC_._auto_1):OpS X st mm ⟨some d,.convert S T x,ty,pos,af,none⟩ [(d,uk k (p%N))] []:=⟨cvU j f g hd q⟩
theorem cvIU'{d x S T e k r N}{p:Int}(hd:Nat.blt d X.N=true:=by exact rfl)(q:autoParam (OpdF st x (.cell (cpI r p))) tA_._auto_1)(f:X.P.underlying S=some e:=by exact CUn.h)(g:X.P.underlying T=some (.int k):=by exact CUn.h)(j:autoParam (UK k N) tC_._auto_1):OpS X st mm ⟨some d,.convert S T x,ty,pos,af,none⟩ [(d,uk k (p%(N:Int)).toNat)] []:=⟨cvIU j f g hd q⟩
theorem cvUI'{d x S T e}{p:Nat}(hd:Nat.blt d X.N=true:=by exact rfl)(j:autoParam (OpdF st x (u64 p)) tA_._auto_1)(f:X.P.underlying S=some e:=by exact CUn.h)(g:X.P.underlying T=some (.int .i64):=by exact CUn.h):OpS X st mm ⟨some d,.convert S T x,ty,pos,af,none⟩ [(d,i64 (wrap64 p))] []:=⟨cvUI f g hd j⟩
theorem cvUIw'{d x S T g f N'}{p:Nat}(hd:Nat.blt d X.N=true:=by exact rfl)(r:autoParam (OpdF st x (uk f p)) tA_._auto_1)(k:X.P.underlying S=some g:=by exact CUn.h)(q:X.P.underlying T=some (.int .i64):=by exact CUn.h)(e:autoParam (UK f N') tC_._auto_1)(j:Nat.ble N' 9223372036854775808=true:=by exact rfl):OpS X st mm ⟨some d,.convert S T x,ty,pos,af,none⟩ [(d,i64 p)] []:=⟨cvUIw e j k q hd r⟩
theorem cvI'{d x S T e}{p:Int}(hd:Nat.blt d X.N=true:=by exact rfl)(j:autoParam (OpdF st x (i64 p)) tA_._auto_1)(f:X.P.underlying S=some e:=by exact CUn.h)(g:X.P.underlying T=some (.int .i64):=by exact CUn.h):OpS X st mm ⟨some d,.convert S T x,ty,pos,af,none⟩ [(d,i64 p)] []:=⟨cvI f g hd j⟩
theorem lenL'{d x T E k}{α:Type}{f:α->Ly}{xs:List α}(hd:Nat.blt d X.N=true:=by exact rfl)(g:autoParam (OpdF st x (sli k (xs.map f))) tA_._auto_1)(e:X.P.underlying T=some (.slice E):=by exact CUn.h):OpS X st mm ⟨some d,.call { callee:=.builtin .len,args:=#[x],argTypes:=#[T] },ty,pos,af,none⟩ [(d,i64 xs.length)] []:=⟨lenL e hd g⟩
theorem lenO'{d x T E E' k id}{α:Type}{f:α->Ly}{xs:List α}(hd:Nat.blt d X.N=true:=by exact rfl)(j:autoParam (OpdF st x (.own id)) tA_._auto_1)(g:autoParam (mm id=some (.sl E' k (xs.map f))) tB_._auto_1)(e:X.P.underlying T=some (.slice E):=by exact CUn.h):OpS X st mm ⟨some d,.call { callee:=.builtin .len,args:=#[x],argTypes:=#[T] },ty,pos,af,none⟩ [(d,i64 xs.length)] []:=⟨lenO e g hd j⟩
theorem lenW'{d x T E id off}{len:Nat}(hd:Nat.blt d X.N=true:=by exact rfl)(f:autoParam (OpdF st x (.win id off len)) tA_._auto_1)(e:X.P.underlying T=some (.slice E):=by exact CUn.h):OpS X st mm ⟨some d,.call { callee:=.builtin .len,args:=#[x],argTypes:=#[T] },ty,pos,af,none⟩ [(d,i64 (len:Nat))] []:=⟨lenW e hd f⟩
theorem lenS'{d x T s}(hd:Nat.blt d X.N=true:=by exact rfl)(f:autoParam (OpdF st x (str s)) tA_._auto_1)(e:X.P.underlying T=some .string:=by exact CUn.h):OpS X st mm ⟨some d,.call { callee:=.builtin .len,args:=#[x],argTypes:=#[T] },ty,pos,af,none⟩ [(d,i64 s.length)] []:=⟨lenS e hd f⟩
theorem maxI'{d x y e f}{p q:Int}(hd:Nat.blt d X.N=true:=by exact rfl)(g:autoParam (OpdF st x (i64 p)) tA_._auto_1)(j:autoParam (OpdF st y (i64 q)) tA_._auto_1):OpS X st mm ⟨some d,.call { callee:=.builtin .max,args:=#[x,y],argTypes:=#[e,f] },ty,pos,af,none⟩ [(d,i64 (max p q))] []:=⟨maxI hd g j⟩
theorem minI'{d x y e f}{p q:Int}(hd:Nat.blt d X.N=true:=by exact rfl)(g:autoParam (OpdF st x (i64 p)) tA_._auto_1)(j:autoParam (OpdF st y (i64 q)) tA_._auto_1):OpS X st mm ⟨some d,.call { callee:=.builtin .min,args:=#[x,y],argTypes:=#[e,f] },ty,pos,af,none⟩ [(d,i64 (min p q))] []:=⟨minI hd g j⟩
theorem ixS'{j d x i T s y}{p:Int}(hd:Nat.blt d X.N=true:=by exact rfl)(g:autoParam (OpdF st x (str s)) tA_._auto_1)(hi:autoParam (OpdF st i (.cell (cpI j p))) tA_._auto_1)(e:X.P.underlying T=some .string:=by exact CUn.h)(f:getS s p=some y:=by assumption):OpS X st mm ⟨some d,.index T x i,ty,pos,af,none⟩ [(d,uk .u8 y)] []:=⟨ixS e f hd g hi⟩
theorem catS'{d x y T e s t z}(hd:Nat.blt d X.N=true:=by exact rfl)(f:autoParam (OpdF st x (str s)) tA_._auto_1)(g:autoParam (OpdF st y (str t)) tA_._auto_1)(j:catS s t=some z:=by assumption):OpS X st mm ⟨some d,.binOp .add T x y e,ty,pos,af,none⟩ [(d,str z)] []:=⟨catStr j hd f g⟩
theorem eqS'{d x y T e s t}(hd:Nat.blt d X.N=true:=by exact rfl)(f:autoParam (OpdF st x (str s)) tA_._auto_1)(g:autoParam (OpdF st y (str t)) tA_._auto_1):OpS X st mm ⟨some d,.binOp .eql T x y e,ty,pos,af,none⟩ [(d,bl (decide (s=t)))] []:=⟨eqS hd f g⟩
theorem neS'{d x y T e s t}(hd:Nat.blt d X.N=true:=by exact rfl)(f:autoParam (OpdF st x (str s)) tA_._auto_1)(g:autoParam (OpdF st y (str t)) tA_._auto_1):OpS X st mm ⟨some d,.binOp .neq T x y e,ty,pos,af,none⟩ [(d,bl (!decide (s=t)))] []:=⟨neS hd f g⟩
theorem eqB'{d x y T e p q}(hd:Nat.blt d X.N=true:=by exact rfl)(g:autoParam (OpdF st x (bl p)) tA_._auto_1)(j:autoParam (OpdF st y (bl q)) tA_._auto_1)(f:X.P.underlying T=some .bool:=by exact CUn.h):OpS X st mm ⟨some d,.binOp .eql T x y e,ty,pos,af,none⟩ [(d,bl (p == q))] []:=⟨eqB f hd g j⟩
theorem neB'{d x y T e p q}(hd:Nat.blt d X.N=true:=by exact rfl)(g:autoParam (OpdF st x (bl p)) tA_._auto_1)(j:autoParam (OpdF st y (bl q)) tA_._auto_1)(f:X.P.underlying T=some .bool:=by exact CUn.h):OpS X st mm ⟨some d,.binOp .neq T x y e,ty,pos,af,none⟩ [(d,bl (p != q))] []:=⟨neB f hd g j⟩
theorem ixR'{r d x i T E k b z}{p:Int}{α:Type}{f:α->Ly}{xs:List α}{y:α}(hd:Nat.blt d X.N=true:=by exact rfl)(q:autoParam (OpdF st x (sli k (xs.map f))) tA_._auto_1)(hi:autoParam (OpdF st i (.cell (cpI r p))) tA_._auto_1)(g:X.P.underlying T=some (.slice E):=by exact CUn.h)(e:TyI X.P E k b z:=by exact CTy.h)(j:autoParam (getI xs p=some y) tD_._auto_1):OpS X st mm ⟨some d,.indexAddr T x i,ty,pos,af,none⟩ [(d,.ref (f y))] []:=⟨ixR g e j hd q hi⟩
theorem ixO'{t d x i T E E' k e b z id}{p:Int}{α:Type}{f:α->Ly}{xs:List α}{y:α}(hd:Nat.blt d X.N=true:=by exact rfl)(s:autoParam (OpdF st x (.own id)) tA_._auto_1)(hi:autoParam (OpdF st i (.cell (cpI t p))) tA_._auto_1)(r:autoParam (mm id=some (.sl E' k (xs.map f))) tB_._auto_1)(j:X.P.underlying T=some (.slice E):=by exact CUn.h)(g:TyI X.P E e b z:=by exact CTy.h)(q:autoParam (getI xs p=some y) tD_._auto_1):OpS X st mm ⟨some d,.indexAddr T x i,ty,pos,af,none⟩ [(d,.ptr id (p.toNat*e))] []:=⟨ixO r j g q hd s hi⟩
theorem ldR'{d x T e k ly}(hd:Nat.blt d X.N=true:=by exact rfl)(j:autoParam (OpdF st x (.ref ly)) tA_._auto_1)(f:Shp X.P T e k:=by exact CSh.h)(g:ly.isN=e:=by exact rfl)(p:ly.sz=k:=by exact rfl):OpS X st mm ⟨some d,.load T x,ty,pos,af,none⟩ [(d,ly)] []:=⟨ldR f g p hd j⟩
theorem ldW{d x T e k id E ly}(hd:Nat.blt d X.N=true:=by exact rfl)(p:autoParam (OpdF st x (.own id)) tA_._auto_1)(f:autoParam (mm id=some (.bx E ly)) tB_._auto_1)(g:Shp X.P T e k:=by exact CSh.h)(j:ly.isN=e:=by exact rfl)(q:ly.sz=k:=by exact rfl):OpS X st mm ⟨some d,.load T x,ty,pos,af,none⟩ [(d,ly)] []:=⟨ldB [] f rfl g j q hd p (.inr ⟨rfl,rfl,_,_,f⟩)⟩
theorem ldP{d x T g k id E ly f off e}(hd:Nat.blt d X.N=true:=by exact rfl)(t:autoParam (OpdF st x (.ptr id off)) tA_._auto_1)(q:autoParam (mm id=some (.bx E ly)) tB_._auto_1)(j:Shp X.P T g k:=by exact CSh.h)(p:Ly.go (pathOf g k off ly) ly=some (f,e):=by exact rfl)(s:e=off:=by exact rfl)(r:f.isN=g:=by exact rfl)(u:f.sz=k:=by exact rfl):OpS X st mm ⟨some d,.load T x,ty,pos,af,none⟩ [(d,f)] []:=⟨ldB _ q p j r u hd t (.inl (s ▸ rfl))⟩
theorem ldE0{d x T e k g id E}{p:Int}{α:Type}{f:α->Ly}{xs:List α}{y:α}(hd:Nat.blt d X.N=true:=by exact rfl)(s:autoParam (OpdF st x (.ptr id (p.toNat*k))) tA_._auto_1)(q:autoParam (mm id=some (.sl E k (xs.map f))) tB_._auto_1)(t:autoParam (getI xs p=some y) tD_._auto_1)(j:Shp X.P T e g:=by exact CSh.h)(r:(f y).isN=e:=by exact rfl)(u:(f y).sz=g:=by exact rfl):OpS X st mm ⟨some d,.load T x,ty,pos,af,none⟩ [(d,f y)] []:=⟨ldO (f:=f) [] q (Qcj t) rfl off0 j r u hd s⟩
theorem ldE1{d x T j k r id E q e g}{p:Int}{α:Type}{f:α->Ly}{xs:List α}{y:α}(hd:Nat.blt d X.N=true:=by exact rfl)(A:autoParam (OpdF st x (.ptr id (p.toNat*k+q))) tA_._auto_1)(u:autoParam (mm id=some (.sl E k (xs.map f))) tB_._auto_1)(B:autoParam (getI xs p=some y) tD_._auto_1)(s:Shp X.P T j r:=by exact CSh.h)(t:Ly.go (pathOf j r q (f y)) (f y)=some (g,e):=by exact rfl)(w:e=q:=by exact rfl)(v:g.isN=j:=by exact rfl)(C:g.sz=r:=by exact rfl):OpS X st mm ⟨some d,.load T x,ty,pos,af,none⟩ [(d,g)] []:=⟨ldO (f:=f) _ u (Qcj B) t (w ▸ rfl) s v C hd A⟩
theorem stW{x y T g k id E ly ln}(p:autoParam (OpdF st x (.own id)) tA_._auto_1)(q:autoParam (OpdF st y (ln)) tA_._auto_1)(f:autoParam (mm id=some (.bx E ly)) tB_._auto_1)(j:Shp X.P T g k:=by exact CSh.h)(r:ly.sz=k:=by exact rfl)(e:ln.sz=k:=by exact rfl)(d:ln.lies=true:=by exact rfl):OpS X st mm ⟨none,.store T x y,ty,pos,af,none⟩ [] [(id,.bx E ln)]:=⟨stB2 [] rfl f rfl j r e d p (.inr ⟨rfl,rfl,_,_,f⟩) q⟩
theorem stP{x y T q k id E ly j ln off d}(ly2:Ly)(p:List Nat)(v:autoParam (OpdF st x (.ptr id off)) tA_._auto_1)(w:autoParam (OpdF st y ln) tA_._auto_1)(t:autoParam (mm id=some (.bx E ly)) tB_._auto_1)(r:Shp X.P T q k:=by exact CSh.h)(s:Ly.go p ly=some (j,d):=by exact rfl)(u:d=off:=by exact rfl)(g:Ly.pu ln p ly=ly2:=by exact rfl)(A:j.sz=k:=by exact rfl)(f:ln.sz=k:=by exact rfl)(e:ln.lies=true:=by exact rfl):OpS X st mm ⟨none,.store T x y,ty,pos,af,none⟩ [] [(id,.bx E ly2)]:=⟨stB2 p g t s r A f e v (.inl (u ▸ rfl)) w⟩
theorem stE0{x y T s k r id E ln}{p:Int}{α:Type}{f:α->Ly}{xs:List α}{e d:α}(A:autoParam (OpdF st x (.ptr id (p.toNat*k))) tA_._auto_1)(B:autoParam (OpdF st y (ln)) tA_._auto_1)(w:autoParam (mm id=some (.sl E k (xs.map f))) tB_._auto_1)(u:autoParam (getI xs p=some e) tD_._auto_1)(v:f d=ln:=by exact rfl)(t:Shp X.P T s r:=by exact CSh.h)(C:(f e).sz=r:=by exact rfl)(q:(f d).sz=r:=by exact rfl)(g:(f d).sz=k:=by exact rfl)(j:(f d).lies=true:=by exact rfl):OpS X st mm ⟨none,.store T x y,ty,pos,af,none⟩ [] [(id,.sl E k ((xs.set p.toNat d).map f))]:=⟨stO (f:=f) d [] w (Qcj u) rfl off0 rfl g t C q j A (v ▸ B)⟩
theorem faO'{d x T j e id E ly}(hd:Nat.blt d X.N=true:=by exact rfl)(k:autoParam (OpdF st x (.own id)) tA_._auto_1)(g:autoParam (mm id=some (.bx E ly)) tB_._auto_1)(f:FldAt X.P T j e:=by exact CFd.h):OpS X st mm ⟨some d,.fieldAddr T x j,ty,pos,af,none⟩ [(d,.ptr id e)] []:=⟨faO g f hd k⟩
theorem faP'{d x T j e id off}(hd:Nat.blt d X.N=true:=by exact rfl)(g:autoParam (OpdF st x (.ptr id off)) tA_._auto_1)(f:FldAt X.P T j e:=by exact CFd.h):OpS X st mm ⟨some d,.fieldAddr T x j,ty,pos,af,none⟩ [(d,.ptr id (off+e))] []:=⟨faP f hd g⟩
theorem faR'{d x T j e l f}(hd:Nat.blt d X.N=true:=by exact rfl)(p:autoParam (OpdF st x (.ref (.agg l))) tA_._auto_1)(g:FldAt X.P T j e:=by exact CFd.h)(k:Ly.go [j] (.agg l)=some (f,e):=by exact rfl):OpS X st mm ⟨some d,.fieldAddr T x j,ty,pos,af,none⟩ [(d,.ref f)] []:=⟨faR g k hd p⟩
theorem ext'{d x i l ly}(hd:Nat.blt d X.N=true:=by exact rfl)(f:autoParam (OpdF st x (.tup l)) tA_._auto_1)(e:l[i]?=some ly:=by exact rfl):OpS X st mm ⟨some d,.extract x i,ty,pos,af,none⟩ [(d,ly)] []:=⟨ext e hd f⟩
theorem nck'{d x ly}(hd:Nat.blt d X.N=true:=by exact rfl)(f:autoParam (OpdF st x (ly)) tA_._auto_1)(e:Jbp mm ly:=by first | exact trivial | exact⟨_,_,rfl⟩ | exact⟨_,_,(Ag.get oe rfl).trans rfl⟩):OpS X st mm ⟨some d,.nilCheck x,ty,pos,af,none⟩ [(d,ly)] []:=⟨nck e hd f⟩
theorem al'(y:Nat){d T ly}(hd:Nat.blt d X.N=true:=by exact rfl)(g:autoParam (mm y=none) tB_._auto_1)(h:∃ k b z,TyI X.P T k b z/\Zr ly z.cells.toList:=by exact CZy.h):OpS X st mm ⟨some d,.alloc T,ty,pos,af,none⟩ [(d,.own y)] [(y,.bx T ly)]:=by obtain⟨k,b,z,e,f⟩:=h;exact⟨al e f g hd⟩
theorem bx'(y:Nat){d T x ly}(hd:Nat.blt d X.N=true:=by exact rfl)(f:autoParam (OpdF st x ly) tA_._auto_1)(e:ly.lies=true:=by exact rfl)(g:autoParam (mm y=none) tB_._auto_1):OpS X st mm ⟨some d,.box T x,ty,pos,af,none⟩ [(d,.own y)] [(y,.bx T ly)]:=⟨box e f g hd⟩
theorem app'(y:Nat){d s x T id E k b z j}{α:Type}{f:α->Ly}{xs ys zs:List α}(hd:Nat.blt d X.N=true:=by exact rfl)(hs:autoParam (OpdF st s (.own id)) tA_._auto_1)(u:autoParam (OpdF st x j) tA_._auto_1)(t:autoParam (mm id=some (.sl E k (xs.map f))) tB_._auto_1)(r:X.P.underlying T=some (.slice E):=by exact CUn.h)(p:TyI X.P E k b z:=by exact CTy.h)(q:SlF mm j k (ys.map f):=by first | exact .inl rfl | exact .inr ⟨_,_,rfl,rfl⟩ | exact .inr ⟨_,_,rfl,(Ag.get oe rfl).trans rfl⟩)(w:appM b xs ys=some zs:=by assumption)(g:z.cells.size=k:=by exact rfl)(e:Nat.blt 0 k=true:=by exact rfl)(v:autoParam (mm y=none) tB_._auto_1):OpS X st mm ⟨some d,.call { callee:=.builtin .append,args:=#[s,x],argTypes:=#[T,T] },ty,pos,af,none⟩ [(d,.own y)] [(y,.sl E k (zs.map f)),(id,.gone)]:=⟨app w t r p g e hs u q v hd⟩
theorem ops{o el em}(h:OpS X st mm o el em:=by first | exact mv' | exact asg' | exact ldW | exact faO' | exact stW | exact ext' | exact ldP | exact pF | exact pT | exact lenL' | exact addI' | exact eqI' | exact ldR' | exact ixR' | exact notB' | exact faP' | exact ltI' | exact gtI' | exact nck' | exact subI' | exact ixO' | exact ldE0 | exact ldE1 | exact stE0 | exact lenS' | exact lenO' | exact neI' | exact geI' | exact leI' | exact cvUw' | exact cvU' | exact addU' | exact subU' | exact mulU' | exact orU' | exact andU' | exact eqU' | exact neU' | exact ltU' | exact gtU' | exact leU' | exact geU' | exact eqS' | exact neS' | exact eqB' | exact neB' | exact mulI' | exact andI' | exact quoI' | exact remI' | exact quoU' | exact remU' | exact negI' | exact cvIU' | exact cvUI' | exact cvUIw' | exact cvI' | exact lenW' | exact maxI' | exact minI' | exact ixS' | exact catS' | exact faR'):OpS X st mm o el em:=h
end
section
variable {R:Type}{X:Cx}{l:List (Nat×Ly)}{m:List (Nat×Ct)}{md:Option R}{Q:R->Exit->Act->World->Prop}{G:R->Act->World->Prop}{n:List Nat}{i:Nat}
structure Cnt(n:List Nat)(p:Prop):Prop where
 h:p
structure CntI(i:Nat)(n:List Nat)(p:Prop):Prop where
 h:p
structure Hold(p:Prop):Prop where
 h:p
theorem pk(i:Nat){n:List Nat}{p:Prop}(h:CntI i n p):Cnt (i::n) p:=⟨h.h⟩
theorem q_seq{x y:Code}(h:Cnt n (Sq X l m md (λr=>x.wp X.P (Exit.then (y.wp X.P (Q r)) (Q r))))):CntI i n (Sq X l m md (λr=>(Code.seq x y).wp X.P (Q r))):=⟨sseq h.h⟩
theorem q_reg{id:Nat}{ls:List Oper}(h:Cnt n (Sq X l m md (λr=>wpList X.P ⟨ls⟩ (Q r) ls))):CntI i n (Sq X l m md (λr=>(Code.region id ⟨ls⟩ false).wp X.P (Q r))):=⟨sreg h.h⟩
theorem q_nil{ops:Array Oper}(h:Cnt n (Sq X l m md (λr=>Q r .normal))):CntI i n (Sq X l m md (λr=>wpList X.P ops (Q r) [])):=⟨snil h.h⟩
theorem q_nm{y:Code}(h:Cnt n (Sq X l m md (λr=>y.wp X.P (Q r)))):CntI i n (Sq X l m md (λr=>Exit.then (y.wp X.P (Q r)) (Q r) .normal)):=⟨pnm h.h⟩
theorem q_blk{id:Nat}{c:Code}(h:Cnt n (Sq X l m md (λr=>c.wp X.P (Exit.inBlock id (Q r))))):CntI i n (Sq X l m md (λr=>(Code.block id c).wp X.P (Q r))):=⟨sblk h.h⟩
theorem q_scp{c:Code}(h:Cnt n (Sq X l m md (λr=>c.wp X.P (Exit.noGoto (Q r))))):CntI i n (Sq X l m md (λr=>(Code.scope c).wp X.P (Q r))):=⟨sscp h.h⟩
theorem q_ret(h:Cnt n (Sq X l m md (λr=>Q r .ret))):CntI i n (Sq X l m md (λr=>Code.ret.wp X.P (Q r))):=⟨sret h.h⟩
theorem Jig(h:Cnt n (Sq X l m md (λr=>Q r .normal))):CntI i n (Sq X l m md (λr=>Code.skip.wp X.P (Q r))):=⟨sskip h.h⟩
theorem q_lab{d:Nat}(h:Cnt n (Sq X l m md (λr=>Q r .normal))):CntI i n (Sq X l m md (λr=>(Code.label d).wp X.P (Q r))):=⟨slab h.h⟩
theorem Jih{id:Nat}(h:Cnt n (Sq X l m md (λr=>Q r (.exit id)))):CntI i n (Sq X l m md (λr=>(Code.exit id).wp X.P (Q r))):=⟨sexit h.h⟩
theorem q_x{id:Nat}(h:Cnt n (Sq X l m md (λr=>Q r .normal))):CntI i n (Sq X l m md (λr=>Exit.inBlock id (Q r) (.exit id))):=⟨sx h.h⟩
theorem q_xo{id d:Nat}(e:Nat.beq d id=false)(h:Cnt n (Sq X l m md (λr=>Q r (.exit d)))):CntI i n (Sq X l m md (λr=>Exit.inBlock id (Q r) (.exit d))):=⟨sxo e h.h⟩
theorem q_th{N:R->Act->World->Prop}(h:Cnt n (Sq X l m md (λr=>Q r .ret))):CntI i n (Sq X l m md (λr=>Exit.then (N r) (Q r) .ret)):=⟨pth h.h⟩
theorem q_tx{N:R->Act->World->Prop}{id:Nat}(h:Cnt n (Sq X l m md (λr=>Q r (.exit id)))):CntI i n (Sq X l m md (λr=>Exit.then (N r) (Q r) (.exit id))):=⟨ptx h.h⟩
theorem q_bn{id:Nat}(h:Cnt n (Sq X l m md (λr=>Q r .normal))):CntI i n (Sq X l m md (λr=>Exit.inBlock id (Q r) .normal)):=⟨pbn h.h⟩
theorem q_bl{id:Nat}(h:Cnt n (Sq X l m md (λr=>Q r .ret))):CntI i n (Sq X l m md (λr=>Exit.inBlock id (Q r) .ret)):=⟨pbl h.h⟩
theorem q_gr(h:Cnt n (Sq X l m md (λr=>Q r .ret))):CntI i n (Sq X l m md (λr=>Exit.noGoto (Q r) .ret)):=⟨pgr h.h⟩
theorem q_o{d op ty pos after}{ops:Array Oper}{rest:List Oper}{el em}(h:OpS X (lk l) (lk m) ⟨d,op,ty,pos,after,none⟩ el em)
 (k:Cnt n (Sq X (el++l) (em++m) md (λr=>wpList X.P ops (Q r) rest))):CntI i n (Sq X l m md (λr=>wpList X.P ops (Q r) (⟨d,op,ty,pos,after,none⟩::rest))):=⟨so h.h k.h⟩
theorem q_g{d op ty pos after j b e}{ops:Array Oper}{rest:List Oper}{el em}(f:((ops[j]?).bind (·.dst))=some e)(g:lk l e=some (bl b))(h:OpS X (lk l) (lk m) ⟨d,op,ty,pos,after,none⟩ el em)
 (k:Cnt n (Sq X (el++l) (em++m) md (λr=>wpList X.P ops (Q r) rest))):CntI i n (Sq X l m md (λr=>wpList X.P ops (Q r) (⟨d,op,ty,pos,after,some (j,b)⟩::rest))):=⟨sg e f g h.h k.h⟩
theorem q_B{d op ty pos after j b f e}{ops:Array Oper}{rest:List Oper}(p:((ops[j]?).bind (·.dst))=some e)(q:lk l e=some (bl f))(g:f=!b)(hd:Nat.blt d X.N=true)
 (k:Cnt n (Sq X ((d,.tup [])::l) m md (λr=>wpList X.P ops (Q r) rest))):CntI i n (Sq X l m md (λr=>wpList X.P ops (Q r) (⟨some d,op,ty,pos,after,some (j,b)⟩::rest))):=⟨spB e p (g ▸ q) hd k.h⟩
theorem q_U{d op ty pos after j b e}{ops:Array Oper}{rest:List Oper}(f:((ops[j]?).bind (·.dst))=some e)(g:lk l e=some (.tup []))(hd:Nat.blt d X.N=true)
 (k:Cnt n (Sq X ((d,.tup [])::l) m md (λr=>wpList X.P ops (Q r) rest))):CntI i n (Sq X l m md (λr=>wpList X.P ops (Q r) (⟨some d,op,ty,pos,after,some (j,b)⟩::rest))):=⟨spU e f g hd k.h⟩
theorem cnt0{p:Prop}(h:p):Cnt [] p:=⟨h⟩
theorem q_E{ops:Array Oper}{y:Code}(h:Cnt n (Sq X l m md (λr=>y.wp X.P (Q r)))):CntI i n (Sq X l m md (λr=>wpList X.P ops (Exit.then (y.wp X.P (Q r)) (Q r)) [])):=⟨snil (pnm h.h)⟩
theorem q_S{id:Nat}{ls:List Oper}{y:Code}(h:Cnt n (Sq X l m md (λr=>wpList X.P ⟨ls⟩ (Exit.then (y.wp X.P (Q r)) (Q r)) ls))):CntI i n (Sq X l m md (λr=>(Code.seq (Code.region id ⟨ls⟩ false) y).wp X.P (Q r))):=⟨sseq (sreg h.h)⟩
theorem q_op{d op ty pos after}{ops:Array Oper}{rest:List Oper}{el em}(h:OpS X (lk l) (lk m) ⟨d,op,ty,pos,after,none⟩ el em)
 (k:Cnt n (Sq X (el++l) (em++m) md (λr=>wpList X.P ops (Q r) rest))):CntI i n (Sq X l m md (λr=>wpList X.P ops (Q r) (⟨d,op,ty,pos,after,none⟩::rest))):=⟨so h.h k.h⟩
theorem pk1(i:Nat){y:Nat}{n:List Nat}{p:Prop}(h:CntI y n p):Cnt (i::y::n) p:=⟨h.h⟩
class CNs (i:Nat) (k:outParam Nat) (α:outParam Type) (f:outParam (α->Ly)):Prop where h:True
theorem q_oz{α:Type}{f:α->Ly}{d ty pos after k}[CNs i k α f]{ops:Array Oper}{rest:List Oper}
 (h:Cnt n (Sq X ((d,sli k (List.map f []))::l) m md (λr=>wpList X.P ops (Q r) rest))) (hd:Nat.blt d X.N=true:=by exact rfl):CntI i n (Sq X l m md (λr=>wpList X.P ops (Q r) (⟨some d,.assign (.const (.slice none 0 0)),ty,pos,after,none⟩::rest))):=⟨s1 (asg hd (kLm f)) h.h⟩
theorem q_oy{d e op ty pos after}{ops:Array Oper}{rest:List Oper}{em}(h:OpS X (lk l) (lk m) ⟨d,op,ty,pos,after,none⟩ [(e,.own i)] em)
 (k:Cnt n (Sq X ([(e,.own i)]++l) (em++m) md (λr=>wpList X.P ops (Q r) rest))):CntI i n (Sq X l m md (λr=>wpList X.P ops (Q r) (⟨d,op,ty,pos,after,none⟩::rest))):=⟨so h.h k.h⟩
theorem q_sU{σ τ:Type}{L:σ->List (Nat×Ly)}{M:σ->List (Nat×Ct)}{k:τ->Option R}{t:τ}(h:Cnt n (Sq X l m (k t) (λr=>Q r .ret))):
 CntI i n (Sq X l m (some (Lp.out t)) (λ(o:Lp σ τ)=>LpQ X L M k Q o .ret)):=⟨sout (λh=>by cases h) h.h⟩
theorem q_su{σ τ:Type}{L:σ->List (Nat×Ly)}{M:σ->List (Nat×Ct)}{k:τ->Option R}{t:τ}{j:Nat}(h:Cnt n (Sq X l m (k t) (λr=>Q r (.exit j)))):
 CntI i n (Sq X l m (some (Lp.out t)) (λ(o:Lp σ τ)=>LpQ X L M k Q o (.exit j))):=⟨sout (λh=>by cases h) h.h⟩
class Mc(i:Nat)(j k:outParam Nat):Prop where h:True
instance:Mc 2 21 0:=⟨trivial⟩
instance:Mc 36 56 56:=⟨trivial⟩
instance:Mc 7 10 1:=⟨trivial⟩
instance:Mc 39 38 38:=⟨trivial⟩
instance:Mc 4 2 66:=⟨trivial⟩
instance:Mc 12 89 97:=⟨trivial⟩
instance:Mc 24 20 0:=⟨trivial⟩
instance:Mc 6 85 19:=⟨trivial⟩
instance:Mc 99 25 100:=⟨trivial⟩
instance:Mc 9 36 36:=⟨trivial⟩
instance:Mc 3 10 31:=⟨trivial⟩
instance:Mc 73 10 99:=⟨trivial⟩
instance:Mc 13 28 1:=⟨trivial⟩
instance:Mc 43 55 29:=⟨trivial⟩
instance:Mc 8 5 7:=⟨trivial⟩
instance:Mc 11 10 12:=⟨trivial⟩
instance:Mc 112 96 96:=⟨trivial⟩
instance:Mc 26 24 66:=⟨trivial⟩
instance:Mc 82 25 101:=⟨trivial⟩
instance:Mc 45 116 19:=⟨trivial⟩
instance:Mc 41 10 4:=⟨trivial⟩
instance:Mc 14 7 1:=⟨trivial⟩
instance:Mc 16 1 112:=⟨trivial⟩
instance:Mc 91 0 17:=⟨trivial⟩
instance:Mc 95 32 1:=⟨trivial⟩
instance:Mc 18 10 2:=⟨trivial⟩
instance:Mc 59 129 128:=⟨trivial⟩
instance:Mc 22 154 1:=⟨trivial⟩
instance:Mc 23 36 56:=⟨trivial⟩
instance:Mc 63 73 82:=⟨trivial⟩
instance:Mc 64 21 78:=⟨trivial⟩
instance:Mc 27 153 1:=⟨trivial⟩
instance:Mc 30 0 5:=⟨trivial⟩
instance:Mc 46 1 1:=⟨trivial⟩
instance:Mc 88 35 19:=⟨trivial⟩
instance:Mc 104 90 2:=⟨trivial⟩
instance:Mc 33 21 2:=⟨trivial⟩
instance:Mc 86 25 102:=⟨trivial⟩
instance:Mc 34 19 66:=⟨trivial⟩
instance:Mc 37 95 91:=⟨trivial⟩
instance:Mc 53 39 39:=⟨trivial⟩
instance:Mc 40 10 87:=⟨trivial⟩
instance:Mc 42 153 2:=⟨trivial⟩
instance:Mc 44 154 0:=⟨trivial⟩
instance:Mc 48 6 5:=⟨trivial⟩
instance:Mc 50 10 104:=⟨trivial⟩
instance:Mc 51 45 7:=⟨trivial⟩
instance:Mc 52 154 2:=⟨trivial⟩
instance:Mc 54 25 103:=⟨trivial⟩
instance:Mc 57 73 2:=⟨trivial⟩
instance:Mc 58 114 43:=⟨trivial⟩
instance:Mc 60 13 1:=⟨trivial⟩
instance:Mc 61 153 0:=⟨trivial⟩
instance:Mc 62 41 43:=⟨trivial⟩
instance:Mc 136 144 152:=⟨trivial⟩
instance:Mc 65 17 7:=⟨trivial⟩
instance:Mc 125 17 10:=⟨trivial⟩
instance:Mc 67 136 135:=⟨trivial⟩
instance:Mc 68 39 38:=⟨trivial⟩
instance:Mc 69 0 7:=⟨trivial⟩
instance:Mc 70 125 59:=⟨trivial⟩
instance:Mc 71 26 29:=⟨trivial⟩
instance:Mc 72 85 88:=⟨trivial⟩
instance:Mc 74 24 5:=⟨trivial⟩
instance:Mc 75 117 89:=⟨trivial⟩
instance:Mc 92 127 127:=⟨trivial⟩
instance:Mc 80 64 35:=⟨trivial⟩
instance:Mc 81 63 86:=⟨trivial⟩
instance:Mc 83 2 7:=⟨trivial⟩
instance:Mc 84 117 12:=⟨trivial⟩
theorem pm{i j k:Nat}[Mc i j k]{n:List Nat}{a:Prop}(h:Cnt (j::k::n) a):Cnt (i::n) a:=⟨h.h⟩
theorem z{a b:Prop}(n:List Nat)(h:Hold b->Cnt n a:=by
 intro d
 repeat (first
  | (refine pk 1 ?_;refine q_op mv' ?_)
  | (refine pk 0 ?_;refine q_E ?_)
  | (refine pk 21 ?_;refine q_op asg' ?_)
  | (refine pk 10 ?_;refine q_S ?_)
  | (refine pk 56 ?_;refine q_B rfl rfl rfl rfl ?_)
  | (refine pk1 25 ?_;first | refine q_oy (al' _) ?_ | refine q_oy (bx' _) ?_ | refine q_oy (app' _) ?_)
  | (refine pk1 87 ?_;refine q_oz ?_)
  | (refine pk 135 ?_;refine q_su ?_)
  | (refine pk 114 ?_;refine q_sU ?_)
  | (refine pk 31 ?_;refine q_op ldW ?_)
  | refine pm ?_
  | (refine pk 38 ?_;refine q_g rfl rfl ops ?_)
  | (refine pk 89 ?_;refine q_op faO' ?_)
  | (refine pk 20 ?_;refine q_op stW ?_)
  | (refine pk 96 ?_;refine q_op ext' ?_)
  | (refine pk 5 ?_;refine q_seq ?_)
  | (refine pk 78 ?_;refine q_nil ?_)
  | (refine pk 19 ?_;refine q_nm ?_)
  | (refine pk 66 ?_;refine q_ret ?_)
  | (refine pk 85 ?_;refine Jig ?_)
  | (refine pk 28 ?_;refine q_reg ?_)
  | (refine pk 17 ?_;refine q_blk ?_)
  | (refine pk 29 ?_;refine q_th ?_)
  | (refine pk 55 ?_;refine q_bl ?_)
  | (refine pk 35 ?_;refine q_bn ?_)
  | (refine pk 116 ?_;refine q_x ?_)
  | (refine pk 97 ?_;refine q_op ldP ?_)
  | (refine pk 153 ?_;refine q_op pF ?_)
  | (refine pk 154 ?_;refine q_op pT ?_)
  | (refine pk 32 ?_;refine q_op lenL' ?_)
  | (refine pk 15 ?_;refine q_op addI' ?_)
  | (refine pk 90 ?_;refine q_op eqI' ?_)
  | (refine pk 128 ?_;refine q_op ldR' ?_)
  | (refine pk 129 ?_;refine q_op ixR' ?_)
  | (refine pk 47 ?_;refine q_op notB' ?_)
  | (refine pk 77 ?_;refine q_op faP' ?_)
  | (refine pk 127 ?_;refine q_U rfl rfl rfl ?_)
  | (refine pk 144 ?_;refine Jih ?_)
  | (refine pk 152 ?_;refine q_tx ?_)
  | (refine pk 137 ?_;refine q_scp ?_)
  | (refine pk 121 ?_;refine q_gr ?_)
  | (refine pk 138 ?_;refine q_lab ?_)
  | (refine pk 126 ?_;refine q_xo rfl ?_)
  | (refine pk 49 ?_;refine q_op ltI' ?_)
  | (refine pk 93 ?_;refine q_op gtI' ?_)
  | (refine pk 117 ?_;refine q_op nck' ?_)
  | (refine pk 76 ?_;refine q_op subI' ?_)
  | (refine pk 79 ?_;refine q_op ixO' ?_)
  | (refine pk 100 ?_;refine q_op ldE0 ?_)
  | (refine pk 145 ?_;refine q_op ldE1 ?_)
  | (refine pk 102 ?_;refine q_op stE0 ?_)
  | (refine pk 98 ?_;refine q_op lenS' ?_)
  | (refine pk 94 ?_;refine q_op lenO' ?_)
  | (refine pk 105 ?_;refine q_op neI' ?_)
  | (refine pk 101 ?_;refine q_op geI' ?_)
  | (refine pk 122 ?_;refine q_op leI' ?_)
  | (refine pk 106 ?_;refine q_op cvUw' ?_)
  | (refine pk 109 ?_;refine q_op cvU' ?_)
  | (refine pk 108 ?_;refine q_op addU' ?_)
  | (refine pk 118 ?_;refine q_op subU' ?_)
  | (refine pk 130 ?_;refine q_op mulU' ?_)
  | (refine pk 123 ?_;refine q_op orU' ?_)
  | (refine pk 110 ?_;refine q_op eqU' ?_)
  | (refine pk 139 ?_;refine q_op neU' ?_)
  | (refine pk 115 ?_;refine q_op ltU' ?_)
  | (refine pk 131 ?_;refine q_op gtU' ?_)
  | (refine pk 132 ?_;refine q_op geU' ?_)
  | (refine pk 107 ?_;refine q_op eqS' ?_)
  | (refine pk 146 ?_;refine q_op neS' ?_)
  | (refine pk 140 ?_;refine q_op eqB' ?_)
  | (refine pk 141 ?_;refine q_op neB' ?_)
  | (refine pk 113 ?_;refine q_op mulI' ?_)
  | (refine pk 147 ?_;refine q_op andI' ?_)
  | (refine pk 133 ?_;refine q_op quoI' ?_)
  | (refine pk 142 ?_;refine q_op remI' ?_)
  | (refine pk 148 ?_;refine q_op quoU' ?_)
  | (refine pk 149 ?_;refine q_op remU' ?_)
  | (refine pk 143 ?_;refine q_op negI' ?_)
  | (refine pk 124 ?_;refine q_op cvIU' ?_)
  | (refine pk 150 ?_;refine q_op cvUIw' ?_)
  | (refine pk 111 ?_;refine q_op maxI' ?_)
  | (refine pk 119 ?_;refine q_op minI' ?_)
  | (refine pk 120 ?_;refine q_op ixS' ?_)
  | (refine pk 103 ?_;refine q_op catS' ?_)
  | (refine pk 134 ?_;refine q_op faR' ?_))
 exact cnt0 d.h) (k:b):a:=(h ⟨k⟩).h
end
def swp:List (Nat×Nat)->List (Nat×Nat)
 | []=>[]
 | (i,j)::r=>(j,i)::swp r
def zpK{α:Type}:List (Nat×α)->List Nat->List (Nat×Nat)
 | (i,_)::m,b::bs=>(i,b)::zpK m bs
 | _,_=>[]
def kz{α:Type}:List (Nat×α)->List Nat
 | []=>[]
 | (i,_)::r=>i::kz r
theorem Q9a{st ρ x xs ly d e}(h:OpdF st x ly)(f:Rn ρ ly d)(k:ArgF st ρ xs e):ArgF st ρ (x::xs) (d::e):=⟨⟨_,h,f⟩,k⟩
structure RnI(σ σi:List (Nat×Nat))(ly ly':Ly):Prop where
 h:Rn σ ly ly'
structure RnsI(σ σi:List (Nat×Nat))(l l':List Ly):Prop where
 h:Rns σ l l'
theorem rj_id{σ σi ly}(h:IF ly):RnI σ σi ly ly:=⟨rn_id h⟩
theorem Q4p{σ σi x y}(_:lk σi x=some y)(h:lk σ y=some x):RnI σ σi (.own x) (.own y):=⟨J7 h⟩
theorem Q4q{σ σi x y o}(_:lk σi x=some y)(h:lk σ y=some x):RnI σ σi (.ptr x o) (.ptr y o):=⟨Qnx h⟩
theorem Q4r{σ σi x y}(_:lk σi x=some y)(h:lk σ y=some x):RnI σ σi (.por x) (.por y):=⟨Qdi h⟩
theorem Q4s{σ σi x y o n}(_:lk σi x=some y)(h:lk σ y=some x):RnI σ σi (.win x o n) (.win y o n):=⟨Qn1 h⟩
theorem Q4t{σ σi l l'}(h:RnsI σ σi l l'):RnI σ σi (.agg l) (.agg l'):=⟨Wy h.h⟩
theorem Q4u{σ σi l l'}(h:RnsI σ σi l l'):RnI σ σi (.tup l) (.tup l'):=⟨Qf2 h.h⟩
theorem Q4v{σ σi}:RnsI σ σi [] []:=⟨J9⟩
theorem Q0e{σ σi a d l l'}(h:RnI σ σi a d)(k:RnsI σ σi l l'):RnsI σ σi (a::l) (d::l'):=⟨Qx h.h k.h⟩
structure EmR(σ σi ρ:List (Nat×Nat))(mo:List (Nat×Ct))(ks:List Nat)(em:List (Nat×Ct)):Prop where
 h:BackM σ ρ mo em
theorem Jbu{σ σi ρ mo}:EmR σ σi ρ mo [] []:=⟨trivial⟩
theorem Q9b{σ σi ρ mo x y ks em}(_:lk σ y=some x)(_:lk mo x=some .gone)(d:lk ρ x=some y)(k:EmR σ σi ρ mo ks em):EmR σ σi ρ mo (y::ks) ((y,.gone)::em):=⟨.inr ⟨rfl,x,Zb d⟩,k.h⟩
theorem em_bx{σ σi ρ mo x y ks em E ly d}(g:lk σ y=some x)(e:lk mo x=some (.bx E ly))(f:RnI σ σi ly d)(k:EmR σ σi ρ mo ks em):EmR σ σi ρ mo (y::ks) ((y,.bx E d)::em):=⟨.inl ⟨x,_,g,e,rc_bx f.h⟩,k.h⟩
theorem em_sl{σ σi ρ mo x y ks em E n ls}(f:lk σ y=some x)(d:lk mo x=some (.sl E n ls))(e:IFs ls)(k:EmR σ σi ρ mo ks em):EmR σ σi ρ mo (y::ks) ((y,.sl E n ls)::em):=⟨.inl ⟨x,_,f,d,rc_sl e⟩,k.h⟩
theorem em_ob{σ σi ρ mo x y ks em o}(e:lk σ y=some x)(d:lk mo x=some (.ob o))(k:EmR σ σi ρ mo ks em):EmR σ σi ρ mo (y::ks) ((y,.ob o)::em):=⟨.inl ⟨x,_,e,d,rc_ob⟩,k.h⟩
theorem em_ch{σ σi ρ mo x y ks em o}(e:lk σ y=some x)(d:lk mo x=some (.ch o))(k:EmR σ σi ρ mo ks em):EmR σ σi ρ mo (y::ks) ((y,.ch o)::em):=⟨.inl ⟨x,_,e,d,rc_ch⟩,k.h⟩
theorem em_mp{σ σi ρ mo x y ks em d ls}(g:lk σ y=some x)(e:lk mo x=some (.mp d ls))(f:IFs ls)(k:EmR σ σi ρ mo ks em):EmR σ σi ρ mo (y::ks) ((y,.mp d ls)::em):=⟨.inl ⟨x,_,g,e,rc_mp f⟩,k.h⟩
structure DropM(mm:Nat->Option Ct)(sm:List Nat)(em em':List (Nat×Ct)):Prop where
 h:up mm em=up mm em'
theorem Jii{mm d}:DropM mm d [] []:=⟨rfl⟩
theorem Jf5{mm e id c em d}(_:anyB e id=false)(k:DropM mm e em d):DropM mm e ((id,c)::em) ((id,c)::d):=⟨by
 funext i;have:=congrFun k.h i;simp only[up,lk] at this |-;cases Nat.beq id i
 simpa using this
 rfl⟩
theorem Jf6{mm e id c em d}(_:anyB e id=true)(h:mm id=some c)(g:lk em id=none)(k:DropM mm e em d):DropM mm e ((id,c)::em) d:=⟨by
 rw[<-k.h];funext i;simp only[up,lk];cases f:Nat.beq id i;rfl;have:=xm f;subst this
 rw[g,h];rfl⟩
theorem Q4w{ρ mm x y c d r}(e:lk ρ x=some y)(f:mm y=some c)(g:RnC ρ c d)(k:MiF ρ mm r):MiF ρ mm ((x,d)::r):=⟨⟨_,_,e,f,g⟩,k⟩
section
variable {X:Cx}{st:Nat->Option Ly}{mm:Nat->Option Ct}{ty:TypeId}{pos:String}{af:Array Edge}
theorem c0{d f args argTypes largs res}(hf:FnOk X.P f largs [] res [])(hd:Nat.blt d X.N=true:=by exact rfl)(g:autoParam (ArgF st [] args largs) tG_._auto_1)(e:IF res:=by exact CIF.h):
 OpS X st mm ⟨some d,.call { callee:=.value (.func f),args:=⟨args⟩,argTypes:=argTypes },ty,pos,af,none⟩ [(d,res)] []:=⟨call0 hf g e hd⟩
theorem cG{d f args argTypes largs mi res mo res' em e}(hf:FnOk X.P f largs mi res mo)(bs:List Nat)(τ:List (Nat×Nat))(v:List Nat)(hd:Nat.blt d X.N=true:=by exact rfl)
 (u:autoParam (ArgF st (zpK mi bs) args largs) tG_._auto_1)
 (r:MiF (zpK mi bs) mm mi:=by (repeat (first | exact trivial | refine Q4w rfl (by first | exact rfl | exact(Ag.get oe rfl).trans rfl) (by first | exact rc_sl CIFs.h | exact rc_bx (by (repeat' first | exact rn_id CIF.h | exact J7 rfl | exact J9 | refine Qx ?_ ?_ | refine Wy ?_ | exact Qnx rfl | exact Qdi rfl | exact Qn1 rfl | refine Qf2 ?_ | exact Qn2 rfl | refine Qq4 ?_)) | exact rc_ob | exact rc_ch | exact rc_mp CIFs.h) ?_)))
 (hρm:autoParam (NmM mi (zpK mi bs)) tE_._auto_1) (hρn:nodupB ((zpK mi bs).map (·.2))=true:=by exact rfl)
 (hτ:Fresh mm τ:=by (repeat (first | exact trivial | refine⟨(by first | exact rfl | exact(Ag.get oe rfl).trans rfl),?_⟩)))
 (hσ:SigT τ (zpK mi bs) (τ++swp (zpK mi bs)):=by (repeat (first | exact trivial | refine⟨.inl rfl,?_⟩ | refine⟨.inr rfl,?_⟩)))
 (hσn:nodupB ((τ++swp (zpK mi bs)).map (·.2))=true:=by exact rfl)
 (p:EmR (τ++swp (zpK mi bs)) (swp τ++zpK mi bs) (zpK mi bs) mo (kz τ++bs) em:=by (repeat (first | exact Jbu | (apply Q9b;exact rfl;exact rfl;exact rfl) | (apply em_sl;exact rfl;exact rfl;exact CIFs.h) | (apply em_bx;exact rfl;exact rfl;exact by (repeat' first | exact rj_id CIF.h | exact Q4p rfl rfl | exact Q4v | apply Q0e | apply Q4t | apply Q4u | exact Q4q rfl rfl | exact Q4r rfl rfl | exact Q4s rfl rfl)) | (apply em_ob;exact rfl;exact rfl) | (apply em_ch;exact rfl;exact rfl) | (apply em_mp;exact rfl;exact rfl;exact CIFs.h))))
 (g:autoParam (AllIn em ((zpK mi bs).map (·.2))) tE_._auto_1) (hall2:autoParam (AllIn em (τ.map (·.1))) tE_._auto_1)
 (j:RnI (τ++swp (zpK mi bs)) (swp τ++zpK mi bs) res res':=by (repeat' first | exact rj_id CIF.h | exact Q4p rfl rfl | exact Q4v | apply Q0e | apply Q4t | apply Q4u | exact Q4q rfl rfl | exact Q4r rfl rfl | exact Q4s rfl rfl))
 (k:DropM mm v em e:=by (repeat (first | exact Jii | (apply Jf5;exact rfl) | (apply Jf6;exact rfl;exact(by first | exact rfl | exact(Ag.get oe rfl).trans rfl);exact rfl)))) :
 OpS X st mm ⟨some d,.call { callee:=.value (.func f),args:=⟨args⟩,argTypes:=argTypes },ty,pos,af,none⟩ [(d,res')] e:=⟨by
 have h:=callG (ty:=ty) (pos:=pos) (af:=af) (argTypes:=argTypes) (zpK mi bs) τ (τ++swp (zpK mi bs)) hf u (MiF.get r) hρm hρn hτ hσ hσn p.h g hall2 j.h hd;intro a w γ K Q hi t
 exact h a w γ K Q hi λs w' γ' q=>t s w' γ' (k.h ▸ q)⟩
end
section
variable {R:Type}{X:Cx}{l:List (Nat×Ly)}{m:List (Nat×Ct)}{md:Option R}{Q:R->Exit->Act->World->Prop}{G:R->Act->World->Prop}
theorem b{α:Type}{x:Option α}{f:α->Option R}(h:∀ y,x=some y->Sq X l m (f y) G):Sq X l m (x.bind f) G:=bd h
theorem o{d op ty pos after}{ops:Array Oper}{rest:List Oper}{el em}(h:OpS X (lk l) (lk m) ⟨d,op,ty,pos,after,none⟩ el em)
 (k:Sq X (el++l) (em++m) md (λr=>wpList X.P ops (Q r) rest)):Sq X l m md (λr=>wpList X.P ops (Q r) (⟨d,op,ty,pos,after,none⟩::rest)):=so h.h k
theorem og'{d op ty pos after j b e}{ops:Array Oper}{rest:List Oper}{el em}(h:OpS X (lk l) (lk m) ⟨d,op,ty,pos,after,none⟩ el em)
 (k:Sq X (el++l) (em++m) md (λr=>wpList X.P ops (Q r) rest)) (f:((ops[j]?).bind (·.dst))=some e:=by exact rfl) (g:lk l e=some (bl b):=by exact rfl):Sq X l m md (λr=>wpList X.P ops (Q r) (⟨d,op,ty,pos,after,some (j,b)⟩::rest)):=sg e f g h.h k
theorem c{b:Bool}{c:Operand}{x y:Code}{d e:Option R} 
 (f:Sq X l m d (λr=>x.wp X.P (Q r))) (g:Sq X l m e (λr=>y.wp X.P (Q r))) (j:OpdF (lk l) c (bl b):=by exact rfl) :
 Sq X l m (bif b then d else e) (λr=>(Code.cond c x y).wp X.P (Q r)):=scond j f g
structure CallO(X:Cx)(st:Nat->Option Ly)(α:Type)(md1:Option α)(f:Nat)(args:List Operand)(d:Nat)(res:α->Ly):Prop where
 h:∃ largs,(∀ r,md1=some r->FnOk X.P f largs [] (res r) [])/\ArgF st [] args largs/\(∀ r,IF (res r))/\Nat.blt d X.N=true
theorem ca{α:Type}{g:Option α}{f args d largs}{res:α->Ly}(c:∀ r,g=some r->FnOk X.P f largs [] (res r) [])(hd:Nat.blt d X.N=true:=by exact rfl)(j:autoParam (ArgF (lk l) [] args largs) tG_._auto_1)(e:∀ r,IF (res r):=by intro r;exact CIF.h):CallO X (lk l) α g f args d res:=⟨_,c,j,e,hd⟩
theorem cb{α:Type}{g:Option α}{k:α->Option R}{d f args argTypes ty pos af}{res:α->Ly}{ops:Array Oper}{rest:List Oper}(c:CallO X (lk l) α g f args d res)
 (h:∀ r,Sq X ((d,res r)::l) m (k r) (λr=>wpList X.P ops (Q r) rest)) :
 Sq X l m (g.bind k) (λr=>wpList X.P ops (Q r) (⟨some d,.call { callee:=.value (.func f),args:=⟨args⟩,argTypes:=argTypes },ty,pos,af,none⟩::rest)):=by
 obtain⟨largs,c,j,e,hd⟩:=c;exact bd λr hr=>s1 (call0 (c r hr) j (e r) hd) (h r)
def dI(l:List Nat):List (Nat×Nat):=l.map λx=>(x,x)
theorem eI{l':List (Nat×Ly)}(h:autoParam (SubL l' l) tH_._auto_1):Ent X l [] l' []:=entI h eqm0
theorem eR{l' m'}(σ:List (Nat×Nat))(f:nodupB ((alv σ m').map (·.2))=true:=by exact rfl)(hk:KeepS σ X.g0:=by exact keepS oe (by (repeat (first | exact trivial | refine⟨rfl,?_⟩))))(hs:autoParam (NmM m' σ) tE_._auto_1)
 (e:autoParam (RnM σ m m') tI_._auto_1)
 (d:RnL σ l l':=by (repeat (first | exact trivial | refine⟨⟨_,rfl,(by (repeat' first | exact rn_id CIF.h | exact J7 rfl | exact J9 | refine Qx ?_ ?_ | refine Wy ?_ | exact Qnx rfl | exact Qdi rfl | exact Qn1 rfl | refine Qf2 ?_ | exact Qn2 rfl | refine Qq4 ?_))⟩,?_⟩))):Ent X l m l' m':=entR σ f hk hs e d
structure ResL(lys:List Ly)(ly:Ly):Prop where
 h:resL lys=ly
theorem Q4x{l}(h:resL l=.tup l):ResL l (.tup l):=⟨h⟩
theorem Q4y{ly}:ResL [ly] ly:=⟨rfl⟩
theorem Jij{P}:ResF P l m [] []:=trivial
theorem Jik{P t rs ly d}(h:lk l t=some ly)(k:ResF P l m rs d):ResF P l m (.tmp t::rs) (ly::d):=⟨h,k⟩
theorem Jf7{P t T rs ly d id E}(h:lk l t=some (.own id))(e:lk m id=some (.bx E ly))(f:Shp P T ly.isN ly.sz)(k:ResF P l m rs d):ResF P l m (.cell t T::rs) (ly::d):=⟨⟨_,_,h,e,f⟩,k⟩
theorem rt{P:Program}{N:Nat}{w0:World}{S0 γ0}{mi:List (Nat×Ct)}{R:Type}{res:R->Ly}{mo:R->List (Nat×Ct)}{fn:Func}{l:List (Nat×Ly)}{m:List (Nat×Ct)}{r:R}{rs f d e}(σ:List (Nat×Nat))
 (hγ:∀ id,lk mi id=none->γ0 id=none:=by assumption) (k:e=.ret\/e=.normal:=by first | exact .inl rfl | exact .inr rfl) (hr:fn.results=⟨rs⟩:=by exact rfl) (g:ResL d (res r):=by first | exact Q4x rfl | exact Q4y)
 (j:ResF P l m rs f:=by (repeat (first | exact Jij | (apply Jik;exact rfl) | (apply Jf7;exact rfl;exact rfl;exact CSh.h))))
 (s:nodupB ((alv σ (mo r)).map (·.2))=true:=by exact rfl) (hk:autoParam (KpL σ mi) tH_._auto_1) (hs:autoParam (NmM (mo r) σ) tE_._auto_1)
 (q:autoParam (RnM σ m (mo r)) tI_._auto_1) (p:Rns σ f d:=by (repeat' first | exact rn_id CIF.h | exact J7 rfl | exact J9 | refine Qx ?_ ?_ | refine Wy ?_ | exact Qnx rfl | exact Qdi rfl | exact Qn1 rfl | refine Qf2 ?_ | exact Qn2 rfl | refine Qq4 ?_)) :
 Sq ⟨P,N,w0,S0,Ow γ0 (lk mi),γ0,[]⟩ l m (some r) (λr=>bodyPost P fn (RetP w0 S0 γ0 mi (res r) (mo r)) e):=ret σ rs f d e hγ k hr j s hk hs q p g.h
theorem fs{P:Program}{f N:Nat}{fn:Func}{c:Code}{args:List Ly}{mi:List (Nat×Ct)}{R:Type}{res:R->Ly}{mo:R->List (Nat×Ct)}{md:Option R}
 (hf:P.funcs[f]?=some fn) (h:∀ w S0 γ,(∀ id,lk mi id=none->γ id=none)->Sq ⟨P,N,w,S0,Ow γ (lk mi),γ,[]⟩ (argl 0 args) mi md (λr=>c.wp P (bodyPost P fn (RetP w S0 γ mi (res r) (mo r)))))
 (hb:fn.body=some c:=by exact rfl) (hN:fn.ntmps=N:=by exact rfl) (hname:(fn.name == "runtime.NumGoroutine")=false:=by kernel_rfl) (hl:Nat.ble args.length N=true:=by exact rfl) :
 ∀ r,md=some r->FnOk P f args mi (res r) (mo r):=Q4d hf hb hN hname hl h
theorem tK_{p:Prop}(h:p:=by (repeat (first | exact rfl | refine⟨_,_,_,tA_,(by exact rfl),(by exact rfl),(by exact rfl),xm (by exact rfl),?_⟩))):p:=h
theorem tO_{p:Prop}(h:p:=by (repeat (first | exact rfl | refine⟨_,_,_,tA_,(by exact rfl),(by exact rfl),(by exact rfl),(by exact rfl),(by exact rfl),?_⟩))):p:=h
theorem tL_{p:Prop}(h:p:=by (repeat (first | exact trivial | refine⟨(by exact rfl),tA_,(by exact rfl),(by exact rfl),?_⟩))):p:=h
section
variable {X:Cx}{st:Nat->Option Ly}{mm:Nat->Option Ct}{ty:TypeId}{pos:String}{af:Array Edge}
theorem mB(l:List Ly){d T parts pl e}(hd:Nat.blt d X.N=true:=by exact rfl)(j:Plc X.P T pl:=by exact CPl.h)(h:∃ k b z,TyI X.P T k b z/\Zr e z.cells.toList:=by exact CZy.h)(p:autoParam (BPart st pl parts e (.agg l)) tK_._auto_1):OpS X st mm ⟨some d,.build T ⟨parts⟩,ty,pos,af,none⟩ [(d,.agg l)] []:=by obtain⟨k,b,z,f,g⟩:=h;exact⟨bld j f g p hd⟩
theorem mAr(l:List Ly){d T n E parts k b z f}(hd:Nat.blt d X.N=true:=by exact rfl)(r:X.P.underlying T=some (.array n E):=by exact CUn.h)(h:∃ k b z,TyI X.P T k b z/\Zr f z.cells.toList:=by exact CZy.h)(q:TyI X.P E k b z:=by exact CTy.h)(e:(parts.all λp=>Nat.blt p.1 n)=true:=by exact rfl)(s:autoParam (APart st k parts f (.agg l)) tO_._auto_1):OpS X st mm ⟨some d,.build T ⟨parts⟩,ty,pos,af,none⟩ [(d,.agg l)] []:=by
 obtain⟨k,b,z,g,j⟩:=h;exact⟨bldA r g q j e s hd⟩
theorem mS(y:Nat)(ls:List Ly){d T len parts E k b z}(hd:Nat.blt d X.N=true:=by exact rfl)(s:autoParam (mm y=none) tB_._auto_1)(q:X.P.underlying T=some (.slice E):=by exact CUn.h)(p:TyI X.P E k b z:=by exact CTy.h)(t:z.cells.size=k:=by exact rfl)(e:parts.length=len:=by exact rfl)(j:ls.length=len:=by exact rfl)(g:Nat.ble (len*k) 16777216=true:=by exact rfl)(f:Nat.blt 0 k=true:=by exact rfl)(r:autoParam (Parts st k 0 parts ls) tL_._auto_1):
 OpS X st mm ⟨some d,.buildSlice T len ⟨parts⟩,ty,pos,af,none⟩ [(d,.own y)] [(y,.sl E k ls)]:=⟨bsl q p t e j g f r s hd⟩
end
section
variable {R:Type}{X:Cx}{l:List (Nat×Ly)}{m:List (Nat×Ct)}{md:Option R}{Q:R->Exit->Act->World->Prop}{G:R->Act->World->Prop}{a:Prop}
theorem zb{α:Type}{x:Option α}{f:α->Option R}(n:List Nat)(k:∀ y,x=some y->Sq X l m (f y) G)(h:autoParam (Hold (Sq X l m (x.bind f) G)->Cnt n a) z._auto_1):a:=(h ⟨b k⟩).h
theorem zc{b:Bool}{c:Operand}{x y:Code}{d e:Option R}(n:List Nat)(h:autoParam (Hold (Sq X l m (bif b then d else e) (λr=>(Code.cond c x y).wp X.P (Q r)))->Cnt n a) z._auto_1)
 (j:OpdF (lk l) c (bl b):=by exact rfl) (f:Sq X l m d (λr=>x.wp X.P (Q r))) (g:Sq X l m e (λr=>y.wp X.P (Q r))):a:=(h ⟨scond j f g⟩).h
theorem zi{b:Bool}{e f:Option R}(n:List Nat)(d:Nat)(h:autoParam (Hold (Sq X l m (bif b then e else f) G)->Cnt n a) z._auto_1)(hd:lk l d=some (bl b):=by exact rfl)
 (g:Sq X ((d,bl true)::l) m e G) (j:Sq X ((d,bl false)::l) m f G):a:=(h ⟨sifd d hd g j⟩).h
theorem zk{α:Type}{g:Option α}{k:α->Option R}{P:Program}{d f args argTypes ty pos af largs}{res:α->Ly}{ops:Array Oper}{rest:List Oper}(n:List Nat)(c:∀ r,g=some r->FnOk P f largs [] (res r) [])
 (h:∀ r,Sq X ((d,res r)::l) m (k r) (λr=>wpList X.P ops (Q r) rest))
 (q:autoParam (Hold (Sq X l m (g.bind k) (λr=>wpList X.P ops (Q r) (⟨some d,.call { callee:=.value (.func f),args:=⟨args⟩,argTypes:=argTypes },ty,pos,af,none⟩::rest)))->Cnt n a) z._auto_1)
 (j:P=X.P:=by exact rfl) (hd:Nat.blt d X.N=true:=by exact rfl) (p:autoParam (ArgF (lk l) [] args largs) tG_._auto_1) (e:∀ r,IF (res r):=by intro r;exact CIF.h):a:=by
 subst j;exact(q ⟨cb (ca c hd p e) h⟩).h
theorem zj{σ:Type}{L:σ->List (Nat×Ly)}{j:σ->Option R}{s:σ}(n:List Nat)(k:∀ s,Sq X (L s) [] (j s) G)(d:autoParam (Hold (Sq X l [] (j s) G)->Cnt n a) z._auto_1)(h:autoParam (SubL (L s) l) tH_._auto_1):a:=(d ⟨sj (k s) (eI h)⟩).h
theorem zJ{σ':Type}{L:σ'->List (Nat×Ly)}{M:σ'->List (Nat×Ct)}{j:σ'->Option R}{s:σ'}(n:List Nat)(k:∀ s,Sq X (L s) (M s) (j s) G)(σ:List (Nat×Nat):=dI (kz (M s)))(g:autoParam (Hold (Sq X l m (j s) G)->Cnt n a) z._auto_1)
 (f:nodupB ((alv σ (M s)).map (·.2))=true:=by exact rfl) (hk:autoParam (KeepS σ X.g0) eR._auto_2) (hs:autoParam (NmM (M s) σ) tE_._auto_1) (e:autoParam (RnM σ m (M s)) tI_._auto_1) (d:autoParam (RnL σ l (L s)) eR._auto_3):a:=(g ⟨sj (k s) (eR σ f hk hs e d)⟩).h
theorem zg{σ τ:Type}{L:σ->List (Nat×Ly)}{k:τ->Option R}{s:σ}(n:List Nat)(d:autoParam (Hold (Sq X l [] (some (Lp.go s)) (λo=>LpQ X L (λ_=>[]) k Q o .normal))->Cnt n a) z._auto_1)(h:autoParam (SubL (L s) l) tH_._auto_1):a:=(d ⟨sgo (eI h)⟩).h
theorem zG{σ' τ:Type}{L:σ'->List (Nat×Ly)}{M:σ'->List (Nat×Ct)}{k:τ->Option R}{s:σ'}(n:List Nat)(σ:List (Nat×Nat):=dI (kz (M s)))(g:autoParam (Hold (Sq X l m (some (Lp.go s)) (λo=>LpQ X L M k Q o .normal))->Cnt n a) z._auto_1)
 (f:nodupB ((alv σ (M s)).map (·.2))=true:=by exact rfl) (hk:autoParam (KeepS σ X.g0) eR._auto_2) (hs:autoParam (NmM (M s) σ) tE_._auto_1) (e:autoParam (RnM σ m (M s)) tI_._auto_1) (d:autoParam (RnL σ l (L s)) eR._auto_3):a:=(g ⟨sgo (eR σ f hk hs e d)⟩).h
theorem zr{P:Program}{N:Nat}{w0:World}{S0 γ0}{mi:List (Nat×Ct)}{res:R->Ly}{mo:R->List (Nat×Ct)}{fn:Func}{r:R}{rs g d e}(n:List Nat)(σ:List (Nat×Nat):=[])
 (t:autoParam (Hold (Sq ⟨P,N,w0,S0,Ow γ0 (lk mi),γ0,[]⟩ l m (some r) (λr=>bodyPost P fn (RetP w0 S0 γ0 mi (res r) (mo r)) e))->Cnt n a) z._auto_1)
 (hγ:∀ id,lk mi id=none->γ0 id=none:=by assumption) (k:e=.ret\/e=.normal:=by first | exact .inl rfl | exact .inr rfl) (hr:fn.results=⟨rs⟩:=by exact rfl) (f:ResL d (res r):=by first | exact Q4x rfl | exact Q4y)
 (j:autoParam (ResF P l m rs g) rt._auto_5) (s:nodupB ((alv σ (mo r)).map (·.2))=true:=by exact rfl) (hk:autoParam (KpL σ mi) tH_._auto_1) (hs:autoParam (NmM (mo r) σ) tE_._auto_1)
 (q:autoParam (RnM σ m (mo r)) tI_._auto_1) (p:autoParam (Rns σ g d) rt._auto_7):a:=(t ⟨rt σ hγ k hr f j s hk hs q p⟩).h
end
structure FzLs(id k:Nat)(ls:List Ly)(l:List (Nat×Ly))(ds:List Nat)(l1:List (Nat×Ly)):Prop where
 h:FzL id k ls l l1
structure FzMs(id k:Nat)(ls:List Ly)(m:List (Nat×Ct))(ds:List Nat)(m1:List (Nat×Ct)):Prop where
 h:FzM id k ls m m1
theorem Jil{id k ls l}:FzLs id k ls l [] []:=⟨trivial⟩
theorem Jf8{id k ls l d f g ly e}(h:lk l d=some ly)(j:FzR id k ls ly e)(p:FzLs id k ls l f g):FzLs id k ls l (d::f) ((d,e)::g):=⟨⟨_,h,j⟩,p.h⟩
theorem Jim{id k ls m}:FzMs id k ls m [] []:=⟨trivial⟩
theorem Jf9{id k ls m d f g E ly e}(q:Nat.beq id d=false)(h:lk m d=some (.bx E ly))(j:FzR id k ls ly e)(p:FzMs id k ls m f g):FzMs id k ls m (d::f) ((d,.bx E e)::g):=⟨⟨q,_,h,j⟩,p.h⟩
theorem Jbv{id k ls ly}(_:IF ly):FzR id k ls ly ly:=fz_id
theorem fz(id:Nat)(p r:List Nat){E k ls g j}(K:Sq X (g++l) (j++(id,.gone)::m) md G)(q:lk m id=some (.sl E k ls):=by exact rfl)(d:IFs ls:=by exact CIFs.h)
 (e:FzLs id k ls l p g:=by (repeat (first | exact Jil | (apply Jf8;exact rfl;exact by (repeat' first | exact Jbq | exact Jbv CIF.h | exact Q82 | apply Q4f | apply Jbr | exact fz_id))))) (f:FzMs id k ls m r j:=by (repeat (first | exact Jim | (apply Jf9;exact rfl;exact rfl;exact by (repeat' first | exact Jbq | exact Jbv CIF.h | exact Q82 | apply Q4f | apply Jbr | exact fz_id))))):Sq X l m md G:=frz g j q d e.h f.h K
theorem Q0f{α:Type}:∀(a:List (List (Nat×α))) (e l),fin (a++[e]) l=e++fin a l
 | [],_,_=>rfl
 | x::a,e,l=>Q0f a e (x++l)
theorem Q2a{ops:Array Oper}:∀ {ls:List Oper}{f:List D}{l m o os d},Qkr X ops l m ls f->(∀ st mm,Ag st (lk (fin (f.map (·.el)) l)) d.rs->Ag mm (lk (fin (f.map (·.em)) m)) d.ri->OpG X ops st mm o d.el d.em)->os=ls++[o]->Qkr X ops l m os (f++[d])
 | [],[],l,m,o,os,d,_,h,e=>by subst e;exact⟨h,trivial⟩
 | j::ls,g::f,l,m,o,os,d,hs,h,e=>by subst e;exact⟨hs.1,Q2a hs.2 h rfl⟩
 | [],_::_,_,_,_,_,_,h,_,_=>by simp[Qkr] at h
 | _::_,[],_,_,_,_,_,h,_,_=>by simp[Qkr] at h
def SqD(X:Cx)(Wp:R->Act->World->Prop)(d:List Oper)(f:List (Nat×Ly))(g:List (Nat×Ct))(md:Option R)(_:R->Exit->Act->World->Prop)(e:List D)(l:List (Nat×Ly))(m:List (Nat×Ct))(ls:List Oper):Prop:=
 ∀ pre,d=pre++ls->Qkr X ⟨d⟩ f g pre e->fin (e.map (·.el)) f=l->fin (e.map (·.em)) g=m->Sq X f g md Wp
theorem sd{id:Nat}{ls:List Oper}(h:SqD X (λr=>(Code.region id ⟨ls⟩ true).wp X.P (Q r)) ls l m md Q [] l m ls):Sq X l m md (λr=>(Code.region id ⟨ls⟩ true).wp X.P (Q r)):=h [] rfl trivial rfl rfl
theorem de{id:Nat}{d q s f}(hf:X.P.follows .mixedOrders=true)(k:Sq X l m md (λr=>Q r .normal))(g:drawOk d f 0 [] []=true:=by kernel_rfl):SqD X (λr=>(Code.region id ⟨d⟩ true).wp X.P (Q r)) d q s md Q f l m []:=by intro pre e hs j p;simp at e;subst e;intro r a w γ hr hi;refine wp_region_any hf (sdrawA f g hs ?_ r a w γ hr hi);rw[j,p];exact k
theorem dx{Wp d p q f o os}(rs ri:List Nat){el em}(h:∀ st mm,Ag st (lk l) rs->Ag mm (lk m) ri->OpG X ⟨d⟩ st mm o el em)(k:SqD X Wp d p q md Q (f++[⟨rs,ri,el,em⟩]) (el++l) (em++m) os):SqD X Wp d p q md Q f l m (o::os):=by intro pre e hs g j;refine k (pre++[o]) (by simp[e]) (Q2a hs (by simpa only[g,j] using h) rfl) ?_ ?_;rw[xu];exact(Q0f _ _ _).trans (by rw[g]);rw[xu];exact(Q0f _ _ _).trans (by rw[j])
def tmps:List Operand->List Nat
 | []=>[]
 | .tmp t::r=>t::tmps r
 | _::r=>tmps r
def opRs(ls:Array Oper)(o:Oper):List Nat:=(match o.guard with
 | some (j,_)=>match (ls[j]?).bind (·.dst) with
   | some d=>[d]
   | none=>[]
 | none=>[])++tmps o.op.operands.toList
theorem dd{Wp e g j f os d op ty pos after}(ri:List Nat){el em}(h:∀ st mm,Ag st (lk l) (opRs ⟨e⟩ ⟨d,op,ty,pos,after,none⟩)->Ag mm (lk m) ri->OpS X st mm ⟨d,op,ty,pos,after,none⟩ el em)
 (k:SqD X Wp e g j md Q (f++[⟨opRs ⟨e⟩ ⟨d,op,ty,pos,after,none⟩,ri,el,em⟩]) (el++l) (em++m) os):SqD X Wp e g j md Q f l m (⟨d,op,ty,pos,after,none⟩::os):=dx _ ri (λst mm p q=>og (h st mm p q).h) k
theorem dG{Wp e q r g os d op ty pos after j b f}(ri:List Nat){el em}(h:∀ st mm,Ag st (lk l) (opRs ⟨e⟩ ⟨d,op,ty,pos,after,some (j,b)⟩)->Ag mm (lk m) ri->OpS X st mm ⟨d,op,ty,pos,after,none⟩ el em)
 (k:SqD X Wp e q r md Q (g++[⟨opRs ⟨e⟩ ⟨d,op,ty,pos,after,some (j,b)⟩,ri,el,em⟩]) (el++l) (em++m) os) (t:(((⟨e⟩:Array Oper)[j]?).bind (·.dst))=some f:=by exact rfl) (u:lk l f=some (bl b):=by exact rfl) (hr:anyB (opRs ⟨e⟩ ⟨d,op,ty,pos,after,some (j,b)⟩) f=true:=by exact rfl):SqD X Wp e q r md Q g l m (⟨d,op,ty,pos,after,some (j,b)⟩::os):=dx _ ri (λst mm p s=>ogG f t ((p.get hr).trans u) (h st mm p s).h) k
structure CntD(n:List (List Nat))(p:Prop):Prop where
 h:p
theorem qd_o{Wp e g j f os d op ty pos after ri p}{el em}(h:∀ st mm,Ag st (lk l) (opRs ⟨e⟩ ⟨d,op,ty,pos,after,none⟩)->Ag mm (lk m) ri->OpS X st mm ⟨d,op,ty,pos,after,none⟩ el em)
 (k:CntD p (SqD X Wp e g j md Q (f++[⟨opRs ⟨e⟩ ⟨d,op,ty,pos,after,none⟩,ri,el,em⟩]) (el++l) (em++m) os)):CntD (ri::p) (SqD X Wp e g j md Q f l m (⟨d,op,ty,pos,after,none⟩::os)):=⟨dd ri h k.h⟩
theorem qd_g{Wp e p q g os d op ty pos after j b f ri r}{el em}(s:(((⟨e⟩:Array Oper)[j]?).bind (·.dst))=some f)(t:lk l f=some (bl b))(hr:anyB (opRs ⟨e⟩ ⟨d,op,ty,pos,after,some (j,b)⟩) f=true)(h:∀ st mm,Ag st (lk l) (opRs ⟨e⟩ ⟨d,op,ty,pos,after,some (j,b)⟩)->Ag mm (lk m) ri->OpS X st mm ⟨d,op,ty,pos,after,none⟩ el em)
 (k:CntD r (SqD X Wp e p q md Q (g++[⟨opRs ⟨e⟩ ⟨d,op,ty,pos,after,some (j,b)⟩,ri,el,em⟩]) (el++l) (em++m) os)):CntD (ri::r) (SqD X Wp e p q md Q g l m (⟨d,op,ty,pos,after,some (j,b)⟩::os)):=⟨dG ri h k.h s t hr⟩
theorem qd_B{Wp e q r p os d op ty pos after j b g f ri s}(v:(((⟨e⟩:Array Oper)[j]?).bind (·.dst))=some f)(w:lk l f=some (bl g))(u:g=!b)(hr:anyB (opRs ⟨e⟩ ⟨some d,op,ty,pos,after,some (j,b)⟩) f=true)(hd:Nat.blt d X.N=true)
 (k:CntD s (SqD X Wp e q r md Q (p++[⟨opRs ⟨e⟩ ⟨some d,op,ty,pos,after,some (j,b)⟩,ri,[(d,.tup [])],[]⟩]) ((d,.tup [])::l) m os)):CntD (ri::s) (SqD X Wp e q r md Q p l m (⟨some d,op,ty,pos,after,some (j,b)⟩::os)):=⟨dx _ ri (λ_ _ t _=>ogB f v ((t.get hr).trans (u ▸ w)) hd) k.h⟩
theorem qd_U{Wp e p q g os d op ty pos after j b f ri r}(t:(((⟨e⟩:Array Oper)[j]?).bind (·.dst))=some f)(u:lk l f=some (.tup []))(hr:anyB (opRs ⟨e⟩ ⟨some d,op,ty,pos,after,some (j,b)⟩) f=true)(hd:Nat.blt d X.N=true)
 (k:CntD r (SqD X Wp e p q md Q (g++[⟨opRs ⟨e⟩ ⟨some d,op,ty,pos,after,some (j,b)⟩,ri,[(d,.tup [])],[]⟩]) ((d,.tup [])::l) m os)):CntD (ri::r) (SqD X Wp e p q md Q g l m (⟨some d,op,ty,pos,after,some (j,b)⟩::os)):=⟨dx _ ri (λ_ _ s _=>ogU f t ((s.get hr).trans u) hd) k.h⟩
theorem cntD0{p:Prop}(h:p):CntD [] p:=⟨h⟩
theorem zd{a b:Prop}(n:List (List Nat))(h:Hold b->CntD n a:=by
 intro d
 repeat (first
  | refine qd_o (λ_ _ _ _=>ops) ?_
  | refine qd_g rfl rfl rfl (λ_ _ _ _=>ops) ?_ | refine qd_B rfl rfl rfl rfl rfl ?_ | refine qd_U rfl rfl rfl rfl ?_)
 exact cntD0 d.h) (k:b):a:=(h ⟨k⟩).h
theorem obk{st mm o d b c em}(e:b=c)(h:OpS X st mm o [(d,bl b)] em):OpS X st mm o [(d,bl c)] em:=⟨okb e h.h⟩
theorem of{st mm o el em}(h:OpOk X st mm o el em):OpS X st mm o el em:=⟨h⟩
theorem tV{st mm o d y E k ls em}(h:OpS X st mm o [(d,.own y)] ((y,.sl E k ls)::em))(e:IFs ls:=by exact CIFs.h):OpS X st mm o [(d,sli k ls)] ((y,.gone)::em):=⟨toV h.h e⟩
class CFo (P:Program):Prop where h:P.follows .mixedOrders=true
theorem zs{a:Prop}{id:Nat}{ls:List Oper}(n:List (List Nat))(k:a)(h:autoParam (Hold a->CntD n (SqD X (λr=>(Code.region id ⟨ls⟩ true).wp X.P (Q r)) ls l m md Q [] l m ls)) zd._auto_1):Sq X l m md (λr=>(Code.region id ⟨ls⟩ true).wp X.P (Q r)):=sd (h ⟨k⟩).h
theorem zx{id:Nat}{ls:List Oper}{d l' m'}(n:List (List Nat))(k:Sq X l' m' md (λr=>Q r .normal))(h:autoParam (Hold (SqD X (λr=>(Code.region id ⟨ls⟩ true).wp X.P (Q r)) ls l m md Q d l' m' [])->CntD n (SqD X (λr=>(Code.region id ⟨ls⟩ true).wp X.P (Q r)) ls l m md Q [] l m ls)) zd._auto_1)
 (hf:X.P.follows .mixedOrders=true:=by exact CFo.h) (e:drawOk ls d 0 [] []=true:=by kernel_rfl):Sq X l m md (λr=>(Code.region id ⟨ls⟩ true).wp X.P (Q r)):=sd (h ⟨de hf k e⟩).h
theorem zy{a:Prop}{id:Nat}{d:List Oper}{g j e}(n:List (List Nat))(h:autoParam (Hold (SqD X (λr=>(Code.region id ⟨d⟩ true).wp X.P (Q r)) d g j md Q e l m [])->CntD n a) zd._auto_1)
 (hf:X.P.follows .mixedOrders=true:=by exact CFo.h) (f:drawOk d e 0 [] []=true:=by kernel_rfl) (k:Sq X l m md (λr=>Q r .normal)):a:=(h ⟨de hf k f⟩).h
theorem dE{id:Nat}{d:List Oper}{g j e}(k:Sq X l m md (λr=>Q r .normal))(hf:X.P.follows .mixedOrders=true:=by exact CFo.h)(f:drawOk d e 0 [] []=true:=by kernel_rfl):SqD X (λr=>(Code.region id ⟨d⟩ true).wp X.P (Q r)) d g j md Q e l m []:=de hf k f
theorem tM_{p:Prop}(h:p:=by intro _ _ _ _;exact tG_):p:=h
theorem dC{P:Program}{Wp e p q j os d f args argTypes ty pos after largs res}(hf:FnOk P f largs [] res [])
 (k:SqD X Wp e p q md Q (j++[⟨opRs ⟨e⟩ ⟨some d,.call { callee:=.value (.func f),args:=⟨args⟩,argTypes:=argTypes },ty,pos,after,none⟩,[],[(d,res)],[]⟩]) ((d,res)::l) m os) (t:P=X.P:=by exact rfl) (hd:Nat.blt d X.N=true:=by exact rfl)
 (u:autoParam (∀(st:Nat->Option Ly) (mm:Nat->Option Ct),Ag st (lk l) (opRs ⟨e⟩ ⟨some d,.call { callee:=.value (.func f),args:=⟨args⟩,argTypes:=argTypes },ty,pos,after,none⟩)->Ag mm (lk m) []->ArgF st [] args largs) tM_._auto_1) (g:IF res:=by exact CIF.h) :
 SqD X Wp e p q md Q j l m (⟨some d,.call { callee:=.value (.func f),args:=⟨args⟩,argTypes:=argTypes },ty,pos,after,none⟩::os):=by
 subst t;exact dd [] (λst mm r s=>c0 hf hd (u st mm r s) g) k
theorem dO{Wp e j p g os d f op ty pos after b c em}(s:b=c)
 (k:SqD X Wp e j p md Q (g++[⟨opRs ⟨e⟩ ⟨d,op,ty,pos,after,none⟩,[],[(f,bl c)],em⟩]) ((f,bl c)::l) (em++m) os) (h:∀ st mm,Ag st (lk l) (opRs ⟨e⟩ ⟨d,op,ty,pos,after,none⟩)->Ag mm (lk m) []->OpS X st mm ⟨d,op,ty,pos,after,none⟩ [(f,bl b)] em:=by intro _ _ _ _;exact ops) :
 SqD X Wp e j p md Q g l m (⟨d,op,ty,pos,after,none⟩::os):=dd [] (λst mm q r=>obk s (h st mm q r)) k
structure RgE{σ:Type}(X:Cx)(l:List (Nat×Ly))(m:List (Nat×Ct))(tc ti tn t2 n:Nat)(L:σ->List (Nat×Ly))(M:σ->List (Nat×Ct))(s0:σ):Prop where
 h0:Ent X l m ((ti,i64 (0:Nat))::(tn,i64 n)::L s0) (M s0)
 hd:(Nat.blt tc X.N && Nat.blt ti X.N && Nat.blt t2 X.N && !(Nat.beq tc ti) && !(Nat.beq tc tn) && !(Nat.beq ti tn) && !(Nat.beq t2 tn) && !(Nat.beq t2 ti))=true
 hk:∀ s,(nkey tc (L s) && nkey ti (L s) && nkey t2 (L s) && nkey tn (L s))=true
theorem rE{σ:Type}{f d e t2 n:Nat}{L:σ->List (Nat×Ly)}{M:σ->List (Nat×Ct)}{s0:σ}(h0:Ent X l m ((d,i64 (0:Nat))::(e,i64 n)::L s0) (M s0))
 (hd:(Nat.blt f X.N && Nat.blt d X.N && Nat.blt t2 X.N && !(Nat.beq f d) && !(Nat.beq f e) && !(Nat.beq d e) && !(Nat.beq t2 e) && !(Nat.beq t2 d))=true:=by exact rfl)
 (hk:∀ s,(nkey f (L s) && nkey d (L s) && nkey t2 (L s) && nkey e (L s))=true:=by intro s;exact rfl):RgE X l m f d e t2 n L M s0:=⟨h0,hd,hk⟩
theorem srN{α σ:Type}{f:Nat->α->σ->Option (Lp σ R)}{xs:List α}{s0:σ}{k:σ->Option R}
 {j id2 e p d g t2 w y A C q u v:Nat}{J K N:String}{E F f3:Array Edge}{B:Code}
 (L:σ->List (Nat×Ly)) (M:σ->List (Nat×Ct)) (h0:RgE X l m p d g t2 xs.length L M s0)
 (I:∀(i:Nat) x s,xs[i]?=some x->Sq X ((d,i64 i)::(g,i64 xs.length)::L s) (M s) (f i x s)
  (λo=>B.wp X.P (LpQ X (λs=>(d,i64 i)::(g,i64 xs.length)::L s) M (λt=>lpK k (.out t)) Q o)))
 (H:∀ s,Sq X (L s) (M s) (k s) (λr=>Q r (.exit e))) :
 Sq X l m ((rangeL f xs 0 s0).bind (lpK k)) (λr=>(Code.loop (.seq (.region j ⟨[⟨some p,.binOp .lss w (.tmp d) (.tmp g) y,q,J,E,none⟩]⟩ false)
  (.seq (.cond (.tmp p) .skip (.exit e)) (.seq B (.region id2 ⟨[⟨some t2,.binOp .add A (.tmp d) (.const (.int .i64 1)) C,u,K,F,none⟩,⟨some d,.move (.tmp t2),v,N,f3,none⟩]⟩ false))))).wp X.P (Q r)):=srangeN L M h0.hd h0.hk h0.h0 I H
theorem su{σ τ:Type}{L:σ->List (Nat×Ly)}{M:σ->List (Nat×Ct)}{k:τ->Option R}{t:τ}{i:Nat}(h:Sq X l m (k t) (λr=>Q r (.exit i))):
 Sq X l m (some (Lp.out t)) (λ(o:Lp σ τ)=>LpQ X L M k Q o (.exit i)):=sout (λh=>by cases h) h
theorem sU{σ τ:Type}{L:σ->List (Nat×Ly)}{M:σ->List (Nat×Ct)}{k:τ->Option R}{t:τ}(h:Sq X l m (k t) (λr=>Q r .ret)):
 Sq X l m (some (Lp.out t)) (λ(o:Lp σ τ)=>LpQ X L M k Q o .ret):=sout (λh=>by cases h) h
end
structure KpE{α:Type}(l:List (Nat×α))(ks:List Nat)(l1:List (Nat×α)):Prop where h:True
theorem Jin{α:Type}{l:List (Nat×α)}:KpE l [] []:=⟨trivial⟩
theorem Jga{α:Type}{l:List (Nat×α)}{k ks v d}(_:lk l k=some v)(_:KpE l ks d):KpE l (k::ks) ((k,v)::d):=⟨trivial⟩
theorem tN_{p:Prop}(h:p:=by (repeat (first | exact Jin | (apply Jga;exact rfl)))):p:=h
section
variable {R:Type}{X:Cx}{l:List (Nat×Ly)}{m:List (Nat×Ct)}{md:Option R}{Q:R->Exit->Act->World->Prop}{G:R->Act->World->Prop}
theorem zq{σ:Type}{x y:Code}{A:(σ->Option R)->Option R}{k:σ->Option R}{d e}(ks f:List Nat)(L:σ->List (Nat×Ly))(M:σ->List (Nat×Ct))
 (h:∀ j:σ->Option R,(∀ s,Sq X (L s++d) (M s++e) (j s) (λr=>y.wp X.P (Q r)))->Sq X l m (A j) (λr=>x.wp X.P (Exit.then (y.wp X.P (Q r)) (Q r))))
 (J:∀ s,Sq X (L s++d) (M s++e) (k s) (λr=>y.wp X.P (Q r)))
 (g:autoParam (KpE l ks d) tN_._auto_1) (p:autoParam (KpE m f e) tN_._auto_1):Sq X l m (jn A k) (λr=>(Code.seq x y).wp X.P (Q r)):=sjq (λs=>L s++d) (λs=>M s++e) h J
theorem yE{σ τ τ0:Type}{body:Code}{f:σ->Option (Lp σ τ)}{N:Nat}{s0:σ}{k:τ->Option R}{d lo}(e:Nat)(inj:τ0->τ)(ks p:List Nat)(L:σ->List (Nat×Ly))(Lo:τ0->List (Nat×Ly))
 (j:(∀ t,Sq X (Lo t++lo) [] (k (inj t)) (λr=>Q r (.exit e)))->∀ s,Sq X (L s++d) [] (f s) (λo=>body.wp X.P (LpQ X (λs=>L s++d) (λ_=>[]) k Q o)))
 (g:∀ t,Sq X (Lo t++lo) [] (k (inj t)) (λr=>Q r (.exit e)))
 (q:autoParam (KpE l ks d) tN_._auto_1) (u:autoParam (KpE l p lo) tN_._auto_1) (h0:autoParam (SubL (L s0++d) l) tH_._auto_1):Sq X l [] ((loopM f N s0).bind k) (λr=>(Code.loop body).wp X.P (Q r)):=
 (sloopE e inj (λs=>L s++d) (λ_=>[]) (λt=>Lo t++lo) (λ_=>[]) (eI h0) j g)
theorem yR{σ' τ τ0:Type}{body:Code}{f:σ'->Option (Lp σ' τ)}{N:Nat}{s0:σ'}{k:τ->Option R}{g d lo mo}(e:Nat)(inj:τ0->τ)(ks y B A:List Nat)(L:σ'->List (Nat×Ly))(M:σ'->List (Nat×Ct))(Lo:τ0->List (Nat×Ly))(Mo:τ0->List (Nat×Ct))
 (q:(∀ t,Sq X (Lo t++lo) (Mo t++mo) (k (inj t)) (λr=>Q r (.exit e)))->∀ s,Sq X (L s++g) (M s++d) (f s) (λo=>body.wp X.P (LpQ X (λs=>L s++g) (λs=>M s++d) k Q o)))
 (j:∀ t,Sq X (Lo t++lo) (Mo t++mo) (k (inj t)) (λr=>Q r (.exit e))) (σ:List (Nat×Nat):=dI (kz (M s0++d)))
 (C:autoParam (KpE l ks g) tN_._auto_1) (v:autoParam (KpE m y d) tN_._auto_1) (E:autoParam (KpE l B lo) tN_._auto_1) (x:autoParam (KpE m A mo) tN_._auto_1)
 (w:nodupB ((alv σ (M s0++d)).map (·.2))=true:=by exact rfl) (hk:autoParam (KeepS σ X.g0) eR._auto_2) (hs:autoParam (NmM (M s0++d) σ) tE_._auto_1) (u:autoParam (RnM σ m (M s0++d)) tI_._auto_1) (p:autoParam (RnL σ l (L s0++g)) eR._auto_3):Sq X l m ((loopM f N s0).bind k) (λr=>(Code.loop body).wp X.P (Q r)):=
 (sloopE e inj (λs=>L s++g) (λs=>M s++d) (λt=>Lo t++lo) (λt=>Mo t++mo) (eR σ w hk hs u p) q j)
theorem nE{α σ:Type}{f:Nat->α->σ->Option (Lp σ R)}{xs:List α}{s0:σ}{k:σ->Option R}{g}
 {q id2 e p d j t2 y A C E u v w:Nat}{K M N:String}{F H f3:Array Edge}{B:Code}(ks:List Nat) (L:σ->List (Nat×Ly))
 (J:∀(i:Nat) x s,xs[i]?=some x->Sq X ((d,i64 i)::(j,i64 xs.length)::(L s++g)) [] (f i x s)
  (λo=>B.wp X.P (LpQ X (λs=>(d,i64 i)::(j,i64 xs.length)::(L s++g)) (λ_=>[]) (λt=>lpK k (.out t)) Q o)))
 (I:∀ s,Sq X (L s++g) [] (k s) (λr=>Q r (.exit e)))
 (O:autoParam (KpE l ks g) tN_._auto_1)
 (hd:(Nat.blt p X.N && Nat.blt d X.N && Nat.blt t2 X.N && !(Nat.beq p d) && !(Nat.beq p j) && !(Nat.beq d j) && !(Nat.beq t2 j) && !(Nat.beq t2 d))=true:=by exact rfl)
 (hk:∀ s,(nkey p (L s++g) && nkey d (L s++g) && nkey t2 (L s++g) && nkey j (L s++g))=true:=by intro s;exact rfl)
 (h0:autoParam (SubL ((d,i64 (0:Nat))::(j,i64 xs.length)::(L s0++g)) l) tH_._auto_1):Sq X l [] ((rangeL f xs 0 s0).bind (lpK k)) (λr=>(Code.loop (.seq (.region q ⟨[⟨some p,.binOp .lss y (.tmp d) (.tmp j) A,u,K,F,none⟩]⟩ false)
  (.seq (.cond (.tmp p) .skip (.exit e)) (.seq B (.region id2 ⟨[⟨some t2,.binOp .add C (.tmp d) (.const (.int .i64 1)) E,v,M,H,none⟩,⟨some d,.move (.tmp t2),w,N,f3,none⟩]⟩ false))))).wp X.P (Q r)):=srN (λs=>L s++g) (λ_=>[]) (rE (eI h0) hd hk) J I
theorem nR{α σ':Type}{f:Nat->α->σ'->Option (Lp σ' R)}{xs:List α}{s0:σ'}{k:σ'->Option R}{g j}
 {u id2 e q d p t2 A C E F v w y:Nat}{V W Y:String}{H I f3:Array Edge}{B:Code}(ks U:List Nat) (L:σ'->List (Nat×Ly)) (M:σ'->List (Nat×Ct))
 (N:∀(i:Nat) x s,xs[i]?=some x->Sq X ((d,i64 i)::(p,i64 xs.length)::(L s++g)) (M s++j) (f i x s)
  (λo=>B.wp X.P (LpQ X (λs=>(d,i64 i)::(p,i64 xs.length)::(L s++g)) (λs=>M s++j) (λt=>lpK k (.out t)) Q o)))
 (J:∀ s,Sq X (L s++g) (M s++j) (k s) (λr=>Q r (.exit e))) (σ:List (Nat×Nat):=dI (kz (M s0++j)))
 (Z:autoParam (KpE l ks g) tN_._auto_1) (P:autoParam (KpE m U j) tN_._auto_1)
 (hd:(Nat.blt q X.N && Nat.blt d X.N && Nat.blt t2 X.N && !(Nat.beq q d) && !(Nat.beq q p) && !(Nat.beq d p) && !(Nat.beq t2 p) && !(Nat.beq t2 d))=true:=by exact rfl)
 (T:∀ s,(nkey q (L s++g) && nkey d (L s++g) && nkey t2 (L s++g) && nkey p (L s++g))=true:=by intro s;exact rfl)
 (S:nodupB ((alv σ (M s0++j)).map (·.2))=true:=by exact rfl) (hk:autoParam (KeepS σ X.g0) eR._auto_2) (hs:autoParam (NmM (M s0++j) σ) tE_._auto_1) (O:autoParam (RnM σ m (M s0++j)) tI_._auto_1) (K:autoParam (RnL σ l ((d,i64 (0:Nat))::(p,i64 xs.length)::(L s0++g))) eR._auto_3):Sq X l m ((rangeL f xs 0 s0).bind (lpK k)) (λr=>(Code.loop (.seq (.region u ⟨[⟨some q,.binOp .lss A (.tmp d) (.tmp p) C,v,V,H,none⟩]⟩ false)
  (.seq (.cond (.tmp q) .skip (.exit e)) (.seq B (.region id2 ⟨[⟨some t2,.binOp .add E (.tmp d) (.const (.int .i64 1)) F,w,W,I,none⟩,⟨some d,.move (.tmp t2),y,Y,f3,none⟩]⟩ false))))).wp X.P (Q r)):=
 srN (λs=>L s++g) (λs=>M s++j) (rE (eR σ S hk hs O K) hd T) N J
end
end Go.Proofs.YteejhjpdcefgfaaGreatDoor
