import Derived.Test.YthdbapalogijdaaGreatDoorSB
namespace Go.Proofs.YthdbapalogijdaaGreatDoor
open Go Go.RowKit
theorem bf{p:Prop}(h:p:=by first | exact rfl | exact(Ag.get (by assumption) rfl).trans rfl | exact kI rfl | exact kB | exact Hv rfl | exact k8 rfl | exact tx rfl | exact kS rfl | exact xW | exact WG | exact Dh):p:=h
theorem kA{p:Prop}(h:p:=by first | exact rfl | exact(Ag.get (by assumption) rfl).trans rfl):p:=h
theorem mG{p:Prop}(h:p:=by first | exact nw | exact UR | exact gv):p:=h
theorem Dj{p:Prop}(h:p:=by first | assumption | exact Jjf (by assumption)):p:=h
theorem jT{p:Prop}(h:p:=by (repeat (first | exact trivial | refine⟨⟨_,rfl⟩,?_⟩))):p:=h
theorem H0{p:Prop}(h:p:=by first | exact rfl | exact nzI (by assumption) | exact Nh (by assumption)):p:=h
theorem qS{p:Prop}(h:p:=by (repeat (first | exact trivial | refine WQ (xV _) (au cm.h) ?_ | refine WQ (by first | exact rfl | exact(Ag.get (by assumption) rfl).trans rfl | exact kI rfl | exact kB | exact Hv rfl | exact k8 rfl | exact tx rfl | exact kS rfl | exact xW | exact WG | exact Dh) (by (repeat' first | exact au cm.h | exact K1 rfl | exact Vi | refine Je ?_ ?_ | refine gY ?_ | exact tu rfl | exact jQ rfl | exact qP rfl | refine jR ?_ | exact xZ rfl | refine x6 ?_)) ?_))):p:=h
theorem tY{p:Prop}(h:p:=by (repeat (first | exact trivial | refine⟨rfl,?_⟩))):p:=h
theorem tZ{p:Prop}(h:p:=by (repeat (first | exact trivial | refine⟨⟨_,_,rfl,rfl,UM⟩,?_⟩ | refine⟨⟨_,_,rfl,rfl,Mz (by first | exact aW ff.h | exact cx (by (repeat' first | exact au cm.h | exact K1 rfl | exact Vi | refine Je ?_ ?_ | refine gY ?_ | exact tu rfl | exact jQ rfl | exact qP rfl | refine jR ?_ | exact xZ rfl | refine x6 ?_)) | exact ld | exact lf | exact k9 ff.h)⟩,?_⟩))):p:=h
set_option maxRecDepth 10000
class cU (P:Program) (T:Nat) (d:outParam TypeDesc):Prop where h:P.underlying T=some d
class bQ (P:Program) (T:Nat) (k b:outParam Nat) (z:outParam Value):Prop where h:eU P T k b z
class cg (P:Program) (T:Nat) (ag:outParam Bool) (k:outParam Nat):Prop where h:fB P T ag k
class aM (P:Program) (T j:Nat) (fo:outParam Nat):Prop where h:fG P T j fo
class eX (P:Program) (T:Nat) (pl:outParam (List (Nat×Nat))):Prop where h:HK P T pl
theorem aO{P:Program}{T j d:Nat}{fs:Array Field}{F:Field}{k b z}(h:P.underlying T=some (.struct fs))(e:fs[j]?=some F)(f:F.offset=d)(g:eU P F.type k b z)(p:Nat.beq k 0=false):fG P T j d:=by obtain⟨i,g1,_,g3,_⟩:=g;exact⟨_,_,h,e,f,i,g1,by rw[g3];rintro rfl;simp at p⟩
class dM (P:Program) (T:Nat) (ly:outParam Ly):Prop where h:∃ k b z,eU P T k b z/\Zr ly z.cells.toList
class cm (ly:Ly):Prop where h:IF ly
class ff (l:List Ly):Prop where h:it l
class Dk {α:Type}(f:α->Ly):Prop where h:∀ x,IF (f x)
instance{x}:cm (ab x):=⟨K8⟩
instance{x}:cm (i32 x):=⟨Jm7⟩
instance{x}:cm (u8 x):=⟨qI⟩
instance{x}:cm (av x):=⟨Wh⟩
instance{x}:cm (u64 x):=⟨Jm8⟩
instance{x}:cm (bl x):=⟨bM⟩
instance{x}:cm (am x):=⟨Vv⟩
instance{k x}:cm (bA k x):=⟨Za⟩
instance{x}:cm (ub x):=⟨fH⟩
instance{x}:cm (NK x):=⟨Jm9⟩
instance:cm gi:=⟨tU⟩
instance:cm .any:=⟨My⟩
instance{x}[h:cm x]:cm (.ref x):=⟨Jm5 h.h⟩
instance{l}[h:ff l]:cm (.agg l):=⟨l8 h.h⟩
instance{l}[h:ff l]:cm (.tup l):=⟨qE h.h⟩
instance:ff []:=⟨iu⟩
instance{a l}[h:cm a][k:ff l]:ff (a::l):=⟨Ka h.h k.h⟩
instance{α:Type}{f:α->Ly}[h:∀ x,cm (f x)]:Dk f:=⟨λx=>(h x).h⟩
instance{α:Type}{f:α->Ly}{l:List α}[h:Dk f]:ff (l.map f):=⟨Ju h.h l⟩
theorem Ag.get{α:Type}{st jP:Nat->Option α}{d:Nat}:∀ {rs:Bf},Ag st jP rs->eW rs d=true->st d=jP d
 | [],_,h=>by grind[eW]
 | x::r,h,e=>by rw[show eW (x::r) d=(Nat.beq d x || eW r d) from rfl] at e;cases f:Nat.beq d x;rw[f] at e;exact Ag.get h.2 e;rw[xy f];exact h.1
mutual
def kC(d:Bool)(k:Nat):Nat->Ly->Bf
 | off,.agg l=>bif d && Nat.beq off 0 && Nat.beq k (Ly.szs l) then [] else lw d k off 0 l
 | _,_=>[]
def lw(d:Bool)(k:Nat):Nat->Nat->List Ly->Bf
 | _,_,[]=>[]
 | off,i,ly::r=>bif Nat.blt off ly.sz then i::kC d k off ly else lw d k (off - ly.sz) (i+1) r
end
structure br(X:Cx)(st:Nat->Option Ly)(mm:Nat->Option Ct)(o:Oper)(el:List (Nat×Ly))(em:List (Nat×Ct)):Prop where
 h:ax X st mm o el em
section
variable {X:Cx}{st:Nat->Option Ly}{mm:Nat->Option Ct}{ty:TypeId}{pos:String}{af:Array Edge}
theorem WK{d x ly}(hd:Nat.blt d X.N=true:=by exact rfl)(e:autoParam (ac st x (ly)) bf._auto_1):br X st mm ⟨some d,.move x,ty,pos,af,none⟩ [(d,ly)] []:=⟨mv hd e⟩
theorem Dl{d x ly}(hd:Nat.blt d X.N=true:=by exact rfl)(e:autoParam (ac st x (ly)) bf._auto_1):br X st mm ⟨some d,.assign x,ty,pos,af,none⟩ [(d,ly)] []:=⟨oB hd e⟩
theorem pT{d c x y ly}(hd:Nat.blt d X.N=true:=by exact rfl)(e:autoParam (ac st c (bl true)) bf._auto_1)(f:autoParam (ac st x (ly)) bf._auto_1):br X st mm ⟨some d,.pick c x y,ty,pos,af,none⟩ [(d,ly)] []:=⟨C1 hd e f⟩
theorem pF{d c x y ly}(hd:Nat.blt d X.N=true:=by exact rfl)(e:autoParam (ac st c (bl false)) bf._auto_1)(f:autoParam (ac st y (ly)) bf._auto_1):br X st mm ⟨some d,.pick c x y,ty,pos,af,none⟩ [(d,ly)] []:=⟨C2 hd e f⟩
theorem qT{d x y T e}{p q:Int}(hd:Nat.blt d X.N=true:=by exact rfl)(f:autoParam (ac st x (ab p)) bf._auto_1)(g:autoParam (ac st y (ab q)) bf._auto_1):br X st mm ⟨some d,.binOp .add T x y e,ty,pos,af,none⟩ [(d,ab (wrap64 (p+q)))] []:=⟨MF hd f g⟩
theorem qU{d x y T e}{p q:Int}(hd:Nat.blt d X.N=true:=by exact rfl)(f:autoParam (ac st x (ab p)) bf._auto_1)(g:autoParam (ac st y (ab q)) bf._auto_1):br X st mm ⟨some d,.binOp .sub T x y e,ty,pos,af,none⟩ [(d,ab (wrap64 (p - q)))] []:=⟨MG hd f g⟩
theorem qV{d x y T e}{p q:Int}(hd:Nat.blt d X.N=true:=by exact rfl)(f:autoParam (ac st x (ab p)) bf._auto_1)(g:autoParam (ac st y (ab q)) bf._auto_1):br X st mm ⟨some d,.binOp .mul T x y e,ty,pos,af,none⟩ [(d,ab (wrap64 (p*q)))] []:=⟨MH hd f g⟩
theorem qW{d x y T e}{p q:Int}(hd:Nat.blt d X.N=true:=by exact rfl)(f:autoParam (ac st x (ab p)) bf._auto_1)(g:autoParam (ac st y (ab q)) bf._auto_1):br X st mm ⟨some d,.binOp .and T x y e,ty,pos,af,none⟩ [(d,ab (wrap64 (pJ p q)))] []:=⟨NF hd f g⟩
theorem Dm{d x y T e}{p q:Int}(hd:Nat.blt d X.N=true:=by exact rfl)(f:autoParam (ac st x (ab p)) bf._auto_1)(g:autoParam (ac st y (ab q)) bf._auto_1):br X st mm ⟨some d,.binOp .lss T x y e,ty,pos,af,none⟩ [(d,bl (decide (p<q)))] []:=⟨ltI hd f g⟩
theorem Dn{d x y T e}{p q:Int}(hd:Nat.blt d X.N=true:=by exact rfl)(f:autoParam (ac st x (ab p)) bf._auto_1)(g:autoParam (ac st y (ab q)) bf._auto_1):br X st mm ⟨some d,.binOp .leq T x y e,ty,pos,af,none⟩ [(d,bl (decide (p<=q)))] []:=⟨leI hd f g⟩
theorem Dp{d x y T e}{p q:Int}(hd:Nat.blt d X.N=true:=by exact rfl)(f:autoParam (ac st x (ab p)) bf._auto_1)(g:autoParam (ac st y (ab q)) bf._auto_1):br X st mm ⟨some d,.binOp .gtr T x y e,ty,pos,af,none⟩ [(d,bl (decide (q<p)))] []:=⟨gtI hd f g⟩
theorem Dq{d x y T e}{p q:Int}(hd:Nat.blt d X.N=true:=by exact rfl)(f:autoParam (ac st x (ab p)) bf._auto_1)(g:autoParam (ac st y (ab q)) bf._auto_1):br X st mm ⟨some d,.binOp .geq T x y e,ty,pos,af,none⟩ [(d,bl (decide (q<=p)))] []:=⟨geI hd f g⟩
theorem Dr{d x y T e}{p q:Int}(hd:Nat.blt d X.N=true:=by exact rfl)(f:autoParam (ac st x (ab p)) bf._auto_1)(g:autoParam (ac st y (ab q)) bf._auto_1):br X st mm ⟨some d,.binOp .eql T x y e,ty,pos,af,none⟩ [(d,bl (decide (p=q)))] []:=⟨eqI hd f g⟩
theorem Ds{d x y T e}{p q:Int}(hd:Nat.blt d X.N=true:=by exact rfl)(f:autoParam (ac st x (ab p)) bf._auto_1)(g:autoParam (ac st y (ab q)) bf._auto_1):br X st mm ⟨some d,.binOp .neq T x y e,ty,pos,af,none⟩ [(d,bl (!decide (p=q)))] []:=⟨neI hd f g⟩
theorem qX{d x y T e}{p q:Int}(hd:Nat.blt d X.N=true:=by exact rfl)(g:autoParam (ac st x (ab p)) bf._auto_1)(j:autoParam (ac st y (ab q)) bf._auto_1)(f:autoParam ((q == 0)=false) H0._auto_1):br X st mm ⟨some d,.binOp .quo T x y e,ty,pos,af,none⟩ [(d,ab (wrap64 (p.tdiv q)))] []:=⟨MI f hd g j⟩
theorem qY{d x y T e}{p q:Int}(hd:Nat.blt d X.N=true:=by exact rfl)(g:autoParam (ac st x (ab p)) bf._auto_1)(j:autoParam (ac st y (ab q)) bf._auto_1)(f:autoParam ((q == 0)=false) H0._auto_1):br X st mm ⟨some d,.binOp .rem T x y e,ty,pos,af,none⟩ [(d,ab (p.tmod q))] []:=⟨MJ f hd g j⟩
theorem Dt{d x y T e k}{p q:Nat}(hd:Nat.blt d X.N=true:=by exact rfl)(f:autoParam (ac st x (uk k p)) bf._auto_1)(g:autoParam (ac st y (uk k q)) bf._auto_1):br X st mm ⟨some d,.binOp .lss T x y e,ty,pos,af,none⟩ [(d,bl (decide (p<q)))] []:=⟨ltU k hd f g⟩
theorem NM{d x y T e k}{p q:Nat}(hd:Nat.blt d X.N=true:=by exact rfl)(f:autoParam (ac st x (uk k p)) bf._auto_1)(g:autoParam (ac st y (uk k q)) bf._auto_1):br X st mm ⟨some d,.binOp .leq T x y e,ty,pos,af,none⟩ [(d,bl (decide (p<=q)))] []:=⟨leU k hd f g⟩
theorem Du{d x y T e k}{p q:Nat}(hd:Nat.blt d X.N=true:=by exact rfl)(f:autoParam (ac st x (uk k p)) bf._auto_1)(g:autoParam (ac st y (uk k q)) bf._auto_1):br X st mm ⟨some d,.binOp .gtr T x y e,ty,pos,af,none⟩ [(d,bl (decide (q<p)))] []:=⟨gtU k hd f g⟩
theorem Dv{d x y T e k}{p q:Nat}(hd:Nat.blt d X.N=true:=by exact rfl)(f:autoParam (ac st x (uk k p)) bf._auto_1)(g:autoParam (ac st y (uk k q)) bf._auto_1):br X st mm ⟨some d,.binOp .geq T x y e,ty,pos,af,none⟩ [(d,bl (decide (q<=p)))] []:=⟨geU k hd f g⟩
theorem Dw{d x y T e k}{p q:Nat}(hd:Nat.blt d X.N=true:=by exact rfl)(f:autoParam (ac st x (uk k p)) bf._auto_1)(g:autoParam (ac st y (uk k q)) bf._auto_1):br X st mm ⟨some d,.binOp .eql T x y e,ty,pos,af,none⟩ [(d,bl (decide (p=q)))] []:=⟨eqU k hd f g⟩
theorem Dx{d x y T e k}{p q:Nat}(hd:Nat.blt d X.N=true:=by exact rfl)(f:autoParam (ac st x (uk k p)) bf._auto_1)(g:autoParam (ac st y (uk k q)) bf._auto_1):br X st mm ⟨some d,.binOp .neq T x y e,ty,pos,af,none⟩ [(d,bl (!decide (p=q)))] []:=⟨neU k hd f g⟩
theorem qZ{d x y T e k N}{p q:Nat}(hd:Nat.blt d X.N=true:=by exact rfl)(g:autoParam (ac st x (uk k p)) bf._auto_1)(j:autoParam (ac st y (uk k q)) bf._auto_1)(f:autoParam (UK k N) mG._auto_1):br X st mm ⟨some d,.binOp .add T x y e,ty,pos,af,none⟩ [(d,uk k ((p+q)%N))] []:=⟨MM f hd g j⟩
theorem q7{d x y T e k N}{p q:Nat}(hd:Nat.blt d X.N=true:=by exact rfl)(g:autoParam (ac st x (uk k p)) bf._auto_1)(j:autoParam (ac st y (uk k q)) bf._auto_1)(f:autoParam (UK k N) mG._auto_1):br X st mm ⟨some d,.binOp .sub T x y e,ty,pos,af,none⟩ [(d,uk k ((p+N - q)%N))] []:=⟨MN f hd g j⟩
theorem q8{d x y T e k N}{p q:Nat}(hd:Nat.blt d X.N=true:=by exact rfl)(g:autoParam (ac st x (uk k p)) bf._auto_1)(j:autoParam (ac st y (uk k q)) bf._auto_1)(f:autoParam (UK k N) mG._auto_1):br X st mm ⟨some d,.binOp .mul T x y e,ty,pos,af,none⟩ [(d,uk k ((p*q)%N))] []:=⟨MO f hd g j⟩
theorem Dy{d x y T e k N}{p q:Nat}(hd:Nat.blt d X.N=true:=by exact rfl)(g:autoParam (ac st x (uk k p)) bf._auto_1)(j:autoParam (ac st y (uk k q)) bf._auto_1)(f:autoParam (UK k N) mG._auto_1):br X st mm ⟨some d,.binOp .or T x y e,ty,pos,af,none⟩ [(d,uk k (p ||| q))] []:=⟨orU f hd g j⟩
theorem Dz{d x y T e k N}{p q:Nat}(hd:Nat.blt d X.N=true:=by exact rfl)(g:autoParam (ac st x (uk k p)) bf._auto_1)(j:autoParam (ac st y (uk k q)) bf._auto_1)(f:autoParam (UK k N) mG._auto_1):br X st mm ⟨some d,.binOp .and T x y e,ty,pos,af,none⟩ [(d,uk k (p &&& q))] []:=⟨MP f hd g j⟩
theorem q9{d x y T e k N}{p q:Nat}(hd:Nat.blt d X.N=true:=by exact rfl)(j:autoParam (ac st x (uk k p)) bf._auto_1)(r:autoParam (ac st y (uk k q)) bf._auto_1)(g:autoParam (UK k N) mG._auto_1)(f:autoParam (Nat.beq q 0=false) H0._auto_1):br X st mm ⟨some d,.binOp .quo T x y e,ty,pos,af,none⟩ [(d,uk k (p / q))] []:=⟨by grind[C4]⟩
theorem ra{d x y T e k N}{p q:Nat}(hd:Nat.blt d X.N=true:=by exact rfl)(j:autoParam (ac st x (uk k p)) bf._auto_1)(r:autoParam (ac st y (uk k q)) bf._auto_1)(g:autoParam (UK k N) mG._auto_1)(f:autoParam (Nat.beq q 0=false) H0._auto_1):br X st mm ⟨some d,.binOp .rem T x y e,ty,pos,af,none⟩ [(d,uk k (p%q))] []:=⟨by grind[C5]⟩
theorem rb{d x T b}(hd:Nat.blt d X.N=true:=by exact rfl)(e:autoParam (ac st x (bl b)) bf._auto_1):br X st mm ⟨some d,.unOp .not T x,ty,pos,af,none⟩ [(d,bl (!b))] []:=⟨ML hd e⟩
theorem rc{d x T p}(hd:Nat.blt d X.N=true:=by exact rfl)(e:autoParam (ac st x (ab p)) bf._auto_1):br X st mm ⟨some d,.unOp .neg T x,ty,pos,af,none⟩ [(d,ab (wrap64 (-p)))] []:=⟨MK hd e⟩
theorem rd{d x S T f k e N N' p}(hd:Nat.blt d X.N=true:=by exact rfl)(t:autoParam (ac st x (uk e p)) bf._auto_1)(q:X.P.underlying S=some f:=by exact cU.h)(r:X.P.underlying T=some (.int k):=by exact cU.h)(s:autoParam (UK k N) mG._auto_1)(g:autoParam (UK e N') mG._auto_1)(j:Nat.ble N' N=true:=by exact rfl):br X st mm ⟨some d,.convert S T x,ty,pos,af,none⟩ [(d,uk k p)] []:=⟨by grind[MQ]⟩
theorem DA{d x S T e k f N p}(hd:Nat.blt d X.N=true:=by exact rfl)(r:autoParam (ac st x (uk f p)) bf._auto_1)(g:X.P.underlying S=some e:=by exact cU.h)(j:X.P.underlying T=some (.int k):=by exact cU.h)(q:autoParam (UK k N) mG._auto_1):br X st mm ⟨some d,.convert S T x,ty,pos,af,none⟩ [(d,uk k (p%N))] []:=⟨by grind[cvU]⟩
theorem re{d x S T e k f N}{p:Int}(hd:Nat.blt d X.N=true:=by exact rfl)(r:autoParam (ac st x (.cell (gX f p))) bf._auto_1)(g:X.P.underlying S=some e:=by exact cU.h)(j:X.P.underlying T=some (.int k):=by exact cU.h)(q:autoParam (UK k N) mG._auto_1):br X st mm ⟨some d,.convert S T x,ty,pos,af,none⟩ [(d,uk k (p%(N:Int)).toNat)] []:=⟨by grind[MR]⟩
theorem rf{d x S T e}{p:Nat}(hd:Nat.blt d X.N=true:=by exact rfl)(j:autoParam (ac st x (u64 p)) bf._auto_1)(f:X.P.underlying S=some e:=by exact cU.h)(g:X.P.underlying T=some (.int .i64):=by exact cU.h):br X st mm ⟨some d,.convert S T x,ty,pos,af,none⟩ [(d,ab (wrap64 p))] []:=⟨MS f g hd j⟩
theorem nH{d x S T f e N'}{p:Nat}(hd:Nat.blt d X.N=true:=by exact rfl)(r:autoParam (ac st x (uk e p)) bf._auto_1)(k:X.P.underlying S=some f:=by exact cU.h)(q:X.P.underlying T=some (.int .i64):=by exact cU.h)(g:autoParam (UK e N') mG._auto_1)(j:Nat.ble N' 9223372036854775808=true:=by exact rfl):br X st mm ⟨some d,.convert S T x,ty,pos,af,none⟩ [(d,ab p)] []:=⟨by grind[C6]⟩
theorem NN{d x S T e}{p:Int}(hd:Nat.blt d X.N=true:=by exact rfl)(j:autoParam (ac st x (ab p)) bf._auto_1)(f:X.P.underlying S=some e:=by exact cU.h)(g:X.P.underlying T=some (.int .i64):=by exact cU.h):br X st mm ⟨some d,.convert S T x,ty,pos,af,none⟩ [(d,ab p)] []:=⟨cvI f g hd j⟩
theorem rg{d x T E k}{α:Type}{f:α->Ly}{xs:List α}(hd:Nat.blt d X.N=true:=by exact rfl)(g:autoParam (ac st x (bA k (xs.map f))) bf._auto_1)(e:X.P.underlying T=some (.slice E):=by exact cU.h):br X st mm ⟨some d,.call { callee:=.builtin .len,args:=#[x],argTypes:=#[T] },ty,pos,af,none⟩ [(d,ab xs.length)] []:=⟨MT e hd g⟩
theorem rh{d x T E E' k id}{α:Type}{f:α->Ly}{xs:List α}(hd:Nat.blt d X.N=true:=by exact rfl)(j:autoParam (ac st x (.own id)) bf._auto_1)(g:autoParam (mm id=some (.sl E' k (xs.map f))) kA._auto_1)(e:X.P.underlying T=some (.slice E):=by exact cU.h):br X st mm ⟨some d,.call { callee:=.builtin .len,args:=#[x],argTypes:=#[T] },ty,pos,af,none⟩ [(d,ab xs.length)] []:=⟨MU e g hd j⟩
theorem rj{d x T E id off}{len:Nat}(hd:Nat.blt d X.N=true:=by exact rfl)(f:autoParam (ac st x (.win id off len)) bf._auto_1)(e:X.P.underlying T=some (.slice E):=by exact cU.h):br X st mm ⟨some d,.call { callee:=.builtin .len,args:=#[x],argTypes:=#[T] },ty,pos,af,none⟩ [(d,ab (len:Nat))] []:=⟨NI e hd f⟩
theorem rk{d x T s}(hd:Nat.blt d X.N=true:=by exact rfl)(f:autoParam (ac st x (am s)) bf._auto_1)(e:X.P.underlying T=some .string:=by exact cU.h):br X st mm ⟨some d,.call { callee:=.builtin .len,args:=#[x],argTypes:=#[T] },ty,pos,af,none⟩ [(d,ab s.length)] []:=⟨C7 e hd f⟩
theorem rm{d x y e f}{p q:Int}(hd:Nat.blt d X.N=true:=by exact rfl)(g:autoParam (ac st x (ab p)) bf._auto_1)(j:autoParam (ac st y (ab q)) bf._auto_1):br X st mm ⟨some d,.call { callee:=.builtin .max,args:=#[x,y],argTypes:=#[e,f] },ty,pos,af,none⟩ [(d,ab (max p q))] []:=⟨MV hd g j⟩
theorem ro{d x y e f}{p q:Int}(hd:Nat.blt d X.N=true:=by exact rfl)(g:autoParam (ac st x (ab p)) bf._auto_1)(j:autoParam (ac st y (ab q)) bf._auto_1):br X st mm ⟨some d,.call { callee:=.builtin .min,args:=#[x,y],argTypes:=#[e,f] },ty,pos,af,none⟩ [(d,ab (min p q))] []:=⟨MW hd g j⟩
theorem DB{e d x i T s y}{p:Int}(hd:Nat.blt d X.N=true:=by exact rfl)(j:autoParam (ac st x (am s)) bf._auto_1)(hi:autoParam (ac st i (.cell (gX e p))) bf._auto_1)(f:X.P.underlying T=some .string:=by exact cU.h)(g:bv s p=some y:=by assumption):br X st mm ⟨some d,.index T x i,ty,pos,af,none⟩ [(d,uk .u8 y)] []:=⟨by grind[ixS]⟩
theorem rp{d x y T e s t z}(hd:Nat.blt d X.N=true:=by exact rfl)(f:autoParam (ac st x (am s)) bf._auto_1)(g:autoParam (ac st y (am t)) bf._auto_1)(j:bG s t=some z:=by assumption):br X st mm ⟨some d,.binOp .add T x y e,ty,pos,af,none⟩ [(d,am z)] []:=⟨tA j hd f g⟩
theorem DC{d x y T e s t}(hd:Nat.blt d X.N=true:=by exact rfl)(f:autoParam (ac st x (am s)) bf._auto_1)(g:autoParam (ac st y (am t)) bf._auto_1):br X st mm ⟨some d,.binOp .eql T x y e,ty,pos,af,none⟩ [(d,bl (decide (s=t)))] []:=⟨eqS hd f g⟩
theorem DD{d x y T e s t}(hd:Nat.blt d X.N=true:=by exact rfl)(f:autoParam (ac st x (am s)) bf._auto_1)(g:autoParam (ac st y (am t)) bf._auto_1):br X st mm ⟨some d,.binOp .neq T x y e,ty,pos,af,none⟩ [(d,bl (!decide (s=t)))] []:=⟨neS hd f g⟩
theorem DE{d x y T e p q}(hd:Nat.blt d X.N=true:=by exact rfl)(g:autoParam (ac st x (bl p)) bf._auto_1)(j:autoParam (ac st y (bl q)) bf._auto_1)(f:X.P.underlying T=some .bool:=by exact cU.h):br X st mm ⟨some d,.binOp .eql T x y e,ty,pos,af,none⟩ [(d,bl (p == q))] []:=⟨eqB f hd g j⟩
theorem DF{d x y T e p q}(hd:Nat.blt d X.N=true:=by exact rfl)(g:autoParam (ac st x (bl p)) bf._auto_1)(j:autoParam (ac st y (bl q)) bf._auto_1)(f:X.P.underlying T=some .bool:=by exact cU.h):br X st mm ⟨some d,.binOp .neq T x y e,ty,pos,af,none⟩ [(d,bl (p != q))] []:=⟨neB f hd g j⟩
theorem DG{e d x i T E k b z}{p:Int}{α:Type}{f:α->Ly}{xs:List α}{y:α}(hd:Nat.blt d X.N=true:=by exact rfl)(r:autoParam (ac st x (bA k (xs.map f))) bf._auto_1)(hi:autoParam (ac st i (.cell (gX e p))) bf._auto_1)(j:X.P.underlying T=some (.slice E):=by exact cU.h)(g:eU X.P E k b z:=by exact bQ.h)(q:autoParam (ah xs p=some y) Dj._auto_1):br X st mm ⟨some d,.indexAddr T x i,ty,pos,af,none⟩ [(d,.ref (f y))] []:=⟨by grind[iX]⟩
theorem DH{g d x i T E E' k e b z id}{p:Int}{α:Type}{f:α->Ly}{xs:List α}{y:α}(hd:Nat.blt d X.N=true:=by exact rfl)(t:autoParam (ac st x (.own id)) bf._auto_1)(hi:autoParam (ac st i (.cell (gX g p))) bf._auto_1)(s:autoParam (mm id=some (.sl E' k (xs.map f))) kA._auto_1)(q:X.P.underlying T=some (.slice E):=by exact cU.h)(j:eU X.P E e b z:=by exact bQ.h)(r:autoParam (ah xs p=some y) Dj._auto_1):br X st mm ⟨some d,.indexAddr T x i,ty,pos,af,none⟩ [(d,.ptr id (p.toNat*e))] []:=⟨by grind[xQ]⟩
theorem DI{d x T e k ly}(hd:Nat.blt d X.N=true:=by exact rfl)(j:autoParam (ac st x (.ref ly)) bf._auto_1)(f:fB X.P T e k:=by exact cg.h)(g:ly.isN=e:=by exact rfl)(p:ly.sz=k:=by exact rfl):br X st mm ⟨some d,.load T x,ty,pos,af,none⟩ [(d,ly)] []:=⟨by grind[ldR]⟩
theorem WL{d x T e k id E ly}(hd:Nat.blt d X.N=true:=by exact rfl)(p:autoParam (ac st x (.own id)) bf._auto_1)(f:autoParam (mm id=some (.bx E ly)) kA._auto_1)(g:fB X.P T e k:=by exact cg.h)(j:ly.isN=e:=by exact rfl)(q:ly.sz=k:=by exact rfl):br X st mm ⟨some d,.load T x,ty,pos,af,none⟩ [(d,ly)] []:=⟨M2 [] f rfl g j q hd p (.inr ⟨rfl,rfl,_,_,f⟩)⟩
theorem WM{d x T g k id E ly f off e}(hd:Nat.blt d X.N=true:=by exact rfl)(t:autoParam (ac st x (.ptr id off)) bf._auto_1)(q:autoParam (mm id=some (.bx E ly)) kA._auto_1)(j:fB X.P T g k:=by exact cg.h)(p:Ly.go (kC g k off ly) ly=some (f,e):=by exact rfl)(s:e=off:=by exact rfl)(r:f.isN=g:=by exact rfl)(u:f.sz=k:=by exact rfl):br X st mm ⟨some d,.load T x,ty,pos,af,none⟩ [(d,f)] []:=⟨M2 _ q p j r u hd t (.inl (s ▸ rfl))⟩
theorem DJ{d x T e k g id E}{p:Int}{α:Type}{f:α->Ly}{xs:List α}{y:α}(hd:Nat.blt d X.N=true:=by exact rfl)(s:autoParam (ac st x (.ptr id (p.toNat*k))) bf._auto_1)(q:autoParam (mm id=some (.sl E k (xs.map f))) kA._auto_1)(t:autoParam (ah xs p=some y) Dj._auto_1)(j:fB X.P T e g:=by exact cg.h)(r:(f y).isN=e:=by exact rfl)(u:(f y).sz=g:=by exact rfl):br X st mm ⟨some d,.load T x,ty,pos,af,none⟩ [(d,f y)] []:=⟨xR (f:=f) [] q (qN t) rfl Da j r u hd s⟩
theorem DK{d x T j k r id E q e g}{p:Int}{α:Type}{f:α->Ly}{xs:List α}{y:α}(hd:Nat.blt d X.N=true:=by exact rfl)(A:autoParam (ac st x (.ptr id (p.toNat*k+q))) bf._auto_1)(u:autoParam (mm id=some (.sl E k (xs.map f))) kA._auto_1)(B:autoParam (ah xs p=some y) Dj._auto_1)(s:fB X.P T j r:=by exact cg.h)(t:Ly.go (kC j r q (f y)) (f y)=some (g,e):=by exact rfl)(w:e=q:=by exact rfl)(v:g.isN=j:=by exact rfl)(C:g.sz=r:=by exact rfl):br X st mm ⟨some d,.load T x,ty,pos,af,none⟩ [(d,g)] []:=⟨xR (f:=f) _ u (qN B) t (w ▸ rfl) s v C hd A⟩
theorem WN{x y T g k id E ly ln}(p:autoParam (ac st x (.own id)) bf._auto_1)(q:autoParam (ac st y (ln)) bf._auto_1)(f:autoParam (mm id=some (.bx E ly)) kA._auto_1)(j:fB X.P T g k:=by exact cg.h)(r:ly.sz=k:=by exact rfl)(e:ln.sz=k:=by exact rfl)(d:ln.lies=true:=by exact rfl):br X st mm ⟨none,.store T x y,ty,pos,af,none⟩ [] [(id,.bx E ln)]:=⟨pB [] rfl f rfl j r e d p (.inr ⟨rfl,rfl,_,_,f⟩) q⟩
theorem bc{x y T q k id E ly j ln off d}(ly2:Ly)(p:Bf)(v:autoParam (ac st x (.ptr id off)) bf._auto_1)(w:autoParam (ac st y ln) bf._auto_1)(t:autoParam (mm id=some (.bx E ly)) kA._auto_1)(r:fB X.P T q k:=by exact cg.h)(s:Ly.go p ly=some (j,d):=by exact rfl)(u:d=off:=by exact rfl)(g:Ly.pu ln p ly=ly2:=by exact rfl)(A:j.sz=k:=by exact rfl)(f:ln.sz=k:=by exact rfl)(e:ln.lies=true:=by exact rfl):br X st mm ⟨none,.store T x y,ty,pos,af,none⟩ [] [(id,.bx E ly2)]:=⟨pB p g t s r A f e v (.inl (u ▸ rfl)) w⟩
theorem DL{x y T s k r id E ln}{p:Int}{α:Type}{f:α->Ly}{xs:List α}{e d:α}(A:autoParam (ac st x (.ptr id (p.toNat*k))) bf._auto_1)(B:autoParam (ac st y (ln)) bf._auto_1)(w:autoParam (mm id=some (.sl E k (xs.map f))) kA._auto_1)(u:autoParam (ah xs p=some e) Dj._auto_1)(v:f d=ln:=by exact rfl)(t:fB X.P T s r:=by exact cg.h)(C:(f e).sz=r:=by exact rfl)(q:(f d).sz=r:=by exact rfl)(g:(f d).sz=k:=by exact rfl)(j:(f d).lies=true:=by exact rfl):br X st mm ⟨none,.store T x y,ty,pos,af,none⟩ [] [(id,.sl E k ((xs.set p.toNat d).map f))]:=⟨UX (f:=f) d [] w (qN u) rfl Da rfl g t C q j A (v ▸ B)⟩
theorem DM{d x T j e id E ly}(hd:Nat.blt d X.N=true:=by exact rfl)(k:autoParam (ac st x (.own id)) bf._auto_1)(g:autoParam (mm id=some (.bx E ly)) kA._auto_1)(f:fG X.P T j e:=by exact aM.h):br X st mm ⟨some d,.fieldAddr T x j,ty,pos,af,none⟩ [(d,.ptr id e)] []:=⟨M0 g f hd k⟩
theorem DN{d x T j e id off}(hd:Nat.blt d X.N=true:=by exact rfl)(g:autoParam (ac st x (.ptr id off)) bf._auto_1)(f:fG X.P T j e:=by exact aM.h):br X st mm ⟨some d,.fieldAddr T x j,ty,pos,af,none⟩ [(d,.ptr id (off+e))] []:=⟨faP f hd g⟩
theorem DO{d x T j e l f}(hd:Nat.blt d X.N=true:=by exact rfl)(p:autoParam (ac st x (.ref (.agg l))) bf._auto_1)(g:fG X.P T j e:=by exact aM.h)(k:Ly.go [j] (.agg l)=some (f,e):=by exact rfl):br X st mm ⟨some d,.fieldAddr T x j,ty,pos,af,none⟩ [(d,.ref f)] []:=⟨faR g k hd p⟩
theorem ext'{d x i l ly}(hd:Nat.blt d X.N=true:=by exact rfl)(f:autoParam (ac st x (.tup l)) bf._auto_1)(e:l[i]?=some ly:=by exact rfl):br X st mm ⟨some d,.extract x i,ty,pos,af,none⟩ [(d,ly)] []:=⟨ext e hd f⟩
theorem DP{d x ly}(hd:Nat.blt d X.N=true:=by exact rfl)(f:autoParam (ac st x (ly)) bf._auto_1)(e:U3 mm ly:=by first | exact trivial | exact⟨_,_,rfl⟩ | exact⟨_,_,(Ag.get oi rfl).trans rfl⟩):br X st mm ⟨some d,.nilCheck x,ty,pos,af,none⟩ [(d,ly)] []:=⟨M5 e hd f⟩
theorem t0(y:Nat){d T ly}(hd:Nat.blt d X.N=true:=by exact rfl)(g:autoParam (mm y=none) kA._auto_1)(h:∃ k b z,eU X.P T k b z/\Zr ly z.cells.toList:=by exact dM.h):br X st mm ⟨some d,.alloc T,ty,pos,af,none⟩ [(d,.own y)] [(y,.bx T ly)]:=by obtain⟨k,b,z,e,f⟩:=h;exact⟨al e f g hd⟩
theorem WO(y:Nat){d T x ly}(hd:Nat.blt d X.N=true:=by exact rfl)(f:autoParam (ac st x ly) bf._auto_1)(e:ly.lies=true:=by exact rfl)(g:autoParam (mm y=none) kA._auto_1):br X st mm ⟨some d,.box T x,ty,pos,af,none⟩ [(d,.own y)] [(y,.bx T ly)]:=⟨box e f g hd⟩
theorem en(y:Nat){d s x T id E k b z e}{α:Type}{f:α->Ly}{xs g zs:List α}(hd:Nat.blt d X.N=true:=by exact rfl)(v:autoParam (ac st s (.own id)) bf._auto_1)(w:autoParam (ac st x e) bf._auto_1)(u:autoParam (mm id=some (.sl E k (xs.map f))) kA._auto_1)(t:X.P.underlying T=some (.slice E):=by exact cU.h)(q:eU X.P E k b z:=by exact bQ.h)(r:Dc mm e k (g.map f):=by first | exact .inl rfl | exact .inr ⟨_,_,rfl,rfl⟩ | exact .inr ⟨_,_,rfl,(Ag.get oi rfl).trans rfl⟩)(B:az b xs g=some zs:=by assumption)(p:z.cells.size=k:=by exact rfl)(j:Nat.blt 0 k=true:=by exact rfl)(A:autoParam (mm y=none) kA._auto_1):br X st mm ⟨some d,.call { callee:=.builtin .append,args:=#[s,x],argTypes:=#[T,T] },ty,pos,af,none⟩ [(d,.own y)] [(y,.sl E k (zs.map f)),(id,.gone)]:=⟨by grind[app]⟩
theorem aG{o el em}(h:br X st mm o el em:=by first | exact WK | exact Dl | exact WL | exact DM | exact WN | exact ext' | exact WM | exact pF | exact pT | exact rg | exact qT | exact Dr | exact DI | exact DG | exact rb | exact DN | exact Dm | exact Dp | exact DP | exact qU | exact DH | exact DJ | exact DK | exact DL | exact rk | exact rh | exact Ds | exact Dq | exact Dn | exact rd | exact DA | exact qZ | exact q7 | exact q8 | exact Dy | exact Dz | exact Dw | exact Dx | exact Dt | exact Du | exact NM | exact Dv | exact DC | exact DD | exact DE | exact DF | exact qV | exact qW | exact qX | exact qY | exact q9 | exact ra | exact rc | exact re | exact rf | exact nH | exact NN | exact rj | exact rm | exact ro | exact DB | exact rp | exact DO):br X st mm o el em:=h
end
section
variable {R:Type}{X:Cx}{l:List (Nat×Ly)}{m:List (Nat×Ct)}{md:Option R}{Q:R->Exit->Act->World->Prop}{G:R->Act->World->Prop}{n:Bf}{i:Nat}
structure ep(n:Bf)(p:Prop):Prop where
 h:p
structure cE(i:Nat)(n:Bf)(p:Prop):Prop where
 h:p
structure gl(p:Prop):Prop where
 h:p
theorem pk(i:Nat){n:Bf}{p:Prop}(h:cE i n p):ep (i::n) p:=⟨h.h⟩
theorem DQ{x y:Code}(h:ep n (Sq X l m md (λr=>x.wp X.P (Exit.then (y.wp X.P (Q r)) (Q r))))):cE i n (Sq X l m md (λr=>(Code.seq x y).wp X.P (Q r))):=⟨ko h.h⟩
theorem DR{id:Nat}{ls:List Oper}(h:ep n (Sq X l m md (λr=>wpList X.P ⟨ls⟩ (Q r) ls))):cE i n (Sq X l m md (λr=>(Code.region id ⟨ls⟩ false).wp X.P (Q r))):=⟨ma h.h⟩
theorem DS{aG:Array Oper}(h:ep n (Sq X l m md (λr=>Q r .normal))):cE i n (Sq X l m md (λr=>wpList X.P aG (Q r) [])):=⟨mb h.h⟩
theorem NP{y:Code}(h:ep n (Sq X l m md (λr=>y.wp X.P (Q r)))):cE i n (Sq X l m md (λr=>Exit.then (y.wp X.P (Q r)) (Q r) .normal)):=⟨xO h.h⟩
theorem DT{id:Nat}{c:Code}(h:ep n (Sq X l m md (λr=>c.wp X.P (Exit.inBlock id (Q r))))):cE i n (Sq X l m md (λr=>(Code.block id c).wp X.P (Q r))):=⟨ME h.h⟩
theorem DU{c:Code}(h:ep n (Sq X l m md (λr=>c.wp X.P (Exit.noGoto (Q r))))):cE i n (Sq X l m md (λr=>(Code.scope c).wp X.P (Q r))):=⟨NC h.h⟩
theorem DV(h:ep n (Sq X l m md (λr=>Q r .ret))):cE i n (Sq X l m md (λr=>Code.ret.wp X.P (Q r))):=⟨CZ h.h⟩
theorem Jnd(h:ep n (Sq X l m md (λr=>Q r .normal))):cE i n (Sq X l m md (λr=>Code.skip.wp X.P (Q r))):=⟨CX h.h⟩
theorem DW{d:Nat}(h:ep n (Sq X l m md (λr=>Q r .normal))):cE i n (Sq X l m md (λr=>(Code.label d).wp X.P (Q r))):=⟨ND h.h⟩
theorem Jne{id:Nat}(h:ep n (Sq X l m md (λr=>Q r (.exit id)))):cE i n (Sq X l m md (λr=>(Code.exit id).wp X.P (Q r))):=⟨CY h.h⟩
theorem q_x{id:Nat}(h:ep n (Sq X l m md (λr=>Q r .normal))):cE i n (Sq X l m md (λr=>Exit.inBlock id (Q r) (.exit id))):=⟨sx h.h⟩
theorem NQ{id d:Nat}(e:Nat.beq d id=false)(h:ep n (Sq X l m md (λr=>Q r (.exit d)))):cE i n (Sq X l m md (λr=>Exit.inBlock id (Q r) (.exit d))):=⟨sxo e h.h⟩
theorem NR{N:R->Act->World->Prop}(h:ep n (Sq X l m md (λr=>Q r .ret))):cE i n (Sq X l m md (λr=>Exit.then (N r) (Q r) .ret)):=⟨pth h.h⟩
theorem NS{N:R->Act->World->Prop}{id:Nat}(h:ep n (Sq X l m md (λr=>Q r (.exit id)))):cE i n (Sq X l m md (λr=>Exit.then (N r) (Q r) (.exit id))):=⟨ptx h.h⟩
theorem NT{id:Nat}(h:ep n (Sq X l m md (λr=>Q r .normal))):cE i n (Sq X l m md (λr=>Exit.inBlock id (Q r) .normal)):=⟨pbn h.h⟩
theorem NU{id:Nat}(h:ep n (Sq X l m md (λr=>Q r .ret))):cE i n (Sq X l m md (λr=>Exit.inBlock id (Q r) .ret)):=⟨pbl h.h⟩
theorem NV(h:ep n (Sq X l m md (λr=>Q r .ret))):cE i n (Sq X l m md (λr=>Exit.noGoto (Q r) .ret)):=⟨pgr h.h⟩
theorem q_o{d op ty pos after}{aG:Array Oper}{rest:List Oper}{el em}(h:br X (lk l) (lk m) ⟨d,op,ty,pos,after,none⟩ el em)
 (k:ep n (Sq X (el++l) (em++m) md (λr=>wpList X.P aG (Q r) rest))):cE i n (Sq X l m md (λr=>wpList X.P aG (Q r) (⟨d,op,ty,pos,after,none⟩::rest))):=⟨so h.h k.h⟩
theorem q_g{d op ty pos after j b e}{aG:Array Oper}{rest:List Oper}{el em}(f:((aG[j]?).bind (·.dst))=some e)(g:lk l e=some (bl b))(h:br X (lk l) (lk m) ⟨d,op,ty,pos,after,none⟩ el em)
 (k:ep n (Sq X (el++l) (em++m) md (λr=>wpList X.P aG (Q r) rest))):cE i n (Sq X l m md (λr=>wpList X.P aG (Q r) (⟨d,op,ty,pos,after,some (j,b)⟩::rest))):=⟨sg e f g h.h k.h⟩
theorem q_B{d op ty pos after j b f e}{aG:Array Oper}{rest:List Oper}(p:((aG[j]?).bind (·.dst))=some e)(q:lk l e=some (bl f))(g:f=!b)(hd:Nat.blt d X.N=true)
 (k:ep n (Sq X ((d,.tup [])::l) m md (λr=>wpList X.P aG (Q r) rest))):cE i n (Sq X l m md (λr=>wpList X.P aG (Q r) (⟨some d,op,ty,pos,after,some (j,b)⟩::rest))):=⟨spB e p (g ▸ q) hd k.h⟩
theorem q_U{d op ty pos after j b e}{aG:Array Oper}{rest:List Oper}(f:((aG[j]?).bind (·.dst))=some e)(g:lk l e=some (.tup []))(hd:Nat.blt d X.N=true)
 (k:ep n (Sq X ((d,.tup [])::l) m md (λr=>wpList X.P aG (Q r) rest))):cE i n (Sq X l m md (λr=>wpList X.P aG (Q r) (⟨some d,op,ty,pos,after,some (j,b)⟩::rest))):=⟨spU e f g hd k.h⟩
theorem NW{p:Prop}(h:p):ep [] p:=⟨h⟩
theorem q_E{aG:Array Oper}{y:Code}(h:ep n (Sq X l m md (λr=>y.wp X.P (Q r)))):cE i n (Sq X l m md (λr=>wpList X.P aG (Exit.then (y.wp X.P (Q r)) (Q r)) [])):=⟨mb (xO h.h)⟩
theorem q_S{id:Nat}{ls:List Oper}{y:Code}(h:ep n (Sq X l m md (λr=>wpList X.P ⟨ls⟩ (Exit.then (y.wp X.P (Q r)) (Q r)) ls))):cE i n (Sq X l m md (λr=>(Code.seq (Code.region id ⟨ls⟩ false) y).wp X.P (Q r))):=⟨ko (ma h.h)⟩
theorem aX{d op ty pos after}{aG:Array Oper}{rest:List Oper}{el em}(h:br X (lk l) (lk m) ⟨d,op,ty,pos,after,none⟩ el em)
 (k:ep n (Sq X (el++l) (em++m) md (λr=>wpList X.P aG (Q r) rest))):cE i n (Sq X l m md (λr=>wpList X.P aG (Q r) (⟨d,op,ty,pos,after,none⟩::rest))):=⟨so h.h k.h⟩
theorem WP(i:Nat){y:Nat}{n:Bf}{p:Prop}(h:cE y n p):ep (i::y::n) p:=⟨h.h⟩
class kD (i:Nat) (k:outParam Nat) (α:outParam Type) (f:outParam (α->Ly)):Prop where h:True
theorem NX{α:Type}{f:α->Ly}{d ty pos after k}[kD i k α f]{aG:Array Oper}{rest:List Oper}
 (h:ep n (Sq X ((d,bA k (List.map f []))::l) m md (λr=>wpList X.P aG (Q r) rest))) (hd:Nat.blt d X.N=true:=by exact rfl):cE i n (Sq X l m md (λr=>wpList X.P aG (Q r) (⟨some d,.assign (.const (.slice none 0 0)),ty,pos,after,none⟩::rest))):=⟨s1 (oB hd (xV f)) h.h⟩
theorem t6{d e op ty pos after}{aG:Array Oper}{rest:List Oper}{em}(h:br X (lk l) (lk m) ⟨d,op,ty,pos,after,none⟩ [(e,.own i)] em)
 (k:ep n (Sq X ([(e,.own i)]++l) (em++m) md (λr=>wpList X.P aG (Q r) rest))):cE i n (Sq X l m md (λr=>wpList X.P aG (Q r) (⟨d,op,ty,pos,after,none⟩::rest))):=⟨so h.h k.h⟩
theorem NY{σ τ:Type}{L:σ->List (Nat×Ly)}{M:σ->List (Nat×Ct)}{k:τ->Option R}{t:τ}(h:ep n (Sq X l m (k t) (λr=>Q r .ret))):
 cE i n (Sq X l m (some (Lp.out t)) (λ(o:Lp σ τ)=>iV X L M k Q o .ret)):=⟨pr oh h.h⟩
theorem NZ{σ τ:Type}{L:σ->List (Nat×Ly)}{M:σ->List (Nat×Ct)}{k:τ->Option R}{t:τ}{j:Nat}(h:ep n (Sq X l m (k t) (λr=>Q r (.exit j)))):
 cE i n (Sq X l m (some (Lp.out t)) (λ(o:Lp σ τ)=>iV X L M k Q o (.exit j))):=⟨pr oh h.h⟩
class Mc(i:Nat)(j k:outParam Nat):Prop where h:True
instance:Mc 3 15 0:=⟨trivial⟩
instance:Mc 21 102 102:=⟨trivial⟩
instance:Mc 2 6 1:=⟨trivial⟩
instance:Mc 27 20 20:=⟨trivial⟩
instance:Mc 7 3 61:=⟨trivial⟩
instance:Mc 4 94 24:=⟨trivial⟩
instance:Mc 58 68 100:=⟨trivial⟩
instance:Mc 10 86 1:=⟨trivial⟩
instance:Mc 16 21 21:=⟨trivial⟩
instance:Mc 8 2 1:=⟨trivial⟩
instance:Mc 11 6 3:=⟨trivial⟩
instance:Mc 31 39 0:=⟨trivial⟩
instance:Mc 48 82 34:=⟨trivial⟩
instance:Mc 99 35 100:=⟨trivial⟩
instance:Mc 9 5 2:=⟨trivial⟩
instance:Mc 73 6 7:=⟨trivial⟩
instance:Mc 135 95 95:=⟨trivial⟩
instance:Mc 47 15 91:=⟨trivial⟩
instance:Mc 41 125 24:=⟨trivial⟩
instance:Mc 38 6 99:=⟨trivial⟩
instance:Mc 13 6 58:=⟨trivial⟩
instance:Mc 14 155 1:=⟨trivial⟩
instance:Mc 66 4 5:=⟨trivial⟩
instance:Mc 17 1 135:=⟨trivial⟩
instance:Mc 19 21 102:=⟨trivial⟩
instance:Mc 22 156 0:=⟨trivial⟩
instance:Mc 23 156 1:=⟨trivial⟩
instance:Mc 67 36 24:=⟨trivial⟩
instance:Mc 25 31 61:=⟨trivial⟩
instance:Mc 124 154 146:=⟨trivial⟩
instance:Mc 26 6 92:=⟨trivial⟩
instance:Mc 28 155 3:=⟨trivial⟩
instance:Mc 30 124 134:=⟨trivial⟩
instance:Mc 89 35 101:=⟨trivial⟩
instance:Mc 43 27 27:=⟨trivial⟩
instance:Mc 32 15 3:=⟨trivial⟩
instance:Mc 33 155 0:=⟨trivial⟩
instance:Mc 45 1 1:=⟨trivial⟩
instance:Mc 37 96 0:=⟨trivial⟩
instance:Mc 40 0 2:=⟨trivial⟩
instance:Mc 42 16 102:=⟨trivial⟩
instance:Mc 117 18 47:=⟨trivial⟩
instance:Mc 44 6 107:=⟨trivial⟩
instance:Mc 46 129 58:=⟨trivial⟩
instance:Mc 49 27 20:=⟨trivial⟩
instance:Mc 50 10 117:=⟨trivial⟩
instance:Mc 51 120 48:=⟨trivial⟩
instance:Mc 52 24 61:=⟨trivial⟩
instance:Mc 53 41 2:=⟨trivial⟩
instance:Mc 54 116 112:=⟨trivial⟩
instance:Mc 55 29 1:=⟨trivial⟩
instance:Mc 56 0 12:=⟨trivial⟩
instance:Mc 60 66 12:=⟨trivial⟩
instance:Mc 62 10 1:=⟨trivial⟩
instance:Mc 63 3 5:=⟨trivial⟩
instance:Mc 90 118 118:=⟨trivial⟩
instance:Mc 64 11 12:=⟨trivial⟩
instance:Mc 69 38 89:=⟨trivial⟩
instance:Mc 70 73 34:=⟨trivial⟩
instance:Mc 71 156 3:=⟨trivial⟩
instance:Mc 72 0 6:=⟨trivial⟩
instance:Mc 74 129 68:=⟨trivial⟩
instance:Mc 75 5 8:=⟨trivial⟩
instance:Mc 77 57 3:=⟨trivial⟩
instance:Mc 78 86 58:=⟨trivial⟩
instance:Mc 79 0 5:=⟨trivial⟩
instance:Mc 80 94 67:=⟨trivial⟩
instance:Mc 81 7 34:=⟨trivial⟩
instance:Mc 84 73 48:=⟨trivial⟩
instance:Mc 85 35 102:=⟨trivial⟩
theorem pm{i j k:Nat}[Mc i j k]{n:Bf}{a:Prop}(h:ep (j::k::n) a):ep (i::n) a:=⟨h.h⟩
theorem z{a b:Prop}(n:Bf)(h:gl b->ep n a:=by
 intro d
 repeat (first
  | (refine pk 1 ?_;refine aX WK ?_)
  | (refine pk 0 ?_;refine q_E ?_)
  | (refine pk 15 ?_;refine aX Dl ?_)
  | (refine pk 6 ?_;refine q_S ?_)
  | (refine pk 102 ?_;refine q_B rfl rfl rfl rfl ?_)
  | (refine WP 35 ?_;first | refine t6 (t0 _) ?_ | refine t6 (WO _) ?_ | refine t6 (en _) ?_)
  | (refine WP 107 ?_;refine NX ?_)
  | (refine pk 134 ?_;refine NZ ?_)
  | (refine pk 120 ?_;refine NY ?_)
  | (refine pk 92 ?_;refine aX WL ?_)
  | refine pm ?_
  | (refine pk 20 ?_;refine q_g rfl rfl aG ?_)
  | (refine pk 68 ?_;refine aX DM ?_)
  | (refine pk 39 ?_;refine aX WN ?_)
  | (refine pk 95 ?_;refine aX ext' ?_)
  | (refine pk 5 ?_;refine DQ ?_)
  | (refine pk 91 ?_;refine DS ?_)
  | (refine pk 24 ?_;refine NP ?_)
  | (refine pk 61 ?_;refine DV ?_)
  | (refine pk 94 ?_;refine Jnd ?_)
  | (refine pk 86 ?_;refine DR ?_)
  | (refine pk 12 ?_;refine DT ?_)
  | (refine pk 34 ?_;refine NR ?_)
  | (refine pk 82 ?_;refine NU ?_)
  | (refine pk 36 ?_;refine NT ?_)
  | (refine pk 125 ?_;refine q_x ?_)
  | (refine pk 100 ?_;refine aX WM ?_)
  | (refine pk 155 ?_;refine aX pF ?_)
  | (refine pk 156 ?_;refine aX pT ?_)
  | (refine pk 29 ?_;refine aX rg ?_)
  | (refine pk 18 ?_;refine aX qT ?_)
  | (refine pk 57 ?_;refine aX Dr ?_)
  | (refine pk 112 ?_;refine aX DI ?_)
  | (refine pk 116 ?_;refine aX DG ?_)
  | (refine pk 59 ?_;refine aX rb ?_)
  | (refine pk 87 ?_;refine aX DN ?_)
  | (refine pk 118 ?_;refine q_U rfl rfl rfl ?_)
  | (refine pk 154 ?_;refine Jne ?_)
  | (refine pk 146 ?_;refine NS ?_)
  | (refine pk 147 ?_;refine DU ?_)
  | (refine pk 144 ?_;refine NV ?_)
  | (refine pk 148 ?_;refine DW ?_)
  | (refine pk 128 ?_;refine NQ rfl ?_)
  | (refine pk 96 ?_;refine aX Dm ?_)
  | (refine pk 101 ?_;refine aX Dp ?_)
  | (refine pk 129 ?_;refine aX DP ?_)
  | (refine pk 65 ?_;refine aX qU ?_)
  | (refine pk 83 ?_;refine aX DH ?_)
  | (refine pk 93 ?_;refine aX DJ ?_)
  | (refine pk 149 ?_;refine aX DK ?_)
  | (refine pk 103 ?_;refine aX DL ?_)
  | (refine pk 76 ?_;refine aX rk ?_)
  | (refine pk 97 ?_;refine aX rh ?_)
  | (refine pk 106 ?_;refine aX Ds ?_)
  | (refine pk 88 ?_;refine aX Dq ?_)
  | (refine pk 130 ?_;refine aX Dn ?_)
  | (refine pk 105 ?_;refine aX rd ?_)
  | (refine pk 108 ?_;refine aX DA ?_)
  | (refine pk 104 ?_;refine aX qZ ?_)
  | (refine pk 121 ?_;refine aX q7 ?_)
  | (refine pk 126 ?_;refine aX q8 ?_)
  | (refine pk 136 ?_;refine aX Dy ?_)
  | (refine pk 109 ?_;refine aX Dw ?_)
  | (refine pk 137 ?_;refine aX Dx ?_)
  | (refine pk 115 ?_;refine aX Dt ?_)
  | (refine pk 138 ?_;refine aX Du ?_)
  | (refine pk 131 ?_;refine aX Dv ?_)
  | (refine pk 98 ?_;refine aX DC ?_)
  | (refine pk 142 ?_;refine aX DD ?_)
  | (refine pk 139 ?_;refine aX DE ?_)
  | (refine pk 150 ?_;refine aX DF ?_)
  | (refine pk 114 ?_;refine aX qV ?_)
  | (refine pk 151 ?_;refine aX qW ?_)
  | (refine pk 132 ?_;refine aX qX ?_)
  | (refine pk 140 ?_;refine aX qY ?_)
  | (refine pk 119 ?_;refine aX q9 ?_)
  | (refine pk 122 ?_;refine aX ra ?_)
  | (refine pk 145 ?_;refine aX rc ?_)
  | (refine pk 127 ?_;refine aX re ?_)
  | (refine pk 152 ?_;refine aX rf ?_)
  | (refine pk 141 ?_;refine aX nH ?_)
  | (refine pk 133 ?_;refine aX rj ?_)
  | (refine pk 123 ?_;refine aX rm ?_)
  | (refine pk 143 ?_;refine aX ro ?_)
  | (refine pk 111 ?_;refine aX DB ?_)
  | (refine pk 110 ?_;refine aX rp ?_)
  | (refine pk 113 ?_;refine aX DO ?_))
 exact NW d.h) (k:b):a:=(h ⟨k⟩).h
end
def mH:List (Nat×Nat)->List (Nat×Nat)
 | []=>[]
 | (i,j)::r=>(j,i)::mH r
def dt{α:Type}:List (Nat×α)->Bf->List (Nat×Nat)
 | (i,_)::m,b::bs=>(i,b)::dt m bs
 | _,_=>[]
def kz{α:Type}:List (Nat×α)->Bf
 | []=>[]
 | (i,_)::r=>i::kz r
theorem WQ{st ρ x xs ly d e}(h:ac st x ly)(f:Rn ρ ly d)(k:dY st ρ xs e):dY st ρ (x::xs) (d::e):=⟨⟨_,h,f⟩,k⟩
structure oG(σ σi:List (Nat×Nat))(ly ly':Ly):Prop where
 h:Rn σ ly ly'
structure nI(σ σi:List (Nat×Nat))(l l':List Ly):Prop where
 h:kl σ l l'
theorem nJ{σ σi ly}(h:IF ly):oG σ σi ly ly:=⟨au h⟩
theorem N0{σ σi x y}(_:lk σi x=some y)(h:lk σ y=some x):oG σ σi (.own x) (.own y):=⟨K1 h⟩
theorem N1{σ σi x y o}(_:lk σi x=some y)(h:lk σ y=some x):oG σ σi (.ptr x o) (.ptr y o):=⟨tu h⟩
theorem N2{σ σi x y}(_:lk σi x=some y)(h:lk σ y=some x):oG σ σi (.por x) (.por y):=⟨jQ h⟩
theorem N3{σ σi x y o n}(_:lk σi x=some y)(h:lk σ y=some x):oG σ σi (.win x o n) (.win y o n):=⟨qP h⟩
theorem N4{σ σi l l'}(h:nI σ σi l l'):oG σ σi (.agg l) (.agg l'):=⟨gY h.h⟩
theorem N5{σ σi l l'}(h:nI σ σi l l'):oG σ σi (.tup l) (.tup l'):=⟨jR h.h⟩
theorem N6{σ σi}:nI σ σi [] []:=⟨Vi⟩
theorem N7{σ σi a d l l'}(h:oG σ σi a d)(k:nI σ σi l l'):nI σ σi (a::l) (d::l'):=⟨Je h.h k.h⟩
structure kE(σ σi ρ:List (Nat×Nat))(mo:List (Nat×Ct))(ks:Bf)(em:List (Nat×Ct)):Prop where
 h:dD σ ρ mo em
theorem WR{σ σi ρ mo}:kE σ σi ρ mo [] []:=⟨trivial⟩
theorem WS{σ σi ρ mo x y d em}(_:lk σ y=some x)(_:lk mo x=some .gone)(e:lk ρ x=some y)(k:kE σ σi ρ mo d em):kE σ σi ρ mo (y::d) ((y,.gone)::em):=⟨.inr ⟨rfl,x,kn e⟩,k.h⟩
theorem rq{σ σi ρ mo x y e em E ly d}(j:lk σ y=some x)(f:lk mo x=some (.bx E ly))(g:oG σ σi ly d)(k:kE σ σi ρ mo e em):kE σ σi ρ mo (y::e) ((y,.bx E d)::em):=⟨.inl ⟨x,_,j,f,cx g.h⟩,k.h⟩
theorem ru{σ σi ρ mo x y d em E n ls}(g:lk σ y=some x)(e:lk mo x=some (.sl E n ls))(f:it ls)(k:kE σ σi ρ mo d em):kE σ σi ρ mo (y::d) ((y,.sl E n ls)::em):=⟨by grind[aW],k.h⟩
theorem rx{σ σi ρ mo x y d em o}(f:lk σ y=some x)(e:lk mo x=some (.ob o))(k:kE σ σi ρ mo d em):kE σ σi ρ mo (y::d) ((y,.ob o)::em):=⟨by grind[ld],k.h⟩
theorem ry{σ σi ρ mo x y d em o}(f:lk σ y=some x)(e:lk mo x=some (.ch o))(k:kE σ σi ρ mo d em):kE σ σi ρ mo (y::d) ((y,.ch o)::em):=⟨by grind[lf],k.h⟩
theorem rz{σ σi ρ mo x y e em d ls}(j:lk σ y=some x)(f:lk mo x=some (.mp d ls))(g:it ls)(k:kE σ σi ρ mo e em):kE σ σi ρ mo (y::e) ((y,.mp d ls)::em):=⟨by grind[k9],k.h⟩
structure iH(mm:Nat->Option Ct)(sm:Bf)(em em':List (Nat×Ct)):Prop where
 h:up mm em=up mm em'
theorem Jnf{mm d}:iH mm d [] []:=⟨rfl⟩
theorem Jk8{mm e id c em d}(_:eW e id=false)(k:iH mm e em d):iH mm e ((id,c)::em) ((id,c)::d):=⟨by
 funext i;have:=congrFun k.h i
 grind[up,lk]⟩
theorem Jk9{mm e id c em d}(_:eW e id=true)(h:mm id=some c)(f:lk em id=none)(k:iH mm e em d):iH mm e ((id,c)::em) d:=⟨by
 rw[<-k.h]
 grind[up,lk,Nat.eq_of_beq_eq_true]⟩
theorem WT{ρ mm x y c d r}(e:lk ρ x=some y)(f:mm y=some c)(g:gV ρ c d)(k:dK ρ mm r):dK ρ mm ((x,d)::r):=⟨⟨_,_,e,f,g⟩,k⟩
section
variable {X:Cx}{st:Nat->Option Ly}{mm:Nat->Option Ct}{ty:TypeId}{pos:String}{af:Array Edge}
theorem c0{d f args argTypes largs res}(hf:bo X.P f largs [] res [])(hd:Nat.blt d X.N=true:=by exact rfl)(g:autoParam (dY st [] args largs) qS._auto_1)(e:IF res:=by exact cm.h):
 br X st mm ⟨some d,.call { callee:=.value (.func f),args:=⟨args⟩,argTypes:=argTypes },ty,pos,af,none⟩ [(d,res)] []:=⟨by grind[ll]⟩
theorem cG{d f args argTypes largs mi res mo res' em e}(hf:bo X.P f largs mi res mo)(bs:Bf)(τ:List (Nat×Nat))(v:Bf)(hd:Nat.blt d X.N=true:=by exact rfl)
 (u:autoParam (dY st (dt mi bs) args largs) qS._auto_1)
 (r:dK (dt mi bs) mm mi:=by (repeat (first | exact trivial | refine WT rfl (by first | exact rfl | exact(Ag.get oi rfl).trans rfl) (by first | exact aW ff.h | exact cx (by (repeat' first | exact au cm.h | exact K1 rfl | exact Vi | refine Je ?_ ?_ | refine gY ?_ | exact tu rfl | exact jQ rfl | exact qP rfl | refine jR ?_ | exact xZ rfl | refine x6 ?_)) | exact ld | exact lf | exact k9 ff.h) ?_)))
 (hρm:autoParam (gc mi (dt mi bs)) jT._auto_1) (hρn:aJ ((dt mi bs).map (·.2))=true:=by exact rfl)
 (hτ:ez mm τ:=by (repeat (first | exact trivial | refine⟨(by first | exact rfl | exact(Ag.get oi rfl).trans rfl),?_⟩)))
 (hσ:gg τ (dt mi bs) (τ++mH (dt mi bs)):=by (repeat (first | exact trivial | refine⟨.inl rfl,?_⟩ | refine⟨.inr rfl,?_⟩)))
 (hσn:aJ ((τ++mH (dt mi bs)).map (·.2))=true:=by exact rfl)
 (p:kE (τ++mH (dt mi bs)) (mH τ++dt mi bs) (dt mi bs) mo (kz τ++bs) em:=by (repeat (first | exact WR | (apply WS;exact rfl;exact rfl;exact rfl) | (apply ru;exact rfl;exact rfl;exact ff.h) | (apply rq;exact rfl;exact rfl;exact by (repeat' first | exact nJ cm.h | exact N0 rfl rfl | exact N6 | apply N7 | apply N4 | apply N5 | exact N1 rfl rfl | exact N2 rfl rfl | exact N3 rfl rfl)) | (apply rx;exact rfl;exact rfl) | (apply ry;exact rfl;exact rfl) | (apply rz;exact rfl;exact rfl;exact ff.h))))
 (g:autoParam (bN em ((dt mi bs).map (·.2))) jT._auto_1) (hall2:autoParam (bN em (τ.map (·.1))) jT._auto_1)
 (j:oG (τ++mH (dt mi bs)) (mH τ++dt mi bs) res res':=by (repeat' first | exact nJ cm.h | exact N0 rfl rfl | exact N6 | apply N7 | apply N4 | apply N5 | exact N1 rfl rfl | exact N2 rfl rfl | exact N3 rfl rfl))
 (k:iH mm v em e:=by (repeat (first | exact Jnf | (apply Jk8;exact rfl) | (apply Jk9;exact rfl;exact(by first | exact rfl | exact(Ag.get oi rfl).trans rfl);exact rfl)))) :
 br X st mm ⟨some d,.call { callee:=.value (.func f),args:=⟨args⟩,argTypes:=argTypes },ty,pos,af,none⟩ [(d,res')] e:=⟨by
 have h:=iG (ty:=ty) (pos:=pos) (af:=af) (argTypes:=argTypes) (dt mi bs) τ (τ++mH (dt mi bs)) hf u (dK.get r) hρm hρn hτ hσ hσn p.h g hall2 j.h hd;intro a w γ K Q hi t
 exact h a w γ K Q hi λs w' γ' q=>t s w' γ' (k.h ▸ q)⟩
end
section
variable {R:Type}{X:Cx}{l:List (Nat×Ly)}{m:List (Nat×Ct)}{md:Option R}{Q:R->Exit->Act->World->Prop}{G:R->Act->World->Prop}
theorem b{α:Type}{x:Option α}{f:α->Option R}(h:∀ y,x=some y->Sq X l m (f y) G):Sq X l m (x.bind f) G:=bd h
theorem o{d op ty pos after}{aG:Array Oper}{rest:List Oper}{el em}(h:br X (lk l) (lk m) ⟨d,op,ty,pos,after,none⟩ el em)
 (k:Sq X (el++l) (em++m) md (λr=>wpList X.P aG (Q r) rest)):Sq X l m md (λr=>wpList X.P aG (Q r) (⟨d,op,ty,pos,after,none⟩::rest)):=so h.h k
theorem bY{d op ty pos after j b e}{aG:Array Oper}{rest:List Oper}{el em}(h:br X (lk l) (lk m) ⟨d,op,ty,pos,after,none⟩ el em)
 (k:Sq X (el++l) (em++m) md (λr=>wpList X.P aG (Q r) rest)) (f:((aG[j]?).bind (·.dst))=some e:=by exact rfl) (g:lk l e=some (bl b):=by exact rfl):Sq X l m md (λr=>wpList X.P aG (Q r) (⟨d,op,ty,pos,after,some (j,b)⟩::rest)):=sg e f g h.h k
theorem c{b:Bool}{c:Operand}{x y:Code}{d e:Option R} 
 (f:Sq X l m d (λr=>x.wp X.P (Q r))) (g:Sq X l m e (λr=>y.wp X.P (Q r))) (j:ac (lk l) c (bl b):=by exact rfl) :
 Sq X l m (bif b then d else e) (λr=>(Code.cond c x y).wp X.P (Q r)):=qG j f g
structure rA(X:Cx)(st:Nat->Option Ly)(α:Type)(md1:Option α)(f:Nat)(args:List Operand)(d:Nat)(res:α->Ly):Prop where
 h:∃ largs,(∀ r,md1=some r->bo X.P f largs [] (res r) [])/\dY st [] args largs/\(∀ r,IF (res r))/\Nat.blt d X.N=true
theorem ca{α:Type}{g:Option α}{f args d largs}{res:α->Ly}(c:∀ r,g=some r->bo X.P f largs [] (res r) [])(hd:Nat.blt d X.N=true:=by exact rfl)(j:autoParam (dY (lk l) [] args largs) qS._auto_1)(e:∀ r,IF (res r):=by intro r;exact cm.h):rA X (lk l) α g f args d res:=⟨_,c,j,e,hd⟩
theorem cb{α:Type}{e:Option α}{k:α->Option R}{d f args argTypes ty pos af}{res:α->Ly}{aG:Array Oper}{rest:List Oper}(c:rA X (lk l) α e f args d res)
 (h:∀ r,Sq X ((d,res r)::l) m (k r) (λr=>wpList X.P aG (Q r) rest)) :
 Sq X l m (e.bind k) (λr=>wpList X.P aG (Q r) (⟨some d,.call { callee:=.value (.func f),args:=⟨args⟩,argTypes:=argTypes },ty,pos,af,none⟩::rest)):=by
 obtain⟨largs,c,j,g,hd⟩:=c;exact bd λr p=>s1 (by grind[ll]) (h r)
def dI(l:Bf):List (Nat×Nat):=l.map λx=>(x,x)
theorem eI{l':List (Nat×Ly)}(h:autoParam (iU l' l) tY._auto_1):k7 X l [] l' []:=Mx h Nl
theorem eR{l' m'}(σ:List (Nat×Nat))(f:aJ ((oy σ m').map (·.2))=true:=by exact rfl)(hk:ib σ X.g0:=by exact nA oi (by (repeat (first | exact trivial | refine⟨rfl,?_⟩))))(g:autoParam (gc m' σ) jT._auto_1)
 (e:autoParam (l9 σ m m') tZ._auto_1)
 (d:oA σ l l':=by (repeat (first | exact trivial | refine⟨⟨_,rfl,(by (repeat' first | exact au cm.h | exact K1 rfl | exact Vi | refine Je ?_ ?_ | refine gY ?_ | exact tu rfl | exact jQ rfl | exact qP rfl | refine jR ?_ | exact xZ rfl | refine x6 ?_))⟩,?_⟩))):k7 X l m l' m':=by grind[CV]
structure pL(lys:List Ly)(ly:Ly):Prop where
 h:tE lys=ly
theorem WU{l}(h:tE l=.tup l):pL l (.tup l):=⟨h⟩
theorem WV{ly}:pL [ly] ly:=⟨rfl⟩
theorem Jng{P}:ic P l m [] []:=trivial
theorem Jnh{P t rs ly d}(h:lk l t=some ly)(k:ic P l m rs d):ic P l m (.tmp t::rs) (ly::d):=⟨h,k⟩
theorem Jla{P t T rs ly d id E}(h:lk l t=some (.own id))(e:lk m id=some (.bx E ly))(f:fB P T ly.isN ly.sz)(k:ic P l m rs d):ic P l m (.cell t T::rs) (ly::d):=⟨⟨_,_,h,e,f⟩,k⟩
theorem rt{P:Program}{N:Nat}{w0:World}{S0 γ0}{mi:List (Nat×Ct)}{R:Type}{res:R->Ly}{mo:R->List (Nat×Ct)}{fn:Func}{l:List (Nat×Ly)}{m:List (Nat×Ct)}{r:R}{rs f d e}(σ:List (Nat×Nat))
 (hγ:∀ id,lk mi id=none->γ0 id=none:=by assumption) (k:e=.ret\/e=.normal:=by first | exact .inl rfl | exact .inr rfl) (t:fn.results=⟨rs⟩:=by exact rfl) (g:pL d (res r):=by first | exact WU rfl | exact WV)
 (j:ic P l m rs f:=by (repeat (first | exact Jng | (apply Jnh;exact rfl) | (apply Jla;exact rfl;exact rfl;exact cg.h))))
 (s:aJ ((oy σ (mo r)).map (·.2))=true:=by exact rfl) (hk:autoParam (Db σ mi) tY._auto_1) (u:autoParam (gc (mo r) σ) jT._auto_1)
 (q:autoParam (l9 σ m (mo r)) tZ._auto_1) (p:kl σ f d:=by (repeat' first | exact au cm.h | exact K1 rfl | exact Vi | refine Je ?_ ?_ | refine gY ?_ | exact tu rfl | exact jQ rfl | exact qP rfl | refine jR ?_ | exact xZ rfl | refine x6 ?_)) :
 Sq ⟨P,N,w0,S0,Ow γ0 (lk mi),γ0,[]⟩ l m (some r) (λr=>bodyPost P fn (fd w0 S0 γ0 mi (res r) (mo r)) e):=ret σ rs f d e hγ k t j s hk u q p g.h
theorem fs{P:Program}{f N:Nat}{fn:Func}{c:Code}{args:List Ly}{mi:List (Nat×Ct)}{R:Type}{res:R->Ly}{mo:R->List (Nat×Ct)}{md:Option R}
 (hf:P.funcs[f]?=some fn) (h:∀ w S0 γ,(∀ id,lk mi id=none->γ id=none)->Sq ⟨P,N,w,S0,Ow γ (lk mi),γ,[]⟩ (iv 0 args) mi md (λr=>c.wp P (bodyPost P fn (fd w S0 γ mi (res r) (mo r)))))
 (hb:fn.body=some c:=by exact rfl) (hN:fn.ntmps=N:=by exact rfl) (hname:(fn.name == "runtime.NumGoroutine")=false:=by kernel_rfl) (hl:Nat.ble args.length N=true:=by exact rfl) :
 ∀ r,md=some r->bo P f args mi (res r) (mo r):=UY hf hb hN hname hl h
theorem tK_{p:Prop}(h:p:=by (repeat (first | exact rfl | refine⟨_,_,_,bf,(by exact rfl),(by exact rfl),(by exact rfl),xy (by exact rfl),?_⟩))):p:=h
theorem tO_{p:Prop}(h:p:=by (repeat (first | exact rfl | refine⟨_,_,_,bf,(by exact rfl),(by exact rfl),(by exact rfl),(by exact rfl),(by exact rfl),?_⟩))):p:=h
theorem tL_{p:Prop}(h:p:=by (repeat (first | exact trivial | refine⟨(by exact rfl),bf,(by exact rfl),(by exact rfl),?_⟩))):p:=h
section
variable {X:Cx}{st:Nat->Option Ly}{mm:Nat->Option Ct}{ty:TypeId}{pos:String}{af:Array Edge}
theorem mB(l:List Ly){d T parts pl e}(hd:Nat.blt d X.N=true:=by exact rfl)(j:HK X.P T pl:=by exact eX.h)(h:∃ k b z,eU X.P T k b z/\Zr e z.cells.toList:=by exact dM.h)(p:autoParam (ie st pl parts e (.agg l)) tK_._auto_1):br X st mm ⟨some d,.build T ⟨parts⟩,ty,pos,af,none⟩ [(d,.agg l)] []:=by obtain⟨k,b,z,f,g⟩:=h;exact⟨by grind[VJ]⟩
theorem fx(l:List Ly){d T n E parts k b z e}(hd:Nat.blt d X.N=true:=by exact rfl)(r:X.P.underlying T=some (.array n E):=by exact cU.h)(h:∃ k b z,eU X.P T k b z/\Zr e z.cells.toList:=by exact dM.h)(q:eU X.P E k b z:=by exact bQ.h)(f:(parts.all λp=>Nat.blt p.1 n)=true:=by exact rfl)(s:autoParam (lm st k parts e (.agg l)) tO_._auto_1):br X st mm ⟨some d,.build T ⟨parts⟩,ty,pos,af,none⟩ [(d,.agg l)] []:=by
 obtain⟨k,b,z,g,j⟩:=h;exact⟨by grind[Np]⟩
theorem mS(y:Nat)(ls:List Ly){d T len parts E k b z}(hd:Nat.blt d X.N=true:=by exact rfl)(s:autoParam (mm y=none) kA._auto_1)(q:X.P.underlying T=some (.slice E):=by exact cU.h)(p:eU X.P E k b z:=by exact bQ.h)(t:z.cells.size=k:=by exact rfl)(e:parts.length=len:=by exact rfl)(j:ls.length=len:=by exact rfl)(g:Nat.ble (len*k) 16777216=true:=by exact rfl)(f:Nat.blt 0 k=true:=by exact rfl)(r:autoParam (jG st k 0 parts ls) tL_._auto_1):
 br X st mm ⟨some d,.buildSlice T len ⟨parts⟩,ty,pos,af,none⟩ [(d,.own y)] [(y,.sl E k ls)]:=⟨by grind[VD]⟩
end
section
variable {R:Type}{X:Cx}{l:List (Nat×Ly)}{m:List (Nat×Ct)}{md:Option R}{Q:R->Exit->Act->World->Prop}{G:R->Act->World->Prop}{a:Prop}
theorem zb{α:Type}{x:Option α}{f:α->Option R}(n:Bf)(k:∀ y,x=some y->Sq X l m (f y) G)(h:autoParam (gl (Sq X l m (x.bind f) G)->ep n a) z._auto_1):a:=(h ⟨b k⟩).h
theorem zc{b:Bool}{c:Operand}{x y:Code}{d e:Option R}(n:Bf)(h:autoParam (gl (Sq X l m (bif b then d else e) (λr=>(Code.cond c x y).wp X.P (Q r)))->ep n a) z._auto_1)
 (j:ac (lk l) c (bl b):=by exact rfl) (f:Sq X l m d (λr=>x.wp X.P (Q r))) (g:Sq X l m e (λr=>y.wp X.P (Q r))):a:=(h ⟨qG j f g⟩).h
theorem zi{b:Bool}{e f:Option R}(n:Bf)(d:Nat)(h:autoParam (gl (Sq X l m (bif b then e else f) G)->ep n a) z._auto_1)(hd:lk l d=some (bl b):=by exact rfl)
 (g:Sq X ((d,bl true)::l) m e G) (j:Sq X ((d,bl false)::l) m f G):a:=(h ⟨MD d hd g j⟩).h
theorem zk{α:Type}{e:Option α}{k:α->Option R}{P:Program}{d f args argTypes ty pos af largs}{res:α->Ly}{aG:Array Oper}{rest:List Oper}(n:Bf)(c:∀ r,e=some r->bo P f largs [] (res r) [])
 (h:∀ r,Sq X ((d,res r)::l) m (k r) (λr=>wpList X.P aG (Q r) rest))
 (p:autoParam (gl (Sq X l m (e.bind k) (λr=>wpList X.P aG (Q r) (⟨some d,.call { callee:=.value (.func f),args:=⟨args⟩,argTypes:=argTypes },ty,pos,af,none⟩::rest)))->ep n a) z._auto_1)
 (j:P=X.P:=by exact rfl) (hd:Nat.blt d X.N=true:=by exact rfl) (q:autoParam (dY (lk l) [] args largs) qS._auto_1) (g:∀ r,IF (res r):=by intro r;exact cm.h):a:=by
 subst j;exact(p ⟨cb (by grind[ca]) h⟩).h
theorem zj{σ:Type}{L:σ->List (Nat×Ly)}{j:σ->Option R}{s:σ}(n:Bf)(k:∀ s,Sq X (L s) [] (j s) G)(d:autoParam (gl (Sq X l [] (j s) G)->ep n a) z._auto_1)(h:autoParam (iU (L s) l) tY._auto_1):a:=(d ⟨sj (k s) (eI h)⟩).h
theorem zJ{σ':Type}{L:σ'->List (Nat×Ly)}{M:σ'->List (Nat×Ct)}{j:σ'->Option R}{s:σ'}(n:Bf)(k:∀ s,Sq X (L s) (M s) (j s) G)(σ:List (Nat×Nat):=dI (kz (M s)))(d:autoParam (gl (Sq X l m (j s) G)->ep n a) z._auto_1)
 (g:aJ ((oy σ (M s)).map (·.2))=true:=by exact rfl) (hk:autoParam (ib σ X.g0) eR._auto_2) (p:autoParam (gc (M s) σ) jT._auto_1) (f:autoParam (l9 σ m (M s)) tZ._auto_1) (e:autoParam (oA σ l (L s)) eR._auto_3):a:=(d ⟨by grind[sj,eR]⟩).h
theorem zg{σ τ:Type}{L:σ->List (Nat×Ly)}{k:τ->Option R}{s:σ}(n:Bf)(d:autoParam (gl (Sq X l [] (some (Lp.go s)) (λo=>iV X L (λ_=>[]) k Q o .normal))->ep n a) z._auto_1)(h:autoParam (iU (L s) l) tY._auto_1):a:=(d ⟨UO (eI h)⟩).h
theorem zG{σ' τ:Type}{L:σ'->List (Nat×Ly)}{M:σ'->List (Nat×Ct)}{k:τ->Option R}{s:σ'}(n:Bf)(σ:List (Nat×Nat):=dI (kz (M s)))(d:autoParam (gl (Sq X l m (some (Lp.go s)) (λo=>iV X L M k Q o .normal))->ep n a) z._auto_1)
 (g:aJ ((oy σ (M s)).map (·.2))=true:=by exact rfl) (hk:autoParam (ib σ X.g0) eR._auto_2) (j:autoParam (gc (M s) σ) jT._auto_1) (f:autoParam (l9 σ m (M s)) tZ._auto_1) (e:autoParam (oA σ l (L s)) eR._auto_3):a:=(d ⟨UO (by grind[eR])⟩).h
theorem zr{P:Program}{N:Nat}{w0:World}{S0 γ0}{mi:List (Nat×Ct)}{res:R->Ly}{mo:R->List (Nat×Ct)}{fn:Func}{r:R}{rs g d e}(n:Bf)(σ:List (Nat×Nat):=[])
 (v:autoParam (gl (Sq ⟨P,N,w0,S0,Ow γ0 (lk mi),γ0,[]⟩ l m (some r) (λr=>bodyPost P fn (fd w0 S0 γ0 mi (res r) (mo r)) e))->ep n a) z._auto_1)
 (hγ:∀ id,lk mi id=none->γ0 id=none:=by assumption) (k:e=.ret\/e=.normal:=by first | exact .inl rfl | exact .inr rfl) (t:fn.results=⟨rs⟩:=by exact rfl) (f:pL d (res r):=by first | exact WU rfl | exact WV)
 (j:autoParam (ic P l m rs g) rt._auto_5) (s:aJ ((oy σ (mo r)).map (·.2))=true:=by exact rfl) (hk:autoParam (Db σ mi) tY._auto_1) (u:autoParam (gc (mo r) σ) jT._auto_1)
 (q:autoParam (l9 σ m (mo r)) tZ._auto_1) (p:autoParam (kl σ g d) rt._auto_7):a:=(v ⟨rt σ hγ k t f j s hk u q p⟩).h
end
structure pM(id k:Nat)(ls:List Ly)(l:List (Nat×Ly))(ds:Bf)(l1:List (Nat×Ly)):Prop where
 h:xS id k ls l l1
structure pN(id k:Nat)(ls:List Ly)(m:List (Nat×Ct))(ds:Bf)(m1:List (Nat×Ct)):Prop where
 h:xT id k ls m m1
theorem Jni{id k ls l}:pM id k ls l [] []:=⟨trivial⟩
theorem Jlb{id k ls l d f g ly e}(h:lk l d=some ly)(j:nC id k ls ly e)(p:pM id k ls l f g):pM id k ls l (d::f) ((d,e)::g):=⟨⟨_,h,j⟩,p.h⟩
theorem Jnj{id k ls m}:pN id k ls m [] []:=⟨trivial⟩
theorem Jlc{id k ls m d f g E ly e}(q:Nat.beq id d=false)(h:lk m d=some (.bx E ly))(j:nC id k ls ly e)(p:pN id k ls m f g):pN id k ls m (d::f) ((d,.bx E e)::g):=⟨⟨q,_,h,j⟩,p.h⟩
theorem WW{id k ls ly}(_:IF ly):nC id k ls ly ly:=nD
theorem fz(id:Nat)(p r:Bf){E k ls g j}(K:Sq X (g++l) (j++(id,.gone)::m) md G)(q:lk m id=some (.sl E k ls):=by exact rfl)(d:it ls:=by exact ff.h)
 (e:pM id k ls l p g:=by (repeat (first | exact Jni | (apply Jlb;exact rfl;exact by (repeat' first | exact VE | exact WW cm.h | exact VF | apply VG | apply VH | exact nD))))) (f:pN id k ls m r j:=by (repeat (first | exact Jnj | (apply Jlc;exact rfl;exact rfl;exact by (repeat' first | exact VE | exact WW cm.h | exact VF | apply VG | apply VH | exact nD))))):Sq X l m md G:=frz g j q d e.h f.h K
theorem N8{α:Type}:∀(a:List (List (Nat×α))) (e l),eG (a++[e]) l=e++eG a l
 | [],_,_=>rfl
 | x::a,e,l=>N8 a e (x++l)
theorem WX{aG:Array Oper}:∀ {ls:List Oper}{f:List D}{l m o os d},qM X aG l m ls f->(∀ st mm,Ag st (lk (eG (f.map (·.el)) l)) d.rs->Ag mm (lk (eG (f.map (·.em)) m)) d.ri->mE X aG st mm o d.el d.em)->os=ls++[o]->qM X aG l m os (f++[d])
 | [],[],l,m,o,os,d,_,h,e=>by subst e;exact⟨h,trivial⟩
 | k::ls,j::f,l,m,o,os,d,g,h,e=>by subst e;exact⟨g.1,WX g.2 h rfl⟩
 | [],_::_,_,_,_,_,_,h,_,_=>by grind[qM]
 | _::_,[],_,_,_,_,_,h,_,_=>by grind[qM]
def fI(X:Cx)(Wp:R->Act->World->Prop)(d:List Oper)(f:List (Nat×Ly))(g:List (Nat×Ct))(md:Option R)(_:R->Exit->Act->World->Prop)(e:List D)(l:List (Nat×Ly))(m:List (Nat×Ct))(ls:List Oper):Prop:=
 ∀ pre,d=pre++ls->qM X ⟨d⟩ f g pre e->eG (e.map (·.el)) f=l->eG (e.map (·.em)) g=m->Sq X f g md Wp
theorem sd{id:Nat}{ls:List Oper}(h:fI X (λr=>(Code.region id ⟨ls⟩ true).wp X.P (Q r)) ls l m md Q [] l m ls):Sq X l m md (λr=>(Code.region id ⟨ls⟩ true).wp X.P (Q r)):=h [] rfl trivial rfl rfl
theorem de{id:Nat}{d q s f}(hf:X.P.follows .mixedOrders=true)(k:Sq X l m md (λr=>Q r .normal))(g:cT d f 0 [] []=true:=by kernel_rfl):fI X (λr=>(Code.region id ⟨d⟩ true).wp X.P (Q r)) d q s md Q f l m []:=by intro pre e p t u;simp at e;subst e;intro r a w γ j hi;refine wp_region_any hf (tJ f g p ?_ r a w γ j hi);grind
theorem dx{Wp d g j f o os}(rs ri:Bf){el em}(h:∀ st mm,Ag st (lk l) rs->Ag mm (lk m) ri->mE X ⟨d⟩ st mm o el em)(k:fI X Wp d g j md Q (f++[⟨rs,ri,el,em⟩]) (el++l) (em++m) os):fI X Wp d g j md Q f l m (o::os):=by
 intro pre e p q r;refine k (pre++[o]) (by simp[e]) (WX p ol rfl) ?_ ?_
 all_goals grind[N8]
def tmps:List Operand->Bf
 | []=>[]
 | .tmp t::r=>t::tmps r
 | _::r=>tmps r
def dm(ls:Array Oper)(o:Oper):Bf:=(match o.guard with
 | some (j,_)=>match (ls[j]?).bind (·.dst) with
   | some d=>[d]
   | none=>[]
 | none=>[])++tmps o.op.operands.toList
theorem dd{Wp e g j f os d op ty pos after}(ri:Bf){el em}(h:∀ st mm,Ag st (lk l) (dm ⟨e⟩ ⟨d,op,ty,pos,after,none⟩)->Ag mm (lk m) ri->br X st mm ⟨d,op,ty,pos,after,none⟩ el em)
 (k:fI X Wp e g j md Q (f++[⟨dm ⟨e⟩ ⟨d,op,ty,pos,after,none⟩,ri,el,em⟩]) (el++l) (em++m) os):fI X Wp e g j md Q f l m (⟨d,op,ty,pos,after,none⟩::os):=dx _ ri (λst mm p q=>og (h st mm p q).h) k
theorem dG{Wp e q r g os d op ty pos after j b f}(ri:Bf){el em}(h:∀ st mm,Ag st (lk l) (dm ⟨e⟩ ⟨d,op,ty,pos,after,some (j,b)⟩)->Ag mm (lk m) ri->br X st mm ⟨d,op,ty,pos,after,none⟩ el em)
 (k:fI X Wp e q r md Q (g++[⟨dm ⟨e⟩ ⟨d,op,ty,pos,after,some (j,b)⟩,ri,el,em⟩]) (el++l) (em++m) os) (t:(((⟨e⟩:Array Oper)[j]?).bind (·.dst))=some f:=by exact rfl) (v:lk l f=some (bl b):=by exact rfl) (u:eW (dm ⟨e⟩ ⟨d,op,ty,pos,after,some (j,b)⟩) f=true:=by exact rfl):fI X Wp e q r md Q g l m (⟨d,op,ty,pos,after,some (j,b)⟩::os):=dx _ ri (λst mm p s=>jJ f t ((p.get u).trans v) (h st mm p s).h) k
structure gA(n:List Bf)(p:Prop):Prop where
 h:p
theorem N9{Wp e g j f os d op ty pos after ri p}{el em}(h:∀ st mm,Ag st (lk l) (dm ⟨e⟩ ⟨d,op,ty,pos,after,none⟩)->Ag mm (lk m) ri->br X st mm ⟨d,op,ty,pos,after,none⟩ el em)
 (k:gA p (fI X Wp e g j md Q (f++[⟨dm ⟨e⟩ ⟨d,op,ty,pos,after,none⟩,ri,el,em⟩]) (el++l) (em++m) os)):gA (ri::p) (fI X Wp e g j md Q f l m (⟨d,op,ty,pos,after,none⟩::os)):=⟨dd ri h k.h⟩
theorem Oa{Wp e p q g os d op ty pos after j b f ri r}{el em}(s:(((⟨e⟩:Array Oper)[j]?).bind (·.dst))=some f)(u:lk l f=some (bl b))(t:eW (dm ⟨e⟩ ⟨d,op,ty,pos,after,some (j,b)⟩) f=true)(h:∀ st mm,Ag st (lk l) (dm ⟨e⟩ ⟨d,op,ty,pos,after,some (j,b)⟩)->Ag mm (lk m) ri->br X st mm ⟨d,op,ty,pos,after,none⟩ el em)
 (k:gA r (fI X Wp e p q md Q (g++[⟨dm ⟨e⟩ ⟨d,op,ty,pos,after,some (j,b)⟩,ri,el,em⟩]) (el++l) (em++m) os)):gA (ri::r) (fI X Wp e p q md Q g l m (⟨d,op,ty,pos,after,some (j,b)⟩::os)):=⟨dG ri h k.h s u t⟩
theorem Ob{Wp e q r p os d op ty pos after j b g f ri s}(v:(((⟨e⟩:Array Oper)[j]?).bind (·.dst))=some f)(x:lk l f=some (bl g))(u:g=!b)(w:eW (dm ⟨e⟩ ⟨some d,op,ty,pos,after,some (j,b)⟩) f=true)(hd:Nat.blt d X.N=true)
 (k:gA s (fI X Wp e q r md Q (p++[⟨dm ⟨e⟩ ⟨some d,op,ty,pos,after,some (j,b)⟩,ri,[(d,.tup [])],[]⟩]) ((d,.tup [])::l) m os)):gA (ri::s) (fI X Wp e q r md Q p l m (⟨some d,op,ty,pos,after,some (j,b)⟩::os)):=⟨dx _ ri (λ_ _ t _=>ogB f v ((t.get w).trans (u ▸ x)) hd) k.h⟩
theorem Oc{Wp e p q g os d op ty pos after j b f ri r}(t:(((⟨e⟩:Array Oper)[j]?).bind (·.dst))=some f)(v:lk l f=some (.tup []))(u:eW (dm ⟨e⟩ ⟨some d,op,ty,pos,after,some (j,b)⟩) f=true)(hd:Nat.blt d X.N=true)
 (k:gA r (fI X Wp e p q md Q (g++[⟨dm ⟨e⟩ ⟨some d,op,ty,pos,after,some (j,b)⟩,ri,[(d,.tup [])],[]⟩]) ((d,.tup [])::l) m os)):gA (ri::r) (fI X Wp e p q md Q g l m (⟨some d,op,ty,pos,after,some (j,b)⟩::os)):=⟨dx _ ri (λ_ _ s _=>ogU f t ((s.get u).trans v) hd) k.h⟩
theorem DX{p:Prop}(h:p):gA [] p:=⟨h⟩
theorem zd{a b:Prop}(n:List Bf)(h:gl b->gA n a:=by
 intro d
 repeat (first
  | refine N9 (λ_ _ _ _=>aG) ?_
  | refine Oa rfl rfl rfl (λ_ _ _ _=>aG) ?_ | refine Ob rfl rfl rfl rfl rfl ?_ | refine Oc rfl rfl rfl rfl ?_)
 exact DX d.h) (k:b):a:=(h ⟨k⟩).h
theorem obk{st mm o d b c em}(e:b=c)(h:br X st mm o [(d,bl b)] em):br X st mm o [(d,bl c)] em:=ol
theorem of{st mm o el em}(h:ax X st mm o el em):br X st mm o el em:=⟨h⟩
theorem tV{st mm o d y E k ls em}(h:br X st mm o [(d,.own y)] ((y,.sl E k ls)::em))(e:it ls:=by exact ff.h):br X st mm o [(d,bA k ls)] ((y,.gone)::em):=⟨VR h.h e⟩
class x7 (P:Program):Prop where h:P.follows .mixedOrders=true
theorem zs{a:Prop}{id:Nat}{ls:List Oper}(n:List Bf)(k:a)(h:autoParam (gl a->gA n (fI X (λr=>(Code.region id ⟨ls⟩ true).wp X.P (Q r)) ls l m md Q [] l m ls)) zd._auto_1):Sq X l m md (λr=>(Code.region id ⟨ls⟩ true).wp X.P (Q r)):=sd (h ⟨k⟩).h
theorem zx{id:Nat}{ls:List Oper}{d l' m'}(n:List Bf)(k:Sq X l' m' md (λr=>Q r .normal))(h:autoParam (gl (fI X (λr=>(Code.region id ⟨ls⟩ true).wp X.P (Q r)) ls l m md Q d l' m' [])->gA n (fI X (λr=>(Code.region id ⟨ls⟩ true).wp X.P (Q r)) ls l m md Q [] l m ls)) zd._auto_1)
 (hf:X.P.follows .mixedOrders=true:=by exact x7.h) (e:cT ls d 0 [] []=true:=by kernel_rfl):Sq X l m md (λr=>(Code.region id ⟨ls⟩ true).wp X.P (Q r)):=sd (h ⟨de hf k e⟩).h
theorem zy{a:Prop}{id:Nat}{d:List Oper}{g j e}(n:List Bf)(h:autoParam (gl (fI X (λr=>(Code.region id ⟨d⟩ true).wp X.P (Q r)) d g j md Q e l m [])->gA n a) zd._auto_1)
 (hf:X.P.follows .mixedOrders=true:=by exact x7.h) (f:cT d e 0 [] []=true:=by kernel_rfl) (k:Sq X l m md (λr=>Q r .normal)):a:=(h ⟨de hf k f⟩).h
theorem dE{id:Nat}{d:List Oper}{g j e}(k:Sq X l m md (λr=>Q r .normal))(hf:X.P.follows .mixedOrders=true:=by exact x7.h)(f:cT d e 0 [] []=true:=by kernel_rfl):fI X (λr=>(Code.region id ⟨d⟩ true).wp X.P (Q r)) d g j md Q e l m []:=de hf k f
theorem WY{p:Prop}(h:p:=by intro _ _ _ _;exact qS):p:=h
theorem dC{P:Program}{Wp e p q g os d f args argTypes ty pos after largs res}(hf:bo P f largs [] res [])
 (k:fI X Wp e p q md Q (g++[⟨dm ⟨e⟩ ⟨some d,.call { callee:=.value (.func f),args:=⟨args⟩,argTypes:=argTypes },ty,pos,after,none⟩,[],[(d,res)],[]⟩]) ((d,res)::l) m os) (r:P=X.P:=by exact rfl) (hd:Nat.blt d X.N=true:=by exact rfl)
 (s:autoParam (∀(st:Nat->Option Ly) (mm:Nat->Option Ct),Ag st (lk l) (dm ⟨e⟩ ⟨some d,.call { callee:=.value (.func f),args:=⟨args⟩,argTypes:=argTypes },ty,pos,after,none⟩)->Ag mm (lk m) []->dY st [] args largs) WY._auto_1) (j:IF res:=by exact cm.h) :
 fI X Wp e p q md Q g l m (⟨some d,.call { callee:=.value (.func f),args:=⟨args⟩,argTypes:=argTypes },ty,pos,after,none⟩::os):=by
 grind[dd,c0]
theorem dO{Wp e j p g os d f op ty pos after b c em}(q:b=c)
 (k:fI X Wp e j p md Q (g++[⟨dm ⟨e⟩ ⟨d,op,ty,pos,after,none⟩,[],[(f,bl c)],em⟩]) ((f,bl c)::l) (em++m) os) (h:∀ st mm,Ag st (lk l) (dm ⟨e⟩ ⟨d,op,ty,pos,after,none⟩)->Ag mm (lk m) []->br X st mm ⟨d,op,ty,pos,after,none⟩ [(f,bl b)] em:=by intro _ _ _ _;exact aG) :
 fI X Wp e j p md Q g l m (⟨d,op,ty,pos,after,none⟩::os):=by grind[dd,obk]
theorem cd{b:Bool}{r t:Option R}{Wp d k q j os}(u:b=true->fI X Wp d k q r Q j l m os)(v:b=false->fI X Wp d k q t Q j l m os):fI X Wp d k q (bif b then r else t) Q j l m os:=λp e s f g=>MC (λh=>u h p e s f g) (λh=>v h p e s f g)
theorem bD{α:Type}{x:Option α}{f:α->Option R}{Wp d k q g os}(h:∀ y,x=some y->fI X Wp d k q (f y) Q g l m os):fI X Wp d k q (x.bind f) Q g l m os:=λp e s i j=>bd λy r=>h y r p e s i j
structure WZ{σ:Type}(X:Cx)(l:List (Nat×Ly))(m:List (Nat×Ct))(tc ti tn t2 n:Nat)(L:σ->List (Nat×Ly))(M:σ->List (Nat×Ct))(s0:σ):Prop where
 h0:k7 X l m ((ti,ab (0:Nat))::(tn,ab n)::L s0) (M s0)
 hd:(Nat.blt tc X.N && Nat.blt ti X.N && Nat.blt t2 X.N && !(Nat.beq tc ti) && !(Nat.beq tc tn) && !(Nat.beq ti tn) && !(Nat.beq t2 tn) && !(Nat.beq t2 ti))=true
 hk:∀ s,(cY tc (L s) && cY ti (L s) && cY t2 (L s) && cY tn (L s))=true
theorem rE{σ:Type}{f d e t2 n:Nat}{L:σ->List (Nat×Ly)}{M:σ->List (Nat×Ct)}{s0:σ}(h0:k7 X l m ((d,ab (0:Nat))::(e,ab n)::L s0) (M s0))
 (hd:(Nat.blt f X.N && Nat.blt d X.N && Nat.blt t2 X.N && !(Nat.beq f d) && !(Nat.beq f e) && !(Nat.beq d e) && !(Nat.beq t2 e) && !(Nat.beq t2 d))=true:=by exact rfl)
 (hk:∀ s,(cY f (L s) && cY d (L s) && cY t2 (L s) && cY e (L s))=true:=by intro s;exact rfl):WZ X l m f d e t2 n L M s0:=⟨h0,hd,hk⟩
theorem DY{α σ:Type}{f:Nat->α->σ->Option (Lp σ R)}{xs:List α}{s0:σ}{k:σ->Option R}
 {j id2 e p d g t2 w y A C q u v:Nat}{J K N:String}{E F f3:Array Edge}{B:Code}
 (L:σ->List (Nat×Ly)) (M:σ->List (Nat×Ct)) (h0:WZ X l m p d g t2 xs.length L M s0)
 (I:∀(i:Nat) x s,xs[i]?=some x->Sq X ((d,ab i)::(g,ab xs.length)::L s) (M s) (f i x s)
  (λo=>B.wp X.P (iV X (λs=>(d,ab i)::(g,ab xs.length)::L s) M (λt=>aS k (.out t)) Q o)))
 (H:∀ s,Sq X (L s) (M s) (k s) (λr=>Q r (.exit e))) :
 Sq X l m ((ao f xs 0 s0).bind (aS k)) (λr=>(Code.loop (.seq (.region j ⟨[⟨some p,.binOp .lss w (.tmp d) (.tmp g) y,q,J,E,none⟩]⟩ false)
  (.seq (.cond (.tmp p) .skip (.exit e)) (.seq B (.region id2 ⟨[⟨some t2,.binOp .add A (.tmp d) (.const (.int .i64 1)) C,u,K,F,none⟩,⟨some d,.move (.tmp t2),v,N,f3,none⟩]⟩ false))))).wp X.P (Q r)):=pD L M h0.hd h0.hk h0.h0 I H
theorem su{σ τ:Type}{L:σ->List (Nat×Ly)}{M:σ->List (Nat×Ct)}{k:τ->Option R}{t:τ}{i:Nat}(h:Sq X l m (k t) (λr=>Q r (.exit i))):
 Sq X l m (some (Lp.out t)) (λ(o:Lp σ τ)=>iV X L M k Q o (.exit i)):=by simp_all[pr]
theorem sU{σ τ:Type}{L:σ->List (Nat×Ly)}{M:σ->List (Nat×Ct)}{k:τ->Option R}{t:τ}(h:Sq X l m (k t) (λr=>Q r .ret)):
 Sq X l m (some (Lp.out t)) (λ(o:Lp σ τ)=>iV X L M k Q o .ret):=by simp_all[pr]
end
structure lz{α:Type}(l:List (Nat×α))(ks:Bf)(l1:List (Nat×α)):Prop where h:True
theorem Jnk{α:Type}{l:List (Nat×α)}:lz l [] []:=⟨trivial⟩
theorem Jld{α:Type}{l:List (Nat×α)}{k d v e}(_:lk l k=some v)(_:lz l d e):lz l (k::d) ((k,v)::e):=⟨trivial⟩
theorem nK{p:Prop}(h:p:=by (repeat (first | exact Jnk | (apply Jld;exact rfl)))):p:=h
section
variable {R:Type}{X:Cx}{l:List (Nat×Ly)}{m:List (Nat×Ct)}{md:Option R}{Q:R->Exit->Act->World->Prop}{G:R->Act->World->Prop}
theorem zq{σ:Type}{x y:Code}{A:(σ->Option R)->Option R}{k:σ->Option R}{d e}(g f:Bf)(L:σ->List (Nat×Ly))(M:σ->List (Nat×Ct))
 (h:∀ j:σ->Option R,(∀ s,Sq X (L s++d) (M s++e) (j s) (λr=>y.wp X.P (Q r)))->Sq X l m (A j) (λr=>x.wp X.P (Exit.then (y.wp X.P (Q r)) (Q r))))
 (J:∀ s,Sq X (L s++d) (M s++e) (k s) (λr=>y.wp X.P (Q r)))
 (p:autoParam (lz l g d) nK._auto_1) (q:autoParam (lz m f e) nK._auto_1):Sq X l m (jn A k) (λr=>(Code.seq x y).wp X.P (Q r)):=pE (λs=>L s++d) (λs=>M s++e) h J
theorem yE{σ τ τ0:Type}{body:Code}{f:σ->Option (Lp σ τ)}{N:Nat}{s0:σ}{k:τ->Option R}{d lo}(e:Nat)(inj:τ0->τ)(q p:Bf)(L:σ->List (Nat×Ly))(Lo:τ0->List (Nat×Ly))
 (j:(∀ t,Sq X (Lo t++lo) [] (k (inj t)) (λr=>Q r (.exit e)))->∀ s,Sq X (L s++d) [] (f s) (λo=>body.wp X.P (iV X (λs=>L s++d) (λ_=>[]) k Q o)))
 (g:∀ t,Sq X (Lo t++lo) [] (k (inj t)) (λr=>Q r (.exit e)))
 (u:autoParam (lz l q d) nK._auto_1) (v:autoParam (lz l p lo) nK._auto_1) (h0:autoParam (iU (L s0++d) l) tY._auto_1):Sq X l [] ((ae f N s0).bind k) (λr=>(Code.loop body).wp X.P (Q r)):=
 (dZ e inj (λs=>L s++d) (λ_=>[]) (λt=>Lo t++lo) (λ_=>[]) (eI h0) j g)
theorem yR{σ' τ τ0:Type}{body:Code}{f:σ'->Option (Lp σ' τ)}{N:Nat}{s0:σ'}{k:τ->Option R}{g d lo mo}(e:Nat)(inj:τ0->τ)(y v x w:Bf)(L:σ'->List (Nat×Ly))(M:σ'->List (Nat×Ct))(Lo:τ0->List (Nat×Ly))(Mo:τ0->List (Nat×Ct))
 (p:(∀ t,Sq X (Lo t++lo) (Mo t++mo) (k (inj t)) (λr=>Q r (.exit e)))->∀ s,Sq X (L s++g) (M s++d) (f s) (λo=>body.wp X.P (iV X (λs=>L s++g) (λs=>M s++d) k Q o)))
 (j:∀ t,Sq X (Lo t++lo) (Mo t++mo) (k (inj t)) (λr=>Q r (.exit e))) (σ:List (Nat×Nat):=dI (kz (M s0++d)))
 (B:autoParam (lz l y g) nK._auto_1) (q:autoParam (lz m v d) nK._auto_1) (F:autoParam (lz l x lo) nK._auto_1) (u:autoParam (lz m w mo) nK._auto_1)
 (E:aJ ((oy σ (M s0++d)).map (·.2))=true:=by exact rfl) (hk:autoParam (ib σ X.g0) eR._auto_2) (H:autoParam (gc (M s0++d) σ) jT._auto_1) (C:autoParam (l9 σ m (M s0++d)) tZ._auto_1) (A:autoParam (oA σ l (L s0++g)) eR._auto_3):Sq X l m ((ae f N s0).bind k) (λr=>(Code.loop body).wp X.P (Q r)):=
 (dZ e inj (λs=>L s++g) (λs=>M s++d) (λt=>Lo t++lo) (λt=>Mo t++mo) (by grind[eR]) p j)
theorem nE{α σ:Type}{f:Nat->α->σ->Option (Lp σ R)}{xs:List α}{s0:σ}{k:σ->Option R}{g}
 {q id2 e p d j t2 y A C E u v w:Nat}{M N O:String}{F H f3:Array Edge}{B:Code}(K:Bf) (L:σ->List (Nat×Ly))
 (J:∀(i:Nat) x s,xs[i]?=some x->Sq X ((d,ab i)::(j,ab xs.length)::(L s++g)) [] (f i x s)
  (λo=>B.wp X.P (iV X (λs=>(d,ab i)::(j,ab xs.length)::(L s++g)) (λ_=>[]) (λt=>aS k (.out t)) Q o)))
 (I:∀ s,Sq X (L s++g) [] (k s) (λr=>Q r (.exit e)))
 (P:autoParam (lz l K g) nK._auto_1)
 (hd:(Nat.blt p X.N && Nat.blt d X.N && Nat.blt t2 X.N && !(Nat.beq p d) && !(Nat.beq p j) && !(Nat.beq d j) && !(Nat.beq t2 j) && !(Nat.beq t2 d))=true:=by exact rfl)
 (hk:∀ s,(cY p (L s++g) && cY d (L s++g) && cY t2 (L s++g) && cY j (L s++g))=true:=by intro s;exact rfl)
 (h0:autoParam (iU ((d,ab (0:Nat))::(j,ab xs.length)::(L s0++g)) l) tY._auto_1):Sq X l [] ((ao f xs 0 s0).bind (aS k)) (λr=>(Code.loop (.seq (.region q ⟨[⟨some p,.binOp .lss y (.tmp d) (.tmp j) A,u,M,F,none⟩]⟩ false)
  (.seq (.cond (.tmp p) .skip (.exit e)) (.seq B (.region id2 ⟨[⟨some t2,.binOp .add C (.tmp d) (.const (.int .i64 1)) E,v,N,H,none⟩,⟨some d,.move (.tmp t2),w,O,f3,none⟩]⟩ false))))).wp X.P (Q r)):=DY (λs=>L s++g) (λ_=>[]) (by grind[rE,eI]) J I
theorem nR{α σ':Type}{f:Nat->α->σ'->Option (Lp σ' R)}{xs:List α}{s0:σ'}{k:σ'->Option R}{g j}
 {u id2 e q d p t2 A C E F v w y:Nat}{S T U:String}{H I f3:Array Edge}{B:Code}(P O:Bf) (L:σ'->List (Nat×Ly)) (M:σ'->List (Nat×Ct))
 (K:∀(i:Nat) x s,xs[i]?=some x->Sq X ((d,ab i)::(p,ab xs.length)::(L s++g)) (M s++j) (f i x s)
  (λo=>B.wp X.P (iV X (λs=>(d,ab i)::(p,ab xs.length)::(L s++g)) (λs=>M s++j) (λt=>aS k (.out t)) Q o)))
 (J:∀ s,Sq X (L s++g) (M s++j) (k s) (λr=>Q r (.exit e))) (σ:List (Nat×Nat):=dI (kz (M s0++j)))
 (W:autoParam (lz l P g) nK._auto_1) (N:autoParam (lz m O j) nK._auto_1)
 (hd:(Nat.blt q X.N && Nat.blt d X.N && Nat.blt t2 X.N && !(Nat.beq q d) && !(Nat.beq q p) && !(Nat.beq d p) && !(Nat.beq t2 p) && !(Nat.beq t2 d))=true:=by exact rfl)
 (hy:∀ s,(cY q (L s++g) && cY d (L s++g) && cY t2 (L s++g) && cY p (L s++g))=true:=by intro s;exact rfl)
 (Z:aJ ((oy σ (M s0++j)).map (·.2))=true:=by exact rfl) (hk:autoParam (ib σ X.g0) eR._auto_2) (hs:autoParam (gc (M s0++j) σ) jT._auto_1) (Y:autoParam (l9 σ m (M s0++j)) tZ._auto_1) (V:autoParam (oA σ l ((d,ab (0:Nat))::(p,ab xs.length)::(L s0++g))) eR._auto_3):Sq X l m ((ao f xs 0 s0).bind (aS k)) (λr=>(Code.loop (.seq (.region u ⟨[⟨some q,.binOp .lss A (.tmp d) (.tmp p) C,v,S,H,none⟩]⟩ false)
  (.seq (.cond (.tmp q) .skip (.exit e)) (.seq B (.region id2 ⟨[⟨some t2,.binOp .add E (.tmp d) (.const (.int .i64 1)) F,w,T,I,none⟩,⟨some d,.move (.tmp t2),y,U,f3,none⟩]⟩ false))))).wp X.P (Q r)):=
 DY (λs=>L s++g) (λs=>M s++j) (by grind[rE,eR]) K J
end
end Go.Proofs.YthdbapalogijdaaGreatDoor
