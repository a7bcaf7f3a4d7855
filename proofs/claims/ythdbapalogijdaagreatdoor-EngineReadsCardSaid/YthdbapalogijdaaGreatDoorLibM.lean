import Derived.Lib.AtoiAll
import Derived.Lib.IndexAny
import Derived.Lib.Join
import Derived.Lib.Bytealg
import Derived.Test.YthdbapalogijdaaGreatDoorSB
namespace Go.Proofs.YthdbapalogijdaaGreatDoor
open Go Go.RowKit
def ES(x0 x1:List UInt8):Option (List UInt8):=match x1 with | [c]=>if c.toNat<128 then some (x0.dropWhile (· == c)) else none | _=>none
def uJ(x0:Int):Option (List UInt8):=some (Lib.itoa x0)
def yY(x0:List UInt8):Option (Int×Bool):=if x0.length<=281474976710656 then match Lib.atoiAll x0 with | .ok v=>some (v,false) | .range=>some (Lib.atoiSat x0,true) | _=>some (0,true) else none
def bw(c:Nat)(b:UInt8):Bool:=decide (b.toNat≠c)
def cJ(c:Nat)(s:List UInt8):List UInt8×List UInt8×Bool:=(s.takeWhile (bw c),(s.dropWhile (bw c)).drop 1,s.any λb=>!bw c b)
def Yv(x0 x1:List UInt8):Option (List UInt8×List UInt8×Bool):=match x1 with | [c]=>if x0.length<4294967281 then some (cJ c.toNat x0) else none | _=>none
def aF(c:Nat):List UInt8->List (List UInt8)
 | []=>[[]]
 | x::s=>if bw c x then (match aF c s with
   | []=>[[x]]
   | w::r=>(x::w)::r) else []::aF c s
def uK(x0 x1:List UInt8):Option (List (List UInt8)):=match x1 with | [c]=>if x0.length<4294967281 then some (aF c.toNat x0) else none | _=>none
def PY(l:List UInt8):Bool:=l.all λb=>decide (b.toNat<128)
def uL(x0 x1:List UInt8):Option Int:=if x0.length<4294967281/\x1.length=2/\PY x1=true then some (Lib.indexAny x0 x1) else none
def uM(x0 x1:List UInt8):Option Bool:=match x1 with | [c]=>some (decide (0<=Lib.indexByte x0 c)) | _=>none
def Iz9(x0:List (List UInt8))(x1:List UInt8):Option (List UInt8):=if x0.length<=140737488355328/\(Lib.join x0 x1).length<=140737488355328 then some (Lib.join x0 x1) else none
end Go.Proofs.YthdbapalogijdaaGreatDoor
