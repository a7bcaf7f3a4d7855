import Derived.Test.YtcdeknlejjjmlaaGreatDoorSB
import Derived.Lib.ItoaNum
import Derived.Lib.AtoiAll
import Derived.Lib.IndexAny
import Derived.Lib.Join
import Derived.Lib.Bytealg
namespace Go.Proofs.YtcdeknlejjjmlaaGreatDoor
open Go Go.RowKit
/-! ### The library's functions, as our models have them -/
/-- strings.TrimLeft at one ASCII byte. -/
def m_strings_TrimLeft (x0 x1 : List UInt8) : Option (List UInt8) :=
  match x1 with
  | [c] => if c.toNat < 128 then some (x0.dropWhile (· == c)) else none
  | _ => none
/-- strconv.Itoa. -/
def m_strconv_Itoa (x0 : Int) : Option (List UInt8) := some (Lib.itoa x0)
/-- strconv.Atoi: the number, and whether there is an error. -/
def m_strconv_Atoi (x0 : List UInt8) : Option (Int × Bool) :=
  if x0.length ≤ 281474976710656 then
    match Lib.atoiAll x0 with
    | .ok v => some (v, false)
    | .range => some (Lib.atoiSat x0, true)
    | _ => some (0, true)
  else none
/-- Not this byte. -/
def ntc (c : Nat) (b : UInt8) : Bool := decide (b.toNat ≠ c)
def cutC (c : Nat) (s : List UInt8) : List UInt8 × List UInt8 × Bool := (s.takeWhile (ntc c), (s.dropWhile (ntc c)).drop 1, s.any fun b => !ntc c b)
/-- strings.Cut at one byte. -/
def m_strings_Cut (x0 x1 : List UInt8) : Option (List UInt8 × List UInt8 × Bool) :=
  match x1 with
  | [c] => if x0.length < 4294967281 then some (cutC c.toNat x0) else none
  | _ => none
/-- The pieces between the bytes c. -/
def splitC (c : Nat) : List UInt8 → List (List UInt8)
  | [] => [[]]
  | x :: s => if ntc c x then (match splitC c s with
    | [] => [[x]]
    | w :: r => (x :: w) :: r) else [] :: splitC c s
/-- strings.Split at one byte. -/
def m_strings_Split (x0 x1 : List UInt8) : Option (List (List UInt8)) :=
  match x1 with
  | [c] => if x0.length < 4294967281 then some (splitC c.toNat x0) else none
  | _ => none
/-- ASCII bytes. -/
def asc (l : List UInt8) : Bool := l.all fun b => decide (b.toNat < 128)
/-- strings.IndexAny at ASCII bytes. -/
def m_strings_IndexAny (x0 x1 : List UInt8) : Option Int :=
  if x0.length < 4294967281 ∧ x1.length < 4294967281 ∧ asc x0 = true ∧ asc x1 = true then some (Lib.indexAny x0 x1) else none
/-- strings.Contains at one byte. -/
def m_strings_Contains (x0 x1 : List UInt8) : Option Bool :=
  match x1 with
  | [c] => some (decide (0 ≤ Lib.indexByte x0 c))
  | _ => none
/-- strings.Join. -/
def m_strings_Join (x0 : List (List UInt8)) (x1 : List UInt8) : Option (List UInt8) :=
  if x0.length ≤ 140737488355328 ∧ (Lib.join x0 x1).length ≤ 140737488355328 then some (Lib.join x0 x1) else none
end Go.Proofs.YtcdeknlejjjmlaaGreatDoor
