import Derived.Test.YtiobbiamnjapgaaGreatDoorLibM
set_option maxRecDepth 100000
set_option maxHeartbeats 4000000
namespace Go.Proofs.YtiobbiamnjapgaaGreatDoor
open Go Go.RowKit
structure M_wire_reader where
  s : (List UInt8)
  at_ : Int
structure M_wire_Piece where
  Name : (List UInt8)
  Text : (List UInt8)
structure M_api_Fault where
  Kind : Int
  Step : Int
  Stage : Int
  At : Int
structure M_lex_Word where
  Kind : Int
  Text : (List UInt8)
  At : Int
def eqb_api_Fault (x y : M_api_Fault) : Bool := ((x.Kind == y.Kind) && ((x.Step == y.Step) && ((x.Stage == y.Stage) && ((x.At == y.At) && true))))
structure M_A9_u8 where
  a0 : Nat
  a1 : Nat
  a2 : Nat
  a3 : Nat
  a4 : Nat
  a5 : Nat
  a6 : Nat
  a7 : Nat
  a8 : Nat
def ofl_A9_u8 : List Nat → M_A9_u8
  | [a0, a1, a2, a3, a4, a5, a6, a7, a8] => ⟨a0, a1, a2, a3, a4, a5, a6, a7, a8⟩
  | _ => (⟨0, 0, 0, 0, 0, 0, 0, 0, 0⟩ : M_A9_u8)
structure M_retrospectref17_Node where
  Op : Int
  I : Int
  N : (List Nat)
structure M_tree_Node where
  Op : Int
  I : Int
  N : (List Nat)
structure M_retrospectref17_Let where
  Name : (List UInt8)
  Code : (List M_retrospectref17_Node)
structure M_retrospectref17_Field where
  Lets : (List M_retrospectref17_Let)
  Outs : (List (List M_retrospectref17_Node))
structure M_tree_Let where
  Name : (List UInt8)
  Code : (List M_tree_Node)
structure M_tree_Field where
  Lets : (List M_tree_Let)
  Outs : (List (List M_tree_Node))
structure M_retrospectref48_Piece where
  Name : (List UInt8)
  Text : (List UInt8)
def eqb_retrospectref48_Piece (x y : M_retrospectref48_Piece) : Bool := ((x.Name == y.Name) && ((x.Text == y.Text) && true))
structure M_A4_i64 where
  a0 : Int
  a1 : Int
  a2 : Int
  a3 : Int
structure M_A3_i64 where
  a0 : Int
  a1 : Int
  a2 : Int
def ofl_A3_i64 : List Int → M_A3_i64
  | [a0, a1, a2] => ⟨a0, a1, a2⟩
  | _ => (⟨0, 0, 0⟩ : M_A3_i64)
structure M_retrospectref08_Whole where
  Neg : Bool
  Abs : (List Nat)
def ofl_A4_i64 : List Int → M_A4_i64
  | [a0, a1, a2, a3] => ⟨a0, a1, a2, a3⟩
  | _ => (⟨0, 0, 0, 0⟩ : M_A4_i64)
structure M_retrospectref09_Frac where
  Neg : Bool
  N : (List Nat)
  D : (List Nat)
structure M_retrospectref16_Word where
  Kind : Int
  Text : (List UInt8)
  At : Int
structure M_A2_i64 where
  a0 : Int
  a1 : Int
def B_S_u32 (xs : List Nat) : Prop := xs.length ≤ maxLen ∧ ∀ x ∈ xs, (x < 4294967296)
def B_retrospectref17_Node (x : M_retrospectref17_Node) : Prop := (-9223372036854775808 ≤ x.Op ∧ x.Op ≤ 9223372036854775807) ∧ (-9223372036854775808 ≤ x.I ∧ x.I ≤ 9223372036854775807) ∧ B_S_u32 x.N ∧ True
def B_S_retrospectref17_Node (xs : List M_retrospectref17_Node) : Prop := xs.length ≤ maxLen ∧ ∀ x ∈ xs, B_retrospectref17_Node x
def B_retrospectref17_Let (x : M_retrospectref17_Let) : Prop := (x.Name.length ≤ maxLen) ∧ B_S_retrospectref17_Node x.Code ∧ True
def B_S_retrospectref17_Let (xs : List M_retrospectref17_Let) : Prop := xs.length ≤ maxLen ∧ ∀ x ∈ xs, B_retrospectref17_Let x
def B_S_S_retrospectref17_Node (xs : List (List M_retrospectref17_Node)) : Prop := xs.length ≤ maxLen ∧ ∀ x ∈ xs, B_S_retrospectref17_Node x
def B_retrospectref17_Field (x : M_retrospectref17_Field) : Prop := B_S_retrospectref17_Let x.Lets ∧ B_S_S_retrospectref17_Node x.Outs ∧ True
def B_A4_i64 (x : M_A4_i64) : Prop := (-9223372036854775808 ≤ x.a0 ∧ x.a0 ≤ 9223372036854775807) ∧ (-9223372036854775808 ≤ x.a1 ∧ x.a1 ≤ 9223372036854775807) ∧ (-9223372036854775808 ≤ x.a2 ∧ x.a2 ≤ 9223372036854775807) ∧ (-9223372036854775808 ≤ x.a3 ∧ x.a3 ≤ 9223372036854775807) ∧ True
def m_lex_digit (x0 : Nat) : Option (Bool) :=
  jn (fun (j1 : (Bool) → Option _) =>
    bif decide (48 ≤ x0) then (
      j1 (decide (x0 ≤ 57)))
    else (
      j1 false)) (fun (s3 : Bool) =>
    some s3)
def m_lex_letter (x0 : Nat) : Option (Bool) :=
  jn (fun (j1 : (Bool) → Option _) =>
    bif decide (97 ≤ x0) then (
      bif decide (x0 ≤ 122) then (
        j1 true)
      else (
        bif decide (65 ≤ x0) then (
          bif decide (x0 ≤ 90) then (
            j1 true)
          else (
            j1 (decide (x0 = 95))))
        else (
          j1 (decide (x0 = 95)))))
    else (
      bif decide (65 ≤ x0) then (
        bif decide (x0 ≤ 90) then (
          j1 true)
        else (
          j1 (decide (x0 = 95))))
      else (
        j1 (decide (x0 = 95))))) (fun (s3 : Bool) =>
    some s3)
def m_lex_sign (n : Nat) (x0 : Nat) : Option (Bool) :=
  (loopM (fun (s9 : Nat) =>
    bif decide (s9 < ([43, 45, 42, 47, 94, 40, 41, 91, 93, 44, 59, 61] : List UInt8).length) then (
      (some (((decR ([43, 45, 42, 47, 94, 40, 41, 91, 93, 44, 59, 61] : List UInt8) s9 : Nat) : Int))).bind fun z11 =>
      bif decide ((Int.toNat (z11 % 256)) = x0) then (
        some (Lp.out (Lp.out (true))))
      else (
        some (Lp.go (s9 + decW ([43, 45, 42, 47, 94, 40, 41, 91, 93, 44, 59, 61] : List UInt8) s9))))
    else (
      some (Lp.out (Lp.go ())))) n 0).bind (lpK fun (_ : Unit) =>
  some false)
def m_lex_kind (n : Nat) (x0 : Nat) : Option (Int) :=
  (m_lex_digit x0).bind fun r1 =>
  bif r1 then (
    some (1 : Int))
  else (
    (m_lex_letter x0).bind fun r3 =>
    bif r3 then (
      some (2 : Int))
    else (
      (m_lex_sign n x0).bind fun r5 =>
      bif r5 then (
        some (3 : Int))
      else (
        some (0 : Int))))
def m_lex_goes (x0 : Int) (x1 : Nat) : Option (Bool) :=
  jn (fun (j11 : (Bool) → Option _) =>
    bif decide (x0 = (1 : Int)) then (
      (m_lex_digit x1).bind fun r14 =>
      bif r14 then (
        j11 true)
      else (
        bif decide (x0 = (2 : Int)) then (
          (m_lex_letter x1).bind fun r16 =>
          bif r16 then (
            j11 true)
          else (
            (m_lex_digit x1).bind fun r18 =>
            j11 r18))
        else (
          j11 false)))
    else (
      bif decide (x0 = (2 : Int)) then (
        (m_lex_letter x1).bind fun r20 =>
        bif r20 then (
          j11 true)
        else (
          (m_lex_digit x1).bind fun r22 =>
          j11 r22))
      else (
        j11 false))) (fun (s13 : Bool) =>
    some s13)
def m_lex_first (n : Nat) (x0 : (List UInt8)) (x1 : Int) : Option (Int) :=
  (loopM (fun (s27 : Int) =>
    jn (fun (j32 : (Bool) → Option _) =>
      bif decide (s27 < (x0.length : Int)) then (
        (getS x0 s27).bind fun y35 =>
        (m_lex_goes x1 y35).bind fun r37 =>
        j32 r37)
      else (
        j32 false)) (fun (s34 : Bool) =>
      bif s34 then (
        some (Lp.go (wrap64 (s27 + (1 : Int)))))
      else (
        some (Lp.out s27)))) n (1 : Int)).bind fun (t25 : Int) =>
  some t25
def m_lex_most (x0 : Int) : Option (Int) :=
  bif decide (x0 = (1 : Int)) then (
    some (60 : Int))
  else (
    bif decide (x0 = (2 : Int)) then (
      some (12 : Int))
    else (
      some (1 : Int)))
def m_lex_Right (n : Nat) (x0 : M_lex_Word) : Option (Bool) :=
  jn (fun (j7 : (Bool) → Option _) =>
    bif decide (x0.Text = ([] : List UInt8)) then (
      j7 true)
    else (
      bif decide (x0.Kind = (0 : Int)) then (
        j7 true)
      else (
        (getS x0.Text (0 : Int)).bind fun y12 =>
        (m_lex_kind n y12).bind fun r14 =>
        j7 (!decide (r14 = x0.Kind))))) (fun (s9 : Bool) =>
    bif s9 then (
      some false)
    else (
      jn (fun (j21 : (Bool) → Option _) =>
        (m_lex_first n x0.Text x0.Kind).bind fun r24 =>
        bif decide (r24 = (x0.Text.length : Int)) then (
          (m_lex_most x0.Kind).bind fun r27 =>
          j21 (decide ((x0.Text.length : Int) ≤ r27)))
        else (
          j21 false)) (fun (s23 : Bool) =>
        some s23)))
def m_wire_named (n : Nat) (x0 : (List UInt8)) : Option (Bool) :=
  (m_lex_Right n (⟨(2 : Int), x0, 0⟩ : M_lex_Word)).bind fun r1 =>
  some r1
def m_wire_parse (x0 : Int) : Option (M_api_Fault) :=
  some (⟨(1 : Int), 0, 0, x0⟩ : M_api_Fault)
def m_digits_wrong (n : Nat) (x0 : (List UInt8)) : Option (Int) :=
  (loopM (fun (s27 : Int) =>
    bif decide (s27 < (x0.length : Int)) then (
      jn (fun (j32 : (Bool) → Option _) =>
        (getS x0 s27).bind fun y35 =>
        bif decide (y35 < 48) then (
          j32 true)
        else (
          (getS x0 s27).bind fun y37 =>
          bif decide (57 < y37) then (
            j32 true)
          else (
            j32 (decide (s27 = (60 : Int)))))) (fun (s34 : Bool) =>
        bif s34 then (
          some (Lp.out (Lp.out (s27))))
        else (
          some (Lp.go (wrap64 (s27 + (1 : Int)))))))
    else (
      some (Lp.out (Lp.go ())))) n (0 : Int)).bind (lpK fun (_ : Unit) =>
  bif decide (x0 = ([] : List UInt8)) then (
    some (0 : Int))
  else (
    some (-1 : Int)))
def m_limb_Mul (x0 : Nat) (x1 : Nat) (x2 : Nat) (x3 : Nat) : Option (Nat × Nat) :=
  (some (((((((x0 * x1) % 18446744073709551616) + x2) % 18446744073709551616) + x3) % 18446744073709551616))).bind fun z1 =>
  some (((z1 / 2 ^ 32) % 4294967296), (z1 % 4294967296))
def m_prod_row (x0 : (List Nat)) (x1 : Int) (x2 : (List Nat)) (x3 : Nat) (x4 : Nat) : Option ((List Nat)) :=
  (rangeL (fun (i23 : Nat) (x24 : Nat) (s22 : (List Nat) × Nat) =>
    (getI s22.1 (wrap64 (x1 + (i23 : Int)))).bind fun y26 =>
    (m_limb_Mul x3 x24 y26 s22.2).bind fun r28 =>
    (getI s22.1 (wrap64 (x1 + (i23 : Int)))).bind fun _ =>
    some (Lp.go ((List.set s22.1 (Int.toNat (wrap64 (x1 + (i23 : Int)))) r28.2), r28.1))) x2 0 (x0, x4)).bind (lpK fun (s32 : (List Nat) × Nat) =>
  (getI s32.1 (wrap64 (x1 + (x2.length : Int)))).bind fun _ =>
  some (List.set s32.1 (Int.toNat (wrap64 (x1 + (x2.length : Int)))) s32.2))
def m_nat_trim (n : Nat) (x0 : (List Nat)) : Option ((List Nat)) :=
  (loopM (fun (s19 : Int) =>
    jn (fun (j22 : (Bool) → Option _) =>
      bif decide ((0 : Int) < s19) then (
        (getI x0 (wrap64 (s19 - (1 : Int)))).bind fun y25 =>
        j22 (decide (y25 = 0)))
      else (
        j22 false)) (fun (s24 : Bool) =>
      bif s24 then (
        some (Lp.go (wrap64 (s19 - (1 : Int)))))
      else (
        some (Lp.out s19)))) n (x0.length : Int)).bind fun (t17 : Int) =>
  (sub x0 (0 : Int) t17).bind fun y27 =>
  some y27
def m_nat_fresh (x0 : (List Nat)) (x1 : Int) : Option ((List Nat)) :=
  (mkM 4 (0 : Nat) (wrap64 ((x0.length : Int) + x1))).bind fun y1 =>
  some (cpyL y1 x0)
def m_nat_Norm (n : Nat) (x0 : (List Nat)) : Option ((List Nat)) :=
  (m_nat_trim n x0).bind fun r1 =>
  (m_nat_fresh r1 (0 : Int)).bind fun r3 =>
  some r3
def m_prod_Word (n : Nat) (x0 : (List Nat)) (x1 : Nat) (x2 : Nat) : Option ((List Nat)) :=
  (mkM 4 (0 : Nat) (wrap64 ((x0.length : Int) + (1 : Int)))).bind fun y1 =>
  (m_prod_row y1 (0 : Int) x0 x1 x2).bind fun r3 =>
  (m_nat_Norm n r3).bind fun r5 =>
  some r5
def m_digits_Read (n : Nat) (x0 : (List UInt8)) : Option ((List Nat) × M_api_Fault) :=
  (m_digits_wrong n x0).bind fun r1 =>
  bif decide ((0 : Int) ≤ r1) then (
    some (([] : List Nat), (⟨(1 : Int), 0, 0, r1⟩ : M_api_Fault)))
  else (
    (loopM (fun (s49 : (List Nat) × Int) =>
      bif decide (s49.2 < (x0.length : Int)) then (
        (loopM (fun (s59 : Int × Nat × Nat × Int) =>
          jn (fun (j60 : (Bool) → Option _) =>
            bif decide (s59.2.2.2 < (9 : Int)) then (
              j60 (decide (s59.1 < (x0.length : Int))))
            else (
              j60 false)) (fun (s62 : Bool) =>
            bif s62 then (
              (getS x0 s59.1).bind fun y63 =>
              (some (((((s59.2.1 * 10) % 4294967296) + ((y63 + 256 - 48) % 256)) % 4294967296))).bind fun z65 =>
              some (Lp.go (wrap64 (s59.1 + (1 : Int)), z65, ((s59.2.2.1 * 10) % 4294967296), wrap64 (s59.2.2.2 + (1 : Int)))))
            else (
              some (Lp.out (s59.1, s59.2.1, s59.2.2.1))))) n (s49.2, 0, 1, (0 : Int))).bind fun (t57 : Int × Nat × Nat) =>
        (m_prod_Word n s49.1 t57.2.2 t57.2.1).bind fun r66 =>
        some (Lp.go (r66, t57.1)))
      else (
        some (Lp.out s49.1))) n (([] : List Nat), (0 : Int))).bind fun (t47 : (List Nat)) =>
    some (t47, (⟨0, 0, 0, 0⟩ : M_api_Fault)))
def m_nat_Zero (n : Nat) (x0 : (List Nat)) : Option (Bool) :=
  (m_nat_trim n x0).bind fun r1 =>
  some (decide ((r1.length : Int) = (0 : Int)))
def m_limb_Div (x0 : Nat) (x1 : Nat) (x2 : Nat) : Option (Nat × Nat × Bool) :=
  bif decide (x2 ≤ x0) then (
    some (0, 0, false))
  else (
    (grd (x2 != 0)).bind fun _ =>
    (grd (x2 != 0)).bind fun _ =>
    some ((((((x0 * 2 ^ 32) % 18446744073709551616) ||| x1) / x2) % 4294967296), (((((x0 * 2 ^ 32) % 18446744073709551616) ||| x1) % x2) % 4294967296), true))
def m_quot_Word (n : Nat) (x0 : (List Nat)) (x1 : Nat) : Option ((List Nat) × Nat × Bool) :=
  bif decide (x1 = 0) then (
    some (([] : List Nat), 0, false))
  else (
    (mkM 4 (0 : Nat) (x0.length : Int)).bind fun y1 =>
    (loopM (fun (s20 : (List Nat) × Nat × Int) =>
      bif decide ((0 : Int) ≤ s20.2.2) then (
        (getI x0 s20.2.2).bind fun y21 =>
        (m_limb_Div s20.2.1 y21 x1).bind fun r23 =>
        (getI s20.1 s20.2.2).bind fun _ =>
        some (Lp.go ((List.set s20.1 (Int.toNat s20.2.2) r23.1), r23.2.1, wrap64 (s20.2.2 - (1 : Int)))))
      else (
        some (Lp.out (s20.1, s20.2.1)))) n (y1, 0, wrap64 ((x0.length : Int) - (1 : Int)))).bind fun (t18 : (List Nat) × Nat) =>
    (m_nat_Norm n t18.1).bind fun r27 =>
    some (r27, t18.2, true))
def m_digits_nine (n : Nat) (x0 : Nat) : Option ((List UInt8)) :=
  (loopM (fun (s7 : Nat × M_A9_u8 × Int) =>
    bif decide ((0 : Int) ≤ s7.2.2) then (
      (getI ([s7.2.1.a0, s7.2.1.a1, s7.2.1.a2, s7.2.1.a3, s7.2.1.a4, s7.2.1.a5, s7.2.1.a6, s7.2.1.a7, s7.2.1.a8] : List Nat) s7.2.2).bind fun _ =>
      some (Lp.go ((s7.1 / 10), (ofl_A9_u8 (List.set ([s7.2.1.a0, s7.2.1.a1, s7.2.1.a2, s7.2.1.a3, s7.2.1.a4, s7.2.1.a5, s7.2.1.a6, s7.2.1.a7, s7.2.1.a8] : List Nat) (Int.toNat s7.2.2) (((48 + (s7.1 % 10)) % 4294967296) % 256))), wrap64 (s7.2.2 - (1 : Int)))))
    else (
      some (Lp.out s7.2.1))) n (x0, (⟨0, 0, 0, 0, 0, 0, 0, 0, 0⟩ : M_A9_u8), (8 : Int))).bind fun (t5 : M_A9_u8) =>
  (some (([t5.a0, t5.a1, t5.a2, t5.a3, t5.a4, t5.a5, t5.a6, t5.a7, t5.a8] : List Nat))).bind fun z10 =>
  some (bS z10)
def m_digits_Text (n : Nat) (x0 : (List Nat)) : Option ((List UInt8)) :=
  (m_nat_Zero n x0).bind fun r1 =>
  bif r1 then (
    some ([48] : List UInt8))
  else (
    (loopM (fun (s23 : (List Nat) × (List (List UInt8))) =>
      (m_nat_Zero n s23.1).bind fun r24 =>
      bif !r24 then (
        (m_quot_Word n s23.1 1000000000).bind fun r26 =>
        (m_digits_nine n r26.2.1).bind fun r28 =>
        (appM 16 s23.2 ([r28] : List (List UInt8))).bind fun y30 =>
        some (Lp.go (r26.1, y30)))
      else (
        some (Lp.out s23.2))) n (x0, ([] : List (List UInt8)))).bind fun (t21 : (List (List UInt8))) =>
    (loopM (fun (s44 : (List UInt8) × Int) =>
      bif decide ((0 : Int) ≤ s44.2) then (
        (getI t21 s44.2).bind fun y45 =>
        (appM 1 s44.1 y45).bind fun y47 =>
        some (Lp.go (y47, wrap64 (s44.2 - (1 : Int)))))
      else (
        some (Lp.out s44.1))) n (([] : List UInt8), wrap64 ((t21.length : Int) - (1 : Int)))).bind fun (t42 : (List UInt8)) =>
    (m_strings_TrimLeft t42 ([48] : List UInt8)).bind fun r49 =>
    some r49)
def m_nat_Small (n : Nat) (x0 : (List Nat)) : Option (Nat × Bool) :=
  (m_nat_trim n x0).bind fun r1 =>
  bif decide ((2 : Int) < (r1.length : Int)) then (
    some (0, false))
  else (
    (rangeL (fun (i17 : Nat) (x18 : Nat) (s16 : Nat) =>
      (grd (decide (0 ≤ wrap64 ((32 : Int) * (i17 : Int))))).bind fun _ =>
      (some (((x18 * 2 ^ (min (Int.toNat (wrap64 ((32 : Int) * (i17 : Int)))) 64)) % 18446744073709551616))).bind fun z21 =>
      some (Lp.go (s16 ||| z21))) r1 0 0).bind (lpK fun (s22 : Nat) =>
    some (s22, true)))
def m_wire_length (n : Nat) (x0 : (List UInt8)) : Option (Int) :=
  (m_digits_Read n x0).bind fun r1 =>
  jn (fun (j5 : (Bool) → Option _) =>
    bif !(eqb_api_Fault r1.2 (⟨0, 0, 0, 0⟩ : M_api_Fault)) then (
      j5 true)
    else (
      bif decide ((5 : Int) < (x0.length : Int)) then (
        j5 true)
      else (
        (m_digits_Text n r1.1).bind fun r8 =>
        j5 (!decide (r8 = x0))))) (fun (s7 : Bool) =>
    bif s7 then (
      some (-1 : Int))
    else (
      (m_nat_Small n r1.1).bind fun r10 =>
      some (wrap64 (r10.1 : Int))))
def m___wire_reader__piece (n : Nat) (x0 : M_wire_reader) : Option (M_wire_Piece × M_api_Fault × M_wire_reader) :=
  (sub x0.s x0.at_ (x0.s.length : Int)).bind fun y1 =>
  (m_strings_Cut y1 ([61] : List UInt8)).bind fun r3 =>
  (m_wire_named n r3.1).bind fun r5 =>
  bif !r5 then (
    (m_wire_parse x0.at_).bind fun r7 =>
    some ((⟨[], []⟩ : M_wire_Piece), r7, x0))
  else (
    bif !r3.2.2 then (
      (m_wire_parse (x0.s.length : Int)).bind fun r9 =>
      some ((⟨[], []⟩ : M_wire_Piece), r9, x0))
    else (
      (m_strings_Cut r3.2.1 ([58] : List UInt8)).bind fun r11 =>
      (m_wire_length n r11.1).bind fun r13 =>
      jn (fun (j15 : (Bool) → Option _) =>
        bif decide (r13 < (0 : Int)) then (
          j15 true)
        else (
          j15 (!r11.2.2))) (fun (s17 : Bool) =>
        bif s17 then (
          (some ((⟨x0.s, wrap64 (x0.at_ + (wrap64 ((r3.1.length : Int) + (1 : Int))))⟩ : M_wire_reader).at_)).bind fun z18 =>
          (m_wire_parse z18).bind fun r19 =>
          some ((⟨[], []⟩ : M_wire_Piece), r19, (⟨x0.s, wrap64 (x0.at_ + (wrap64 ((r3.1.length : Int) + (1 : Int))))⟩ : M_wire_reader)))
        else (
          (some ((⟨x0.s, wrap64 (x0.at_ + (wrap64 ((r3.1.length : Int) + (1 : Int))))⟩ : M_wire_reader).at_)).bind fun z21 =>
          bif decide ((r11.2.1.length : Int) < (wrap64 (r13 + (1 : Int)))) then (
            (some ((⟨x0.s, wrap64 (x0.at_ + (wrap64 ((r3.1.length : Int) + (1 : Int))))⟩ : M_wire_reader).s)).bind fun z22 =>
            (m_wire_parse (z22.length : Int)).bind fun r23 =>
            some ((⟨[], []⟩ : M_wire_Piece), r23, (⟨(⟨x0.s, wrap64 (x0.at_ + (wrap64 ((r3.1.length : Int) + (1 : Int))))⟩ : M_wire_reader).s, wrap64 (z21 + (wrap64 ((r11.1.length : Int) + (1 : Int))))⟩ : M_wire_reader)))
          else (
            (some (wrap64 ((wrap64 (z21 + (wrap64 ((r11.1.length : Int) + (1 : Int))))) + r13))).bind fun z25 =>
            (getS r11.2.1 r13).bind fun y26 =>
            bif !decide (y26 = 59) then (
              (m_wire_parse z25).bind fun r28 =>
              some ((⟨[], []⟩ : M_wire_Piece), r28, (⟨(⟨x0.s, wrap64 (x0.at_ + (wrap64 ((r3.1.length : Int) + (1 : Int))))⟩ : M_wire_reader).s, z25⟩ : M_wire_reader)))
            else (
              (sub r11.2.1 (0 : Int) r13).bind fun y30 =>
              some ((⟨r3.1, y30⟩ : M_wire_Piece), (⟨0, 0, 0, 0⟩ : M_api_Fault), (⟨(⟨x0.s, wrap64 (x0.at_ + (wrap64 ((r3.1.length : Int) + (1 : Int))))⟩ : M_wire_reader).s, wrap64 (z25 + (1 : Int))⟩ : M_wire_reader))))))))
def m_nat_Cmp (n : Nat) (x0 : (List Nat)) (x1 : (List Nat)) : Option (Int) :=
  (m_nat_trim n x0).bind fun r1 =>
  (m_nat_trim n x1).bind fun r3 =>
  bif decide ((r1.length : Int) < (r3.length : Int)) then (
    some (-1 : Int))
  else (
    bif decide ((r3.length : Int) < (r1.length : Int)) then (
      some (1 : Int))
    else (
      (loopM (fun (s25 : Int) =>
        bif decide ((0 : Int) ≤ s25) then (
          (getI r1 s25).bind fun y26 =>
          (getI r3 s25).bind fun y28 =>
          bif decide (y26 < y28) then (
            some (Lp.out (Lp.out ((-1 : Int)))))
          else (
            (getI r1 s25).bind fun y30 =>
            (getI r3 s25).bind fun y32 =>
            bif decide (y32 < y30) then (
              some (Lp.out (Lp.out ((1 : Int)))))
            else (
              some (Lp.go (wrap64 (s25 - (1 : Int)))))))
        else (
          some (Lp.out (Lp.go ())))) n (wrap64 ((r1.length : Int) - (1 : Int)))).bind (lpK fun (_ : Unit) =>
      some (0 : Int))))
def m_nat_Of (n : Nat) (x0 : Nat) : Option ((List Nat)) :=
  (m_nat_trim n ([(x0 % 4294967296), ((x0 / 2 ^ 32) % 4294967296)] : List Nat)).bind fun r1 =>
  some r1
def m_retrospectlaw17_To (n : Nat) (x0 : (List M_retrospectref17_Node)) : Option ((List M_tree_Node)) :=
  (loopM (fun (s21 : (List M_tree_Node) × Int) =>
    bif decide (s21.2 < (x0.length : Int)) then (
      (getI x0 s21.2).bind fun y22 =>
      (getI x0 s21.2).bind fun y24 =>
      (getI x0 s21.2).bind fun y26 =>
      (appM 40 s21.1 ([(⟨y22.Op, y24.I, y26.N⟩ : M_tree_Node)] : List M_tree_Node)).bind fun y28 =>
      some (Lp.go (y28, wrap64 (s21.2 + (1 : Int)))))
    else (
      some (Lp.out s21.1))) n (([] : List M_tree_Node), (0 : Int))).bind fun (t19 : (List M_tree_Node)) =>
  some t19
def m_retrospectlaw17_ToField (n : Nat) (x0 : M_retrospectref17_Field) : Option (M_tree_Field) :=
  (loopM (fun (s12 : (List M_tree_Let) × Int) =>
    bif decide (s12.2 < (x0.Lets.length : Int)) then (
      (getI x0.Lets s12.2).bind fun y13 =>
      (getI x0.Lets s12.2).bind fun y15 =>
      (m_retrospectlaw17_To n y15.Code).bind fun r17 =>
      (appM 40 s12.1 ([(⟨y13.Name, r17⟩ : M_tree_Let)] : List M_tree_Let)).bind fun y19 =>
      some (Lp.go (y19, wrap64 (s12.2 + (1 : Int)))))
    else (
      some (Lp.out s12.1))) n (([] : List M_tree_Let), (0 : Int))).bind fun (t10 : (List M_tree_Let)) =>
  (loopM (fun (s37 : (List (List M_tree_Node)) × Int) =>
    bif decide (s37.2 < (x0.Outs.length : Int)) then (
      (getI x0.Outs s37.2).bind fun y38 =>
      (m_retrospectlaw17_To n y38).bind fun r40 =>
      (appM 24 s37.1 ([r40] : List (List M_tree_Node))).bind fun y42 =>
      some (Lp.go (y42, wrap64 (s37.2 + (1 : Int)))))
    else (
      some (Lp.out s37.1))) n (([] : List (List M_tree_Node)), (0 : Int))).bind fun (t35 : (List (List M_tree_Node))) =>
  some (⟨t10, t35⟩ : M_tree_Field)
def m_retrospectlaw48_Of (n : Nat) (x0 : (List M_wire_Piece)) : Option ((List M_retrospectref48_Piece)) :=
  (loopM (fun (s17 : (List M_retrospectref48_Piece) × Int) =>
    bif decide (s17.2 < (x0.length : Int)) then (
      (getI x0 s17.2).bind fun y18 =>
      (getI x0 s17.2).bind fun y20 =>
      (appM 32 s17.1 ([(⟨y18.Name, y20.Text⟩ : M_retrospectref48_Piece)] : List M_retrospectref48_Piece)).bind fun y22 =>
      some (Lp.go (y22, wrap64 (s17.2 + (1 : Int)))))
    else (
      some (Lp.out s17.1))) n (([] : List M_retrospectref48_Piece), (0 : Int))).bind fun (t15 : (List M_retrospectref48_Piece)) =>
  some t15
def m_retrospectlaw48_Same (n : Nat) (x0 : (List M_retrospectref48_Piece)) (x1 : (List M_retrospectref48_Piece)) : Option (Bool) :=
  bif !decide ((x0.length : Int) = (x1.length : Int)) then (
    some false)
  else (
    (loopM (fun (s13 : Int) =>
      bif decide (s13 < (x0.length : Int)) then (
        (getI x0 s13).bind fun y14 =>
        (getI x1 s13).bind fun y16 =>
        bif !(eqb_retrospectref48_Piece y14 y16) then (
          some (Lp.out (Lp.out (false))))
        else (
          some (Lp.go (wrap64 (s13 + (1 : Int))))))
      else (
        some (Lp.out (Lp.go ())))) n (0 : Int)).bind (lpK fun (_ : Unit) =>
    some true))
def m_retrospectlaw48_To (n : Nat) (x0 : (List M_retrospectref48_Piece)) : Option ((List M_wire_Piece)) :=
  (loopM (fun (s17 : (List M_wire_Piece) × Int) =>
    bif decide (s17.2 < (x0.length : Int)) then (
      (getI x0 s17.2).bind fun y18 =>
      (getI x0 s17.2).bind fun y20 =>
      (appM 32 s17.1 ([(⟨y18.Name, y20.Text⟩ : M_wire_Piece)] : List M_wire_Piece)).bind fun y22 =>
      some (Lp.go (y22, wrap64 (s17.2 + (1 : Int)))))
    else (
      some (Lp.out s17.1))) n (([] : List M_wire_Piece), (0 : Int))).bind fun (t15 : (List M_wire_Piece)) =>
  some t15
def m_retrospectref48_Long (n : Nat) (x0 : (List M_retrospectref48_Piece)) (x1 : Int) (x2 : Int) : Option (Bool) :=
  (loopM (fun (s33 : Int) =>
    jn (fun (j34 : (Bool) → Option _) =>
      bif decide (s33 < (x0.length : Int)) then (
        j34 (decide (s33 < x1)))
      else (
        j34 false)) (fun (s36 : Bool) =>
      bif s36 then (
        jn (fun (j41 : (Bool) → Option _) =>
          (getI x0 s33).bind fun y44 =>
          bif decide ((50 : Int) < (y44.Name.length : Int)) then (
            j41 true)
          else (
            (getI x0 s33).bind fun y46 =>
            j41 (decide (x2 < (y46.Text.length : Int))))) (fun (s43 : Bool) =>
          bif s43 then (
            some (Lp.out (Lp.out (true))))
          else (
            some (Lp.go (wrap64 (s33 + (1 : Int)))))))
      else (
        some (Lp.out (Lp.go ()))))) n (0 : Int)).bind (lpK fun (_ : Unit) =>
  some (decide (x1 < (x0.length : Int))))
def m_wire_may (n : Nat) (x0 : (List M_wire_Piece)) : Option (Bool) :=
  (rangeL (fun (i26 : Nat) (x27 : M_wire_Piece) (_ : Unit) =>
    jn (fun (j31 : (Bool) → Option _) =>
      (m_wire_named n x27.Name).bind fun r34 =>
      bif !r34 then (
        j31 true)
      else (
        j31 (decide ((20000 : Int) < (x27.Text.length : Int))))) (fun (s33 : Bool) =>
      bif s33 then (
        some (Lp.out (false)))
      else (
        (sub x0 (0 : Int) (i26 : Int)).bind fun y36 =>
        (rangeL (fun (_ : Nat) (x45 : M_wire_Piece) (_ : Unit) =>
          bif decide (x45.Name = x27.Name) then (
            some (Lp.out (Lp.out (false))))
          else (
            some (Lp.go ()))) y36 0 ()).bind (lpK fun (_ : Unit) =>
        some (Lp.go ()))))) x0 0 ()).bind (lpK fun (_ : Unit) =>
  some (decide ((x0.length : Int) ≤ (30 : Int))))
def m_wire_Pack (n : Nat) (x0 : (List M_wire_Piece)) : Option ((List UInt8) × Bool) :=
  (m_wire_may n x0).bind fun r1 =>
  bif !r1 then (
    some (([] : List UInt8), false))
  else (
    (rangeL (fun (_ : Nat) (x42 : M_wire_Piece) (s40 : (List UInt8)) =>
      (catS x42.Name ([61] : List UInt8)).bind fun y44 =>
      (m_strconv_Itoa (x42.Text.length : Int)).bind fun r46 =>
      (catS y44 r46).bind fun y48 =>
      (catS y48 ([58] : List UInt8)).bind fun y50 =>
      (catS y50 x42.Text).bind fun y52 =>
      (catS y52 ([59] : List UInt8)).bind fun y54 =>
      (appM 1 s40 y54).bind fun y56 =>
      some (Lp.go y56)) x0 0 ([] : List UInt8)).bind (lpK fun (s58 : (List UInt8)) =>
    some (s58, true)))
def m_wire_Unpack (n : Nat) (x0 : (List UInt8)) : Option ((List M_wire_Piece) × M_api_Fault) :=
  (loopM (fun (s13 : (List M_wire_Piece) × M_wire_reader) =>
    bif decide (s13.2.at_ < (x0.length : Int)) then (
      (m___wire_reader__piece n s13.2).bind fun r14 =>
      bif !(eqb_api_Fault r14.2.1 (⟨0, 0, 0, 0⟩ : M_api_Fault)) then (
        some (Lp.out (Lp.out ((([] : List M_wire_Piece), r14.2.1)))))
      else (
        (appM 32 s13.1 ([r14.1] : List M_wire_Piece)).bind fun y16 =>
        some (Lp.go (y16, r14.2.2))))
    else (
      some (Lp.out (Lp.go s13.1)))) n (([] : List M_wire_Piece), (⟨x0, 0⟩ : M_wire_reader))).bind (lpK fun (t11 : (List M_wire_Piece)) =>
  (m_wire_may n t11).bind fun r18 =>
  bif !r18 then (
    some (([] : List M_wire_Piece), (⟨(2 : Int), 0, 0, 0⟩ : M_api_Fault)))
  else (
    some (t11, (⟨0, 0, 0, 0⟩ : M_api_Fault))))
def m_wire_kinds  : Option ((List (List UInt8))) :=
  (some (([([111, 107] : List UInt8), ([112, 97, 114, 115, 101] : List UInt8), ([102, 111, 114, 109] : List UInt8), ([112, 111, 108, 101] : List UInt8), ([117, 110, 100, 101, 114, 102, 108, 111, 119] : List UInt8), ([115, 116, 101, 112, 115] : List UInt8), ([98, 105, 116, 115] : List UInt8), ([114, 97, 110, 103, 101] : List UInt8), ([115, 104, 117, 116] : List UInt8)] : List (List UInt8)))).bind fun z1 =>
  some z1
def m_wire_Fault (x0 : M_api_Fault) : Option ((List UInt8)) :=
  (m_wire_kinds ).bind fun r1 =>
  (getI r1 (0 : Int)).bind fun y3 =>
  jn (fun (j10 : ((List UInt8)) → Option _) =>
    jn (fun (j13 : (Bool) → Option _) =>
      bif decide ((0 : Int) < x0.Kind) then (
        j13 (decide (x0.Kind < (r1.length : Int))))
      else (
        j13 false)) (fun (s15 : Bool) =>
      bif s15 then (
        (getI r1 x0.Kind).bind fun y16 =>
        j10 y16)
      else (
        j10 y3))) (fun (s12 : (List UInt8)) =>
    (rangeL (fun (_ : Nat) (x41 : Int) (s39 : (List UInt8)) =>
      (m_strconv_Itoa x41).bind fun r43 =>
      (catS ([32] : List UInt8) r43).bind fun y45 =>
      (catS s39 y45).bind fun y47 =>
      some (Lp.go y47)) ([x0.Step, x0.Stage, x0.At] : List Int) 0 s12).bind (lpK fun (s49 : (List UInt8)) =>
    some s49))
def m_retrospectlaw48_works (n : Nat)  : Option (Bool) :=
  (some (([(⟨([97] : List UInt8), ([120, 121] : List UInt8)⟩ : M_wire_Piece), (⟨([98] : List UInt8), []⟩ : M_wire_Piece)] : List M_wire_Piece))).bind fun z1 =>
  (m_wire_Pack n z1).bind fun r2 =>
  (m_wire_Unpack n ([97, 61, 48, 50, 58, 120, 121, 59] : List UInt8)).bind fun r4 =>
  jn (fun (j10 : (Bool) → Option _) =>
    bif r2.2 then (
      (some (decide (r2.1 = ([97, 61, 50, 58, 120, 121, 59, 98, 61, 48, 58, 59] : List UInt8)))).bind fun z13 =>
      bif z13 then (
        bif (eqb_api_Fault r4.2 (⟨(1 : Int), 0, 0, (2 : Int)⟩ : M_api_Fault)) then (
          (m_wire_Fault (⟨(3 : Int), (3 : Int), 0, (5 : Int)⟩ : M_api_Fault)).bind fun r14 =>
          (some (decide (r14 = ([112, 111, 108, 101, 32, 51, 32, 48, 32, 53] : List UInt8)))).bind fun z16 =>
          j10 z16)
        else (
          j10 false))
      else (
        j10 false))
    else (
      j10 false)) (fun (s12 : Bool) =>
    some s12)
def m_retrospectlaw48_WireBack (n : Nat) (x0 : (List M_retrospectref48_Piece)) (x1 : (List UInt8)) : Option (Bool) :=
  jn (fun (j3 : (Bool) → Option _) =>
    (m_retrospectref48_Long n x0 (40 : Int) (3000 : Int)).bind fun r6 =>
    bif r6 then (
      j3 true)
    else (
      j3 (decide ((3000 : Int) < (x1.length : Int))))) (fun (s5 : Bool) =>
    bif s5 then (
      (m_retrospectlaw48_works n ).bind fun r8 =>
      some r8)
    else (
      (m_retrospectlaw48_To n x0).bind fun r10 =>
      (m_wire_Pack n r10).bind fun r12 =>
      jn (fun (j27 : (Unit) → Option _) =>
        bif r12.2 then (
          (m_wire_Unpack n r12.1).bind fun r30 =>
          jn (fun (j36 : (Bool) → Option _) =>
            bif !(eqb_api_Fault r30.2 (⟨0, 0, 0, 0⟩ : M_api_Fault)) then (
              j36 true)
            else (
              (m_retrospectlaw48_Of n r30.1).bind fun r39 =>
              (m_retrospectlaw48_Same n r39 x0).bind fun r41 =>
              j36 (!r41))) (fun (s38 : Bool) =>
            bif s38 then (
              some false)
            else (
              j27 ())))
        else (
          j27 ())) (fun (_ : Unit) =>
        (m_wire_Unpack n x1).bind fun r43 =>
        (m_wire_Pack n r43.1).bind fun r45 =>
        jn (fun (j51 : (Bool) → Option _) =>
          bif !(eqb_api_Fault r43.2 (⟨0, 0, 0, 0⟩ : M_api_Fault)) then (
            (m_retrospectlaw48_works n ).bind fun r54 =>
            j51 r54)
          else (
            bif r45.2 then (
              bif decide (r45.1 = x1) then (
                (m_retrospectlaw48_works n ).bind fun r56 =>
                j51 r56)
              else (
                j51 false))
            else (
              j51 false))) (fun (s53 : Bool) =>
          some s53))))
def m_wire_number (x0 : (List UInt8)) : Option (Int × Bool) :=
  (m_strconv_Atoi x0).bind fun r1 =>
  jn (fun (j5 : (Bool) → Option _) =>
    bif !r1.2 then (
      (m_strconv_Itoa r1.1).bind fun r8 =>
      bif decide (r8 = x0) then (
        bif decide ((-1000000 : Int) ≤ r1.1) then (
          j5 (decide (r1.1 ≤ (1000000 : Int))))
        else (
          j5 false))
      else (
        j5 false))
    else (
      j5 false)) (fun (s7 : Bool) =>
    some (r1.1, s7))
def m_wire_Unfault (x0 : (List UInt8)) : Option (M_api_Fault × Bool) :=
  (m_strings_Split x0 ([32] : List UInt8)).bind fun r1 =>
  bif !decide ((r1.length : Int) = (4 : Int)) then (
    some ((⟨0, 0, 0, 0⟩ : M_api_Fault), false))
  else (
    (sub r1 (1 : Int) (r1.length : Int)).bind fun y3 =>
    (rangeL (fun (i23 : Nat) (x24 : (List UInt8)) (s22 : M_A3_i64) =>
      (m_wire_number x24).bind fun r26 =>
      bif !r26.2 then (
        some (Lp.out (((⟨0, 0, 0, 0⟩ : M_api_Fault), false))))
      else (
        (getI ([s22.a0, s22.a1, s22.a2] : List Int) (i23 : Int)).bind fun _ =>
        some (Lp.go (ofl_A3_i64 (List.set ([s22.a0, s22.a1, s22.a2] : List Int) (Int.toNat (i23 : Int)) r26.1))))) y3 0 (⟨0, 0, 0⟩ : M_A3_i64)).bind (lpK fun (s30 : M_A3_i64) =>
    (m_wire_kinds ).bind fun r31 =>
    (rangeL (fun (i41 : Nat) (x42 : (List UInt8)) (_ : Unit) =>
      (getI r1 (0 : Int)).bind fun y44 =>
      bif decide (x42 = y44) then (
        some (Lp.out (((⟨(i41 : Int), s30.a0, s30.a1, s30.a2⟩ : M_api_Fault), true))))
      else (
        some (Lp.go ()))) r31 0 ()).bind (lpK fun (_ : Unit) =>
    some ((⟨0, 0, 0, 0⟩ : M_api_Fault), false))))
def m_retrospectref48_Kinds  : Option ((List (List UInt8))) :=
  (some (([([111, 107] : List UInt8), ([112, 97, 114, 115, 101] : List UInt8), ([102, 111, 114, 109] : List UInt8), ([112, 111, 108, 101] : List UInt8), ([117, 110, 100, 101, 114, 102, 108, 111, 119] : List UInt8), ([115, 116, 101, 112, 115] : List UInt8), ([98, 105, 116, 115] : List UInt8), ([114, 97, 110, 103, 101] : List UInt8), ([115, 104, 117, 116] : List UInt8)] : List (List UInt8)))).bind fun z1 =>
  some z1
def m_retrospectref07_Wrong (n : Nat) (x0 : (List UInt8)) : Option (Int) :=
  bif decide (x0 = ([] : List UInt8)) then (
    some (0 : Int))
  else (
    (loopM (fun (s27 : Int) =>
      bif decide (s27 < (x0.length : Int)) then (
        jn (fun (j32 : (Bool) → Option _) =>
          (getS x0 s27).bind fun y35 =>
          bif decide (y35 < 48) then (
            j32 true)
          else (
            (getS x0 s27).bind fun y37 =>
            bif decide (57 < y37) then (
              j32 true)
            else (
              j32 (decide ((60 : Int) ≤ s27))))) (fun (s34 : Bool) =>
          bif s34 then (
            some (Lp.out (Lp.out (s27))))
          else (
            some (Lp.go (wrap64 (s27 + (1 : Int)))))))
      else (
        some (Lp.out (Lp.go ())))) n (0 : Int)).bind (lpK fun (_ : Unit) =>
    some (-1 : Int)))
def m_retrospectref02_Norm (n : Nat) (x0 : (List Nat)) : Option ((List Nat)) :=
  (loopM (fun (s19 : Int) =>
    jn (fun (j22 : (Bool) → Option _) =>
      bif decide ((0 : Int) < s19) then (
        (getI x0 (wrap64 (s19 - (1 : Int)))).bind fun y25 =>
        j22 (decide (y25 = 0)))
      else (
        j22 false)) (fun (s24 : Bool) =>
      bif s24 then (
        some (Lp.go (wrap64 (s19 - (1 : Int)))))
      else (
        some (Lp.out s19)))) n (x0.length : Int)).bind fun (t17 : Int) =>
  (sub x0 (0 : Int) t17).bind fun y27 =>
  (appM 4 ([] : List Nat) y27).bind fun y29 =>
  some y29
def m_retrospectref04_Mul (n : Nat) (x0 : (List Nat)) (x1 : (List Nat)) : Option ((List Nat)) :=
  (mkM 4 (0 : Nat) (wrap64 ((x0.length : Int) + (x1.length : Int)))).bind fun y1 =>
  (loopM (fun (s77 : (List Nat) × Int) =>
    bif decide (s77.2 < (x0.length : Int)) then (
      (loopM (fun (s92 : (List Nat) × Nat × Int) =>
        bif decide (s92.2.2 < (x1.length : Int)) then (
          (getI x0 s77.2).bind fun y93 =>
          (getI x1 s92.2.2).bind fun y95 =>
          (getI s92.1 (wrap64 (s77.2 + s92.2.2))).bind fun y97 =>
          (some (((s92.2.1 + ((((y93 * y95) % 18446744073709551616) + y97) % 18446744073709551616)) % 18446744073709551616))).bind fun z99 =>
          (some (((s92.2.1 + ((((y93 * y95) % 18446744073709551616) + y97) % 18446744073709551616)) % 18446744073709551616))).bind fun _ =>
          (getI s92.1 (wrap64 (s77.2 + s92.2.2))).bind fun _ =>
          (some ((List.set s92.1 (Int.toNat (wrap64 (s77.2 + s92.2.2))) ((z99 % 4294967296) % 4294967296)))).bind fun z103 =>
          some (Lp.go (z103, (z99 / 4294967296), wrap64 (s92.2.2 + (1 : Int)))))
        else (
          some (Lp.out (s92.1, s92.2.1)))) n (s77.1, 0, (0 : Int))).bind fun (t90 : (List Nat) × Nat) =>
      (getI t90.1 (wrap64 (s77.2 + (x1.length : Int)))).bind fun _ =>
      (some ((List.set t90.1 (Int.toNat (wrap64 (s77.2 + (x1.length : Int)))) (t90.2 % 4294967296)))).bind fun z106 =>
      some (Lp.go (z106, wrap64 (s77.2 + (1 : Int)))))
    else (
      some (Lp.out s77.1))) n (y1, (0 : Int))).bind fun (t75 : (List Nat)) =>
  (m_retrospectref02_Norm n t75).bind fun r107 =>
  some r107
def m_retrospectref02_At (x0 : (List Nat)) (x1 : Int) : Option (Nat) :=
  bif decide (x1 < (x0.length : Int)) then (
    (getI x0 x1).bind fun y1 =>
    some y1)
  else (
    some 0)
def m_retrospectref02_Add (n : Nat) (x0 : (List Nat)) (x1 : (List Nat)) : Option ((List Nat)) :=
  (mkM 4 (0 : Nat) (wrap64 ((max (x0.length : Int) (x1.length : Int)) + (1 : Int)))).bind fun y1 =>
  (loopM (fun (s24 : (List Nat) × Nat × Int) =>
    (some (decide (s24.2.2 < (wrap64 ((max (x0.length : Int) (x1.length : Int)) + (1 : Int)))))).bind fun z25 =>
    bif z25 then (
      (m_retrospectref02_At x0 s24.2.2).bind fun r26 =>
      (m_retrospectref02_At x1 s24.2.2).bind fun r28 =>
      (some (((s24.2.1 + ((r26 + r28) % 18446744073709551616)) % 18446744073709551616))).bind fun z30 =>
      (getI s24.1 s24.2.2).bind fun _ =>
      some (Lp.go ((List.set s24.1 (Int.toNat s24.2.2) ((z30 % 4294967296) % 4294967296)), (z30 / 4294967296), wrap64 (s24.2.2 + (1 : Int)))))
    else (
      some (Lp.out s24.1))) n (y1, 0, (0 : Int))).bind fun (t22 : (List Nat)) =>
  (m_retrospectref02_Norm n t22).bind fun r33 =>
  some r33
def m_retrospectref07_Read (n : Nat) (x0 : (List UInt8)) : Option ((List Nat)) :=
  (loopM (fun (s28 : (List Nat) × Int) =>
    bif decide (s28.2 < (x0.length : Int)) then (
      (m_retrospectref04_Mul n s28.1 ([10] : List Nat)).bind fun r29 =>
      (getS x0 s28.2).bind fun y31 =>
      (m_retrospectref02_Add n r29 ([((y31 + 4294967296 - 48) % 4294967296)] : List Nat)).bind fun r33 =>
      some (Lp.go (r33, wrap64 (s28.2 + (1 : Int)))))
    else (
      some (Lp.out s28.1))) n (([] : List Nat), (0 : Int))).bind fun (t26 : (List Nat)) =>
  some t26
def m_retrospectref08_Norm (n : Nat) (x0 : M_retrospectref08_Whole) : Option (M_retrospectref08_Whole) :=
  (m_retrospectref02_Norm n x0.Abs).bind fun r1 =>
  jn (fun (j3 : (M_retrospectref08_Whole) → Option _) =>
    bif x0.Neg then (
      j3 (⟨decide ((0 : Int) < (r1.length : Int)), r1⟩ : M_retrospectref08_Whole))
    else (
      j3 (⟨false, r1⟩ : M_retrospectref08_Whole))) (fun (s5 : M_retrospectref08_Whole) =>
    some s5)
def m_retrospectref08_Read (n : Nat) (x0 : (List UInt8)) : Option (M_retrospectref08_Whole × Int) :=
  jn (fun (j3 : (Bool) → Option _) =>
    bif decide ((0 : Int) < (x0.length : Int)) then (
      (getS x0 (0 : Int)).bind fun y6 =>
      j3 (decide (y6 = 45)))
    else (
      j3 false)) (fun (s5 : Bool) =>
    jn (fun (j8 : (Int) → Option _) =>
      bif s5 then (
        j8 (1 : Int))
      else (
        j8 (0 : Int))) (fun (s10 : Int) =>
      (sub x0 s10 (x0.length : Int)).bind fun y11 =>
      (m_retrospectref07_Wrong n y11).bind fun r13 =>
      bif decide ((0 : Int) ≤ r13) then (
        some ((⟨false, []⟩ : M_retrospectref08_Whole), wrap64 (s10 + r13)))
      else (
        (sub x0 s10 (x0.length : Int)).bind fun y15 =>
        (m_retrospectref07_Read n y15).bind fun r17 =>
        (m_retrospectref08_Norm n (⟨s5, r17⟩ : M_retrospectref08_Whole)).bind fun r19 =>
        some (r19, (-1 : Int)))))
def m_retrospectref07_ten (n : Nat) (x0 : (List Nat)) : Option (Nat × (List Nat)) :=
  (loopM (fun (s16 : (List Nat) × Nat × Int) =>
    bif decide ((0 : Int) ≤ s16.2.2) then (
      (getI s16.1 s16.2.2).bind fun y17 =>
      (some (((((s16.2.1 * 4294967296) % 18446744073709551616) + y17) % 18446744073709551616))).bind fun z19 =>
      (getI s16.1 s16.2.2).bind fun _ =>
      some (Lp.go ((List.set s16.1 (Int.toNat s16.2.2) ((z19 / 10) % 4294967296)), (z19 % 10), wrap64 (s16.2.2 - (1 : Int)))))
    else (
      some (Lp.out (s16.1, s16.2.1)))) n (x0, 0, wrap64 ((x0.length : Int) - (1 : Int)))).bind fun (t14 : (List Nat) × Nat) =>
  some (t14.2, t14.1)
def m_retrospectref07_Text (n : Nat) (x0 : (List Nat)) : Option ((List UInt8)) :=
  (m_retrospectref02_Norm n x0).bind fun r1 =>
  (loopM (fun (s29 : (List Nat) × (List UInt8)) =>
    jn (fun (j30 : (Bool) → Option _) =>
      bif decide ((0 : Int) < (s29.1.length : Int)) then (
        j30 true)
      else (
        j30 (decide (s29.2 = ([] : List UInt8))))) (fun (s32 : Bool) =>
      bif s32 then (
        (m_retrospectref07_ten n s29.1).bind fun r33 =>
        (sub ([48, 49, 50, 51, 52, 53, 54, 55, 56, 57] : List UInt8) (r33.1 : Int) (((r33.1 + 1) % 18446744073709551616) : Int)).bind fun y35 =>
        (catS y35 s29.2).bind fun y37 =>
        (m_retrospectref02_Norm n r33.2).bind fun r39 =>
        some (Lp.go (r39, y37)))
      else (
        some (Lp.out s29.2)))) n (r1, ([] : List UInt8))).bind fun (t27 : (List UInt8)) =>
  some t27
def m_retrospectref08_Sign (n : Nat) (x0 : M_retrospectref08_Whole) : Option (Int) :=
  (m_retrospectref08_Norm n x0).bind fun r1 =>
  bif decide ((r1.Abs.length : Int) = (0 : Int)) then (
    some (0 : Int))
  else (
    bif r1.Neg then (
      some (-1 : Int))
    else (
      some (1 : Int)))
def m_retrospectref08_Text (n : Nat) (x0 : M_retrospectref08_Whole) : Option ((List UInt8)) :=
  (m_retrospectref07_Text n x0.Abs).bind fun r1 =>
  jn (fun (j7 : ((List UInt8)) → Option _) =>
    (m_retrospectref08_Sign n x0).bind fun r10 =>
    bif decide (r10 < (0 : Int)) then (
      (catS ([45] : List UInt8) r1).bind fun y12 =>
      j7 y12)
    else (
      j7 r1)) (fun (s9 : (List UInt8)) =>
    some s9)
def m_retrospectref48_Unfault (n : Nat) (x0 : (List UInt8)) : Option (M_A4_i64 × Bool) :=
  (loopM (fun (s27 : (List Int) × Int) =>
    bif decide (s27.2 < (x0.length : Int)) then (
      jn (fun (j32 : ((List Int)) → Option _) =>
        (getS x0 s27.2).bind fun y35 =>
        bif decide (y35 = 32) then (
          (appM 8 s27.1 ([s27.2] : List Int)).bind fun y37 =>
          j32 y37)
        else (
          j32 s27.1)) (fun (s34 : (List Int)) =>
        some (Lp.go (s34, wrap64 (s27.2 + (1 : Int))))))
    else (
      some (Lp.out s27.1))) n (([] : List Int), (0 : Int))).bind fun (t25 : (List Int)) =>
  bif !decide ((t25.length : Int) = (3 : Int)) then (
    some ((⟨0, 0, 0, 0⟩ : M_A4_i64), false))
  else (
    (appM 8 t25 ([(x0.length : Int)] : List Int)).bind fun y39 =>
    (loopM (fun (s83 : M_A4_i64 × Int) =>
      bif decide (s83.2 < (9 : Int)) then (
        jn (fun (j92 : (M_A4_i64) → Option _) =>
          (getI y39 (0 : Int)).bind fun y95 =>
          (sub x0 (0 : Int) y95).bind fun y97 =>
          (m_retrospectref48_Kinds ).bind fun r99 =>
          (getI r99 s83.2).bind fun y101 =>
          bif decide (y97 = y101) then (
            j92 (⟨s83.2, s83.1.a1, s83.1.a2, s83.1.a3⟩ : M_A4_i64))
          else (
            j92 s83.1)) (fun (s94 : M_A4_i64) =>
          some (Lp.go (s94, wrap64 (s83.2 + (1 : Int))))))
      else (
        some (Lp.out s83.1))) n ((⟨(-1 : Int), (0 : Int), (0 : Int), (0 : Int)⟩ : M_A4_i64), (0 : Int))).bind fun (t81 : M_A4_i64) =>
    (loopM (fun (s221 : M_A4_i64 × Int) =>
      bif decide (s221.2 < (3 : Int)) then (
        (getI y39 s221.2).bind fun y222 =>
        (getI y39 (wrap64 (s221.2 + (1 : Int)))).bind fun y224 =>
        (sub x0 (wrap64 (y222 + (1 : Int))) y224).bind fun y226 =>
        bif decide ((8 : Int) < (y226.length : Int)) then (
          some (Lp.out (Lp.out (((⟨0, 0, 0, 0⟩ : M_A4_i64), false)))))
        else (
          (m_retrospectref08_Read n y226).bind fun r228 =>
          jn (fun (j232 : (Bool) → Option _) =>
            bif decide ((0 : Int) ≤ r228.2) then (
              j232 true)
            else (
              (m_retrospectref08_Text n r228.1).bind fun r235 =>
              j232 (!decide (r235 = y226)))) (fun (s234 : Bool) =>
            bif s234 then (
              some (Lp.out (Lp.out (((⟨0, 0, 0, 0⟩ : M_A4_i64), false)))))
            else (
              (loopM (fun (s253 : Int × Int) =>
                bif decide (s253.2 < (y226.length : Int)) then (
                  jn (fun (j259 : (Int) → Option _) =>
                    (getS y226 s253.2).bind fun y262 =>
                    bif !decide (y262 = 45) then (
                      (getS y226 s253.2).bind fun y264 =>
                      (some (wrap64 ((wrap64 ((wrap64 ((10 : Int) * s253.1)) + (y264 : Int))) - (48 : Int)))).bind fun z266 =>
                      j259 z266)
                    else (
                      j259 s253.1)) (fun (s261 : Int) =>
                    some (Lp.go (s261, wrap64 (s253.2 + (1 : Int))))))
                else (
                  some (Lp.out s253.1))) n ((0 : Int), (0 : Int))).bind fun (t251 : Int) =>
              bif decide ((1000000 : Int) < t251) then (
                some (Lp.out (Lp.out (((⟨0, 0, 0, 0⟩ : M_A4_i64), false)))))
              else (
                jn (fun (j267 : (Int) → Option _) =>
                  bif r228.1.Neg then (
                    j267 (wrap64 (-t251)))
                  else (
                    j267 t251)) (fun (s269 : Int) =>
                  (getI ([s221.1.a0, s221.1.a1, s221.1.a2, s221.1.a3] : List Int) (wrap64 (s221.2 + (1 : Int)))).bind fun _ =>
                  some (Lp.go ((ofl_A4_i64 (List.set ([s221.1.a0, s221.1.a1, s221.1.a2, s221.1.a3] : List Int) (Int.toNat (wrap64 (s221.2 + (1 : Int)))) s269)), wrap64 (s221.2 + (1 : Int))))))))))
      else (
        some (Lp.out (Lp.go s221.1)))) n (t81, (0 : Int))).bind (lpK fun (t219 : M_A4_i64) =>
    bif decide (t219.a0 < (0 : Int)) then (
      some ((⟨0, 0, 0, 0⟩ : M_A4_i64), false))
    else (
      some (t219, true))))
def m_retrospectref02_Of (n : Nat) (x0 : Nat) : Option ((List Nat)) :=
  (some (([((x0 % 4294967296) % 4294967296), ((x0 / 4294967296) % 4294967296)] : List Nat))).bind fun z1 =>
  (m_retrospectref02_Norm n z1).bind fun r2 =>
  some r2
def m_retrospectref06_One (x0 : (List Nat)) : Option (Bool) :=
  jn (fun (j3 : (Bool) → Option _) =>
    bif decide ((x0.length : Int) = (1 : Int)) then (
      (getI x0 (0 : Int)).bind fun y6 =>
      j3 (decide (y6 = 1)))
    else (
      j3 false)) (fun (s5 : Bool) =>
    some s5)
def m_retrospectref01_Zeros (n : Nat) (x0 : Nat) : Option (Int) :=
  bif decide (x0 = 0) then (
    some (32 : Int))
  else (
    (loopM (fun (s5 : Nat × Int) =>
      bif decide ((s5.1 % 2) = 0) then (
        some (Lp.go ((s5.1 / 2), wrap64 (s5.2 + (1 : Int)))))
      else (
        some (Lp.out s5.2))) n (x0, (0 : Int))).bind fun (t3 : Int) =>
    some t3)
def m_retrospectref06_down (n : Nat) (x0 : (List Nat)) (x0o : Nat) (x0l : Nat) (x1 : Int) : Option (Nat × Nat × (List Nat)) :=
  (loopM (fun (s41 : (List Nat) × Int) =>
    bif decide (s41.2 < (x0l : Int)) then (
      jn (fun (j45 : (Nat) → Option _) =>
        bif decide ((wrap64 (s41.2 + (1 : Int))) < (x0l : Int)) then (
          (grd (winS (wrap64 (s41.2 + (1 : Int))) x0l)).bind fun _ =>
          (getI s41.1 ((x0o : Int) + (wrap64 (s41.2 + (1 : Int))))).bind fun y48 =>
          j45 y48)
        else (
          j45 0)) (fun (s47 : Nat) =>
        (grd (winS s41.2 x0l)).bind fun _ =>
        (getI s41.1 ((x0o : Int) + s41.2)).bind fun y51 =>
        (some (((((s47 * 4294967296) % 18446744073709551616) + y51) % 18446744073709551616))).bind fun z54 =>
        (grd (decide (0 ≤ x1))).bind fun _ =>
        (grd (winS s41.2 x0l)).bind fun _ =>
        (getI s41.1 ((x0o : Int) + s41.2)).bind fun _ =>
        (some ((List.set s41.1 (Int.toNat ((x0o : Int) + s41.2)) ((z54 / 2 ^ (min (Int.toNat x1) 64)) % 4294967296)))).bind fun z59 =>
        some (Lp.go (z59, wrap64 (s41.2 + (1 : Int))))))
    else (
      some (Lp.out s41.1))) n (x0, (0 : Int))).bind fun (t39 : (List Nat)) =>
  (loopM (fun (s84 : Nat × Nat) =>
    jn (fun (j88 : (Bool) → Option _) =>
      bif decide ((0 : Int) < (s84.2 : Int)) then (
        (grd (winS (wrap64 ((s84.2 : Int) - (1 : Int))) s84.2)).bind fun _ =>
        (getI t39 ((s84.1 : Int) + (wrap64 ((s84.2 : Int) - (1 : Int))))).bind fun y91 =>
        j88 (decide (y91 = 0)))
      else (
        j88 false)) (fun (s90 : Bool) =>
      bif s90 then (
        (grd (winC (0 : Int) (wrap64 ((s84.2 : Int) - (1 : Int))) s84.2)).bind fun _ =>
        some (Lp.go ((s84.1 + Int.toNat (0 : Int)), (Int.toNat (wrap64 ((s84.2 : Int) - (1 : Int))) - Int.toNat (0 : Int)))))
      else (
        some (Lp.out (s84.1, s84.2))))) n (x0o, x0l)).bind fun (t82 : Nat × Nat) =>
  some (t82.1, t82.2, t39)
def m_retrospectref06_odd (n : Nat) (x0 : (List Nat)) (x0o : Nat) (x0l : Nat) : Option (Nat × Nat × Int × (List Nat)) :=
  (loopM (fun (s13 : Nat × Nat × Int) =>
    (grd (winS (0 : Int) s13.2.1)).bind fun _ =>
    (getI x0 ((s13.1 : Int) + (0 : Int))).bind fun y14 =>
    bif decide (y14 = 0) then (
      (grd (winC (1 : Int) (s13.2.1 : Int) s13.2.1)).bind fun _ =>
      some (Lp.go ((s13.1 + Int.toNat (1 : Int)), (Int.toNat (s13.2.1 : Int) - Int.toNat (1 : Int)), wrap64 (s13.2.2 + (32 : Int)))))
    else (
      some (Lp.out (s13.1, s13.2.1, s13.2.2)))) n (x0o, x0l, (0 : Int))).bind fun (t11 : Nat × Nat × Int) =>
  (grd (winS (0 : Int) t11.2.1)).bind fun _ =>
  (getI x0 ((t11.1 : Int) + (0 : Int))).bind fun y18 =>
  (m_retrospectref01_Zeros n y18).bind fun r21 =>
  (m_retrospectref06_down n x0 t11.1 t11.2.1 r21).bind fun r23 =>
  some (r23.1, r23.2.1, wrap64 (t11.2.2 + r21), r23.2.2)
def m_retrospectref02_Cmp (n : Nat) (x0 : (List Nat)) (x1 : (List Nat)) : Option (Int) :=
  (loopM (fun (s15 : Int) =>
    bif decide ((0 : Int) ≤ s15) then (
      (m_retrospectref02_At x0 s15).bind fun r16 =>
      (m_retrospectref02_At x1 s15).bind fun r18 =>
      bif decide (r16 < r18) then (
        some (Lp.out (Lp.out ((-1 : Int)))))
      else (
        bif decide (r18 < r16) then (
          some (Lp.out (Lp.out ((1 : Int)))))
        else (
          some (Lp.go (wrap64 (s15 - (1 : Int)))))))
    else (
      some (Lp.out (Lp.go ())))) n (wrap64 ((max (x0.length : Int) (x1.length : Int)) - (1 : Int)))).bind (lpK fun (_ : Unit) =>
  some (0 : Int))
def m_retrospectref05_Less (n : Nat) (x0 : (List Nat)) (x0o : Nat) (x0l : Nat) (x1 : (List Nat)) : Option ((List Nat)) :=
  (loopM (fun (s30 : (List Nat) × Nat × Int) =>
    bif decide (s30.2.2 < (x0l : Int)) then (
      (grd (winS s30.2.2 x0l)).bind fun _ =>
      (getI s30.1 ((x0o : Int) + s30.2.2)).bind fun y31 =>
      (m_retrospectref02_At x1 s30.2.2).bind fun r34 =>
      jn (fun (j36 : (Nat × Nat) → Option _) =>
        bif decide (y31 < ((r34 + s30.2.1) % 18446744073709551616)) then (
          j36 (1, ((y31 + 4294967296) % 18446744073709551616)))
        else (
          j36 (0, y31))) (fun (s38 : Nat × Nat) =>
        (some (((s38.2 + 18446744073709551616 - ((r34 + s30.2.1) % 18446744073709551616)) % 18446744073709551616))).bind fun z39 =>
        (grd (winS s30.2.2 x0l)).bind fun _ =>
        (getI s30.1 ((x0o : Int) + s30.2.2)).bind fun _ =>
        (some ((List.set s30.1 (Int.toNat ((x0o : Int) + s30.2.2)) (z39 % 4294967296)))).bind fun z43 =>
        some (Lp.go (z43, s38.1, wrap64 (s30.2.2 + (1 : Int))))))
    else (
      some (Lp.out s30.1))) n (x0, 0, (0 : Int))).bind fun (t28 : (List Nat)) =>
  some t28
def m_retrospectref06_double (n : Nat) (x0 : (List Nat)) (x1 : Int) : Option ((List Nat)) :=
  (mkM 4 (0 : Nat) (wrap64 (Int.tdiv x1 (32 : Int)))).bind fun y1 =>
  (appM 4 y1 x0).bind fun y3 =>
  (grd (decide (0 ≤ Int.tmod x1 (32 : Int)))).bind fun _ =>
  (some (([((1 * 2 ^ (min (Int.toNat (Int.tmod x1 (32 : Int))) 32)) % 4294967296)] : List Nat))).bind fun z6 =>
  (m_retrospectref04_Mul n y3 z6).bind fun r7 =>
  some r7
def m_retrospectref06_Gcd (n : Nat) (x0 : (List Nat)) (x1 : (List Nat)) : Option ((List Nat)) :=
  (m_retrospectref02_Norm n x0).bind fun r1 =>
  (m_retrospectref02_Norm n x1).bind fun r3 =>
  bif decide ((r1.length : Int) = (0 : Int)) then (
    some r3)
  else (
    bif decide ((r3.length : Int) = (0 : Int)) then (
      some r1)
    else (
      (m_retrospectref06_odd n r1 0 r1.length).bind fun r5 =>
      (m_retrospectref06_odd n r3 0 r3.length).bind fun r7 =>
      (loopM (fun (s43 : (List Nat) × Nat × Nat × (List Nat) × Nat × Nat) =>
        (subW s43.1 s43.2.1 s43.2.2.1).bind fun y44 =>
        (subW s43.2.2.2.1 s43.2.2.2.2.1 s43.2.2.2.2.2).bind fun y46 =>
        (m_retrospectref02_Cmp n y44 y46).bind fun r48 =>
        bif decide (r48 = (0 : Int)) then (
          some (Lp.out (s43.1, s43.2.1, s43.2.2.1)))
        else (
          jn (fun (j50 : ((List Nat) × Nat × Nat × (List Nat) × Nat × Nat) → Option _) =>
            bif decide (r48 < (0 : Int)) then (
              j50 (s43.2.2.2.1, s43.2.2.2.2.1, s43.2.2.2.2.2, s43.1, s43.2.1, s43.2.2.1))
            else (
              j50 (s43.1, s43.2.1, s43.2.2.1, s43.2.2.2.1, s43.2.2.2.2.1, s43.2.2.2.2.2))) (fun (s52 : (List Nat) × Nat × Nat × (List Nat) × Nat × Nat) =>
            (subW s52.2.2.2.1 s52.2.2.2.2.1 s52.2.2.2.2.2).bind fun y53 =>
            (m_retrospectref05_Less n s52.1 s52.2.1 s52.2.2.1 y53).bind fun r55 =>
            (m_retrospectref06_odd n r55 s52.2.1 s52.2.2.1).bind fun r57 =>
            some (Lp.go (r57.2.2.2, r57.1, r57.2.1, s52.2.2.2.1, s52.2.2.2.2.1, s52.2.2.2.2.2))))) n (r5.2.2.2, r5.1, r5.2.1, r7.2.2.2, r7.1, r7.2.1)).bind fun (t41 : (List Nat) × Nat × Nat) =>
      (subW t41.1 t41.2.1 t41.2.2).bind fun y59 =>
      (m_retrospectref06_double n y59 (min r5.2.2.1 r7.2.2.1)).bind fun r61 =>
      some r61))
def m_retrospectref03_Has (n : Nat) (x0 : (List Nat)) (x1 : Int) : Option (Bool) :=
  jn (fun (j1 : (Bool) → Option _) =>
    bif decide (x1 < (0 : Int)) then (
      j1 true)
    else (
      j1 (decide ((x0.length : Int) ≤ (wrap64 (Int.tdiv x1 (32 : Int))))))) (fun (s3 : Bool) =>
    bif s3 then (
      some false)
    else (
      (getI x0 (wrap64 (Int.tdiv x1 (32 : Int)))).bind fun y4 =>
      (loopM (fun (s10 : Nat × Int) =>
        bif decide (s10.2 < (Int.tmod x1 (32 : Int))) then (
          some (Lp.go ((s10.1 / 2), wrap64 (s10.2 + (1 : Int)))))
        else (
          some (Lp.out s10.1))) n (y4, (0 : Int))).bind fun (t8 : Nat) =>
      some (decide ((t8 % 2) = 1))))
def m_retrospectref03_Len (n : Nat) (x0 : (List Nat)) : Option (Int) :=
  (loopM (fun (s19 : Int) =>
    jn (fun (j22 : (Bool) → Option _) =>
      bif decide ((0 : Int) < s19) then (
        (m_retrospectref03_Has n x0 (wrap64 (s19 - (1 : Int)))).bind fun r25 =>
        j22 (!r25))
      else (
        j22 false)) (fun (s24 : Bool) =>
      bif s24 then (
        some (Lp.go (wrap64 (s19 - (1 : Int)))))
      else (
        some (Lp.out s19)))) n (wrap64 ((32 : Int) * (x0.length : Int)))).bind fun (t17 : Int) =>
  some t17
def m_retrospectref05_Double (n : Nat) (x0 : (List Nat)) (x1 : Bool) : Option ((List Nat)) :=
  jn (fun (j1 : (Nat) → Option _) =>
    bif x1 then (
      j1 1)
    else (
      j1 0)) (fun (s3 : Nat) =>
    (loopM (fun (s22 : (List Nat) × Nat × Int) =>
      bif decide (s22.2.2 < (s22.1.length : Int)) then (
        (getI s22.1 s22.2.2).bind fun y23 =>
        (getI s22.1 s22.2.2).bind fun y25 =>
        (getI s22.1 s22.2.2).bind fun _ =>
        (some ((List.set s22.1 (Int.toNat s22.2.2) ((((y25 * 2) % 4294967296) + s22.2.1) % 4294967296)))).bind fun z29 =>
        some (Lp.go (z29, (y23 / 2147483648), wrap64 (s22.2.2 + (1 : Int)))))
      else (
        some (Lp.out s22.1))) n (x0, s3, (0 : Int))).bind fun (t20 : (List Nat)) =>
    some t20)
def m_retrospectref05_Div (n : Nat) (x0 : (List Nat)) (x1 : (List Nat)) : Option ((List Nat) × (List Nat)) :=
  (mkM 4 (0 : Nat) (x0.length : Int)).bind fun y1 =>
  (mkM 4 (0 : Nat) (wrap64 ((x1.length : Int) + (1 : Int)))).bind fun y3 =>
  (m_retrospectref03_Len n x0).bind fun r5 =>
  (loopM (fun (s97 : (List Nat) × (List Nat) × Int) =>
    bif decide ((0 : Int) ≤ s97.2.2) then (
      jn (fun (j118 : ((List Nat) × (List Nat)) → Option _) =>
        (getI x0 (wrap64 (Int.tdiv s97.2.2 (32 : Int)))).bind fun y121 =>
        (grd (decide (0 ≤ Int.tmod s97.2.2 (32 : Int)))).bind fun _ =>
        (grd (((1 * 2 ^ (min (Int.toNat (Int.tmod s97.2.2 (32 : Int))) 32)) % 4294967296) != 0)).bind fun _ =>
        (m_retrospectref05_Double n s97.2.1 (decide (((y121 / ((1 * 2 ^ (min (Int.toNat (Int.tmod s97.2.2 (32 : Int))) 32)) % 4294967296)) % 2) = 1))).bind fun r125 =>
        (some (((1 * 2 ^ (min (Int.toNat (Int.tmod s97.2.2 (32 : Int))) 32)) % 4294967296))).bind fun _ =>
        (some ((y121 / ((1 * 2 ^ (min (Int.toNat (Int.tmod s97.2.2 (32 : Int))) 32)) % 4294967296)))).bind fun _ =>
        (some (((y121 / ((1 * 2 ^ (min (Int.toNat (Int.tmod s97.2.2 (32 : Int))) 32)) % 4294967296)) % 2))).bind fun _ =>
        (some (decide (((y121 / ((1 * 2 ^ (min (Int.toNat (Int.tmod s97.2.2 (32 : Int))) 32)) % 4294967296)) % 2) = 1))).bind fun _ =>
        (m_retrospectref05_Double n s97.1 false).bind fun r131 =>
        (m_retrospectref02_Cmp n r125 x1).bind fun r133 =>
        bif decide ((0 : Int) ≤ r133) then (
          (m_retrospectref05_Less n r125 0 r125.length x1).bind fun r135 =>
          (getI r131 (0 : Int)).bind fun y137 =>
          (getI r131 (0 : Int)).bind fun _ =>
          j118 ((List.set r131 (Int.toNat (0 : Int)) ((y137 + 1) % 4294967296)), r135))
        else (
          j118 (r131, r125))) (fun (s120 : (List Nat) × (List Nat)) =>
        some (Lp.go (s120.1, s120.2, wrap64 (s97.2.2 - (1 : Int))))))
    else (
      some (Lp.out (s97.1, s97.2.1)))) n (y1, y3, wrap64 (r5 - (1 : Int)))).bind fun (t95 : (List Nat) × (List Nat)) =>
  (m_retrospectref02_Norm n t95.1).bind fun r141 =>
  (m_retrospectref02_Norm n t95.2).bind fun r143 =>
  some (r141, r143)
def m_retrospectref06_Over (n : Nat) (x0 : (List Nat)) (x1 : (List Nat)) : Option ((List Nat)) :=
  (m_retrospectref06_One x1).bind fun r1 =>
  bif r1 then (
    (m_retrospectref02_Norm n x0).bind fun r3 =>
    some r3)
  else (
    (m_retrospectref05_Div n x0 x1).bind fun r5 =>
    some r5.1)
def m_retrospectref09_Norm (n : Nat) (x0 : M_retrospectref09_Frac) : Option (M_retrospectref09_Frac) :=
  (m_retrospectref02_Norm n x0.D).bind fun r1 =>
  (m_retrospectref02_Norm n x0.N).bind fun r3 =>
  jn (fun (j5 : (Bool) → Option _) =>
    bif decide ((r1.length : Int) = (0 : Int)) then (
      j5 true)
    else (
      j5 (decide ((r3.length : Int) = (0 : Int))))) (fun (s7 : Bool) =>
    bif s7 then (
      some (⟨false, ([] : List Nat), ([1] : List Nat)⟩ : M_retrospectref09_Frac))
    else (
      jn (fun (j32 : ((List Nat) × (List Nat)) → Option _) =>
        (m_retrospectref06_One r1).bind fun r35 =>
        bif !r35 then (
          (m_retrospectref06_Gcd n r3 r1).bind fun r37 =>
          (m_retrospectref06_Over n r3 r37).bind fun r39 =>
          (m_retrospectref06_Over n r1 r37).bind fun r41 =>
          j32 (r41, r39))
        else (
          j32 (r1, r3))) (fun (s34 : (List Nat) × (List Nat)) =>
        some (⟨x0.Neg, s34.2, s34.1⟩ : M_retrospectref09_Frac))))
def m_retrospectref09_Int (n : Nat) (x0 : Int) : Option (M_retrospectref09_Frac) :=
  bif decide (x0 < (0 : Int)) then (
    (some ((Int.toNat ((wrap64 (-(wrap64 (x0 + (1 : Int))))) % 18446744073709551616)))).bind fun z1 =>
    (m_retrospectref02_Of n z1).bind fun r2 =>
    (m_retrospectref02_Add n r2 ([1] : List Nat)).bind fun r4 =>
    (m_retrospectref09_Norm n (⟨true, r4, ([1] : List Nat)⟩ : M_retrospectref09_Frac)).bind fun r6 =>
    some r6)
  else (
    (m_retrospectref02_Of n (Int.toNat (x0 % 18446744073709551616))).bind fun r8 =>
    (m_retrospectref09_Norm n (⟨false, r8, ([1] : List Nat)⟩ : M_retrospectref09_Frac)).bind fun r10 =>
    some r10)
def m_retrospectref09_Up (x0 : M_retrospectref09_Frac) : Option (M_retrospectref08_Whole) :=
  some (⟨x0.Neg, x0.N⟩ : M_retrospectref08_Whole)
def m_retrospectref20_Int (n : Nat) (x0 : Int) : Option ((List UInt8)) :=
  (m_retrospectref09_Int n x0).bind fun r1 =>
  (m_retrospectref09_Up r1).bind fun r3 =>
  (m_retrospectref08_Text n r3).bind fun r5 =>
  some r5
def m_retrospectref48_Fault (n : Nat) (x0 : M_A4_i64) : Option ((List UInt8)) :=
  jn (fun (j4 : (Int) → Option _) =>
    jn (fun (j7 : (Bool) → Option _) =>
      bif decide ((0 : Int) < x0.a0) then (
        j7 (decide (x0.a0 ≤ (8 : Int))))
      else (
        j7 false)) (fun (s9 : Bool) =>
      bif s9 then (
        j4 x0.a0)
      else (
        j4 (0 : Int)))) (fun (s6 : Int) =>
    (m_retrospectref48_Kinds ).bind fun r10 =>
    (getI r10 s6).bind fun y12 =>
    (catS y12 ([32] : List UInt8)).bind fun y14 =>
    (m_retrospectref20_Int n x0.a1).bind fun r16 =>
    (catS y14 r16).bind fun y18 =>
    (catS y18 ([32] : List UInt8)).bind fun y20 =>
    (m_retrospectref20_Int n x0.a2).bind fun r22 =>
    (catS y20 r22).bind fun y24 =>
    (catS y24 ([32] : List UInt8)).bind fun y26 =>
    (m_retrospectref20_Int n x0.a3).bind fun r28 =>
    (catS y26 r28).bind fun y30 =>
    some y30)
def m_retrospectlaw48_WireFaults (n : Nat) (x0 : M_A4_i64) (x1 : (List UInt8)) : Option (Bool) :=
  bif decide ((200 : Int) < (x1.length : Int)) then (
    (m_retrospectlaw48_works n ).bind fun r1 =>
    some r1)
  else (
    (m_wire_Unfault x1).bind fun r3 =>
    (m_retrospectref48_Unfault n x1).bind fun r5 =>
    jn (fun (j22 : (Bool) → Option _) =>
      (m_wire_Fault (⟨x0.a0, x0.a1, x0.a2, x0.a3⟩ : M_api_Fault)).bind fun r25 =>
      (m_retrospectref48_Fault n x0).bind fun r27 =>
      bif decide (r25 = r27) then (
        bif (eqb_api_Fault r3.1 (⟨r5.1.a0, r5.1.a1, r5.1.a2, r5.1.a3⟩ : M_api_Fault)) then (
          bif (r3.2 == r5.2) then (
            (m_retrospectlaw48_works n ).bind fun r32 =>
            (some ((eqb_api_Fault r3.1 (⟨r5.1.a0, r5.1.a1, r5.1.a2, r5.1.a3⟩ : M_api_Fault)))).bind fun _ =>
            (some ((eqb_api_Fault r3.1 (⟨r5.1.a0, r5.1.a1, r5.1.a2, r5.1.a3⟩ : M_api_Fault)))).bind fun _ =>
            j22 r32)
          else (
            (some ((eqb_api_Fault r3.1 (⟨r5.1.a0, r5.1.a1, r5.1.a2, r5.1.a3⟩ : M_api_Fault)))).bind fun _ =>
            (some ((eqb_api_Fault r3.1 (⟨r5.1.a0, r5.1.a1, r5.1.a2, r5.1.a3⟩ : M_api_Fault)))).bind fun _ =>
            j22 false))
        else (
          (some ((eqb_api_Fault r3.1 (⟨r5.1.a0, r5.1.a1, r5.1.a2, r5.1.a3⟩ : M_api_Fault)))).bind fun _ =>
          (some ((eqb_api_Fault r3.1 (⟨r5.1.a0, r5.1.a1, r5.1.a2, r5.1.a3⟩ : M_api_Fault)))).bind fun _ =>
          j22 false))
      else (
        j22 false)) (fun (s24 : Bool) =>
      some s24))
def m_wire_Get (x0 : (List M_wire_Piece)) (x1 : (List UInt8)) : Option ((List UInt8) × Bool) :=
  (rangeL (fun (_ : Nat) (x8 : M_wire_Piece) (_ : Unit) =>
    bif decide (x8.Name = x1) then (
      some (Lp.out ((x8.Text, true))))
    else (
      some (Lp.go ()))) x0 0 ()).bind (lpK fun (_ : Unit) =>
  some (([] : List UInt8), false))
def m_retrospectref16_digit (x0 : Nat) : Option (Bool) :=
  jn (fun (j1 : (Bool) → Option _) =>
    bif decide (48 ≤ x0) then (
      j1 (decide (x0 ≤ 57)))
    else (
      j1 false)) (fun (s3 : Bool) =>
    some s3)
def m_retrospectref16_letter (x0 : Nat) : Option (Bool) :=
  jn (fun (j1 : (Bool) → Option _) =>
    bif decide (97 ≤ x0) then (
      bif decide (x0 ≤ 122) then (
        j1 true)
      else (
        bif decide (65 ≤ x0) then (
          bif decide (x0 ≤ 90) then (
            j1 true)
          else (
            j1 (decide (x0 = 95))))
        else (
          j1 (decide (x0 = 95)))))
    else (
      bif decide (65 ≤ x0) then (
        bif decide (x0 ≤ 90) then (
          j1 true)
        else (
          j1 (decide (x0 = 95))))
      else (
        j1 (decide (x0 = 95))))) (fun (s3 : Bool) =>
    some s3)
def m_retrospectref16_more (x0 : Int) (x1 : Nat) : Option (Bool) :=
  jn (fun (j11 : (Bool) → Option _) =>
    bif decide (x0 = (1 : Int)) then (
      (m_retrospectref16_digit x1).bind fun r14 =>
      bif r14 then (
        j11 true)
      else (
        bif decide (x0 = (2 : Int)) then (
          (m_retrospectref16_digit x1).bind fun r16 =>
          bif r16 then (
            j11 true)
          else (
            (m_retrospectref16_letter x1).bind fun r18 =>
            j11 r18))
        else (
          j11 false)))
    else (
      bif decide (x0 = (2 : Int)) then (
        (m_retrospectref16_digit x1).bind fun r20 =>
        bif r20 then (
          j11 true)
        else (
          (m_retrospectref16_letter x1).bind fun r22 =>
          j11 r22))
      else (
        j11 false))) (fun (s13 : Bool) =>
    some s13)
def m_retrospectref16_Kind (n : Nat) (x0 : Nat) : Option (Int) :=
  (m_retrospectref16_digit x0).bind fun r1 =>
  bif r1 then (
    some (1 : Int))
  else (
    (m_retrospectref16_letter x0).bind fun r3 =>
    bif r3 then (
      some (2 : Int))
    else (
      (loopM (fun (s15 : Int) =>
        (some ((([43, 45, 42, 47, 94, 40, 41, 91, 93, 44, 59, 61] : List UInt8).length : Int))).bind fun z16 =>
        bif decide (s15 < z16) then (
          (getS ([43, 45, 42, 47, 94, 40, 41, 91, 93, 44, 59, 61] : List UInt8) s15).bind fun y17 =>
          bif decide (y17 = x0) then (
            some (Lp.out (Lp.out ((3 : Int)))))
          else (
            some (Lp.go (wrap64 (s15 + (1 : Int))))))
        else (
          some (Lp.out (Lp.go ())))) n (0 : Int)).bind (lpK fun (_ : Unit) =>
      some (0 : Int))))
def m_retrospectref16_Most (x0 : Int) : Option (Int) :=
  bif decide (x0 = (1 : Int)) then (
    some (60 : Int))
  else (
    bif decide (x0 = (2 : Int)) then (
      some (12 : Int))
    else (
      some (1 : Int)))
def m_retrospectref16_Scan (n : Nat) (x0 : (List UInt8)) : Option ((List M_retrospectref16_Word) × Int) :=
  bif decide ((4000 : Int) < (x0.length : Int)) then (
    some (([] : List M_retrospectref16_Word), (4000 : Int)))
  else (
    (loopM (fun (s407 : (List M_retrospectref16_Word) × Bool × Int) =>
      bif decide (s407.2.2 < (x0.length : Int)) then (
        jn (fun (j507 : ((List M_retrospectref16_Word) × Bool) → Option _) =>
          (getS x0 s407.2.2).bind fun y510 =>
          jn (fun (j512 : (Bool) → Option _) =>
            bif decide (y510 = 10) then (
              j512 false)
            else (
              j512 s407.2.1)) (fun (s514 : Bool) =>
            jn (fun (j515 : (Bool) → Option _) =>
              bif decide (y510 = 35) then (
                j515 true)
              else (
                j515 s514)) (fun (s517 : Bool) =>
              jn (fun (j518 : (Bool) → Option _) =>
                bif s517 then (
                  j518 true)
                else (
                  bif decide (y510 = 32) then (
                    j518 true)
                  else (
                    bif decide (y510 = 9) then (
                      j518 true)
                    else (
                      bif decide (y510 = 10) then (
                        j518 true)
                      else (
                        j518 (decide (y510 = 13))))))) (fun (s520 : Bool) =>
                bif s520 then (
                  j507 (s407.1, s517))
                else (
                  jn (fun (j558 : ((List M_retrospectref16_Word)) → Option _) =>
                    jn (fun (j571 : (Bool) → Option _) =>
                      bif decide ((0 : Int) < (s407.1.length : Int)) then (
                        (getI s407.1 (wrap64 ((s407.1.length : Int) - (1 : Int)))).bind fun y575 =>
                        (getI s407.1 (wrap64 ((s407.1.length : Int) - (1 : Int)))).bind fun y577 =>
                        bif decide ((wrap64 (y575.At + (y577.Text.length : Int))) = s407.2.2) then (
                          (getI s407.1 (wrap64 ((s407.1.length : Int) - (1 : Int)))).bind fun y580 =>
                          (m_retrospectref16_more y580.Kind y510).bind fun r582 =>
                          j571 r582)
                        else (
                          j571 false))
                      else (
                        j571 false)) (fun (s573 : Bool) =>
                      bif s573 then (
                        (getI s407.1 (wrap64 ((s407.1.length : Int) - (1 : Int)))).bind fun y584 =>
                        (sub x0 s407.2.2 (wrap64 (s407.2.2 + (1 : Int)))).bind fun y586 =>
                        (catS y584.Text y586).bind fun y588 =>
                        (getI s407.1 (wrap64 ((s407.1.length : Int) - (1 : Int)))).bind fun y590 =>
                        j558 (List.set s407.1 (Int.toNat (wrap64 ((s407.1.length : Int) - (1 : Int)))) (⟨y590.Kind, y588, y590.At⟩ : M_retrospectref16_Word)))
                      else (
                        (m_retrospectref16_Kind n y510).bind fun r592 =>
                        (sub x0 s407.2.2 (wrap64 (s407.2.2 + (1 : Int)))).bind fun y594 =>
                        (appM 32 s407.1 ([(⟨r592, y594, s407.2.2⟩ : M_retrospectref16_Word)] : List M_retrospectref16_Word)).bind fun y596 =>
                        j558 y596))) (fun (s560 : (List M_retrospectref16_Word)) =>
                    (getI s560 (wrap64 ((s560.length : Int) - (1 : Int)))).bind fun y598 =>
                    jn (fun (j603 : (Bool) → Option _) =>
                      bif decide (y598.Kind = (0 : Int)) then (
                        j603 true)
                      else (
                        (m_retrospectref16_Most y598.Kind).bind fun r607 =>
                        j603 (decide (r607 < (y598.Text.length : Int))))) (fun (s605 : Bool) =>
                      bif s605 then (
                        some (Lp.out (Lp.out ((([] : List M_retrospectref16_Word), s407.2.2)))))
                      else (
                        j507 (s560, s517))))))))) (fun (s509 : (List M_retrospectref16_Word) × Bool) =>
          some (Lp.go (s509.1, s509.2, wrap64 (s407.2.2 + (1 : Int))))))
      else (
        some (Lp.out (Lp.go s407.1)))) n (([] : List M_retrospectref16_Word), false, (0 : Int))).bind (lpK fun (t405 : (List M_retrospectref16_Word)) =>
    some (t405, (-1 : Int))))
def m_retrospectref16_Right (n : Nat) (x0 : M_retrospectref16_Word) : Option (Bool) :=
  (m_retrospectref16_Scan n x0.Text).bind fun r1 =>
  jn (fun (j10 : (Bool) → Option _) =>
    bif decide (r1.2 < (0 : Int)) then (
      bif decide ((r1.1.length : Int) = (1 : Int)) then (
        (getI r1.1 (0 : Int)).bind fun y15 =>
        bif decide (y15.Kind = x0.Kind) then (
          (getI r1.1 (0 : Int)).bind fun y18 =>
          j10 (decide (y18.Text = x0.Text)))
        else (
          j10 false))
      else (
        j10 false))
    else (
      j10 false)) (fun (s12 : Bool) =>
    some s12)
def m_retrospectref48_named (n : Nat) (x0 : (List UInt8)) : Option (Bool) :=
  (m_retrospectref16_Right n (⟨(2 : Int), x0, 0⟩ : M_retrospectref16_Word)).bind fun r1 =>
  some r1
def m_retrospectref48_May (n : Nat) (x0 : (List M_retrospectref48_Piece)) : Option (Bool) :=
  bif decide ((30 : Int) < (x0.length : Int)) then (
    some false)
  else (
    (loopM (fun (s64 : Int) =>
      bif decide (s64 < (x0.length : Int)) then (
        jn (fun (j71 : (Bool) → Option _) =>
          (getI x0 s64).bind fun y74 =>
          (m_retrospectref48_named n y74.Name).bind fun r76 =>
          bif !r76 then (
            j71 true)
          else (
            (getI x0 s64).bind fun y78 =>
            j71 (decide ((20000 : Int) < (y78.Text.length : Int))))) (fun (s73 : Bool) =>
          bif s73 then (
            some (Lp.out (Lp.out (false))))
          else (
            (loopM (fun (s87 : Int) =>
              bif decide (s87 < s64) then (
                (getI x0 s87).bind fun y88 =>
                (getI x0 s64).bind fun y90 =>
                bif decide (y88.Name = y90.Name) then (
                  some (Lp.out (Lp.out (Lp.out (Lp.out (false))))))
                else (
                  some (Lp.go (wrap64 (s87 + (1 : Int))))))
              else (
                some (Lp.out (Lp.go ())))) n (0 : Int)).bind (lpK fun (_ : Unit) =>
            some (Lp.go (wrap64 (s64 + (1 : Int))))))))
      else (
        some (Lp.out (Lp.go ())))) n (0 : Int)).bind (lpK fun (_ : Unit) =>
    some true))
def m_retrospectref48_Pack (n : Nat) (x0 : (List M_retrospectref48_Piece)) : Option ((List UInt8)) :=
  (loopM (fun (s45 : (List UInt8) × Int) =>
    bif decide (s45.2 < (x0.length : Int)) then (
      (getI x0 s45.2).bind fun y46 =>
      (catS y46.Name ([61] : List UInt8)).bind fun y48 =>
      (getI x0 s45.2).bind fun y50 =>
      (m_retrospectref20_Int n (y50.Text.length : Int)).bind fun r52 =>
      (catS y48 r52).bind fun y54 =>
      (catS y54 ([58] : List UInt8)).bind fun y56 =>
      (getI x0 s45.2).bind fun y58 =>
      (catS y56 y58.Text).bind fun y60 =>
      (catS y60 ([59] : List UInt8)).bind fun y62 =>
      (catS s45.1 y62).bind fun y64 =>
      some (Lp.go (y64, wrap64 (s45.2 + (1 : Int)))))
    else (
      some (Lp.out s45.1))) n (([] : List UInt8), (0 : Int))).bind fun (t43 : (List UInt8)) =>
  some t43
def m_retrospectlaw48_WirePacks (n : Nat) (x0 : (List M_retrospectref48_Piece)) (x1 : (List UInt8)) : Option (Bool) :=
  jn (fun (j3 : (Bool) → Option _) =>
    (m_retrospectref48_Long n x0 (40 : Int) (21000 : Int)).bind fun r6 =>
    bif r6 then (
      j3 true)
    else (
      j3 (decide ((100 : Int) < (x1.length : Int))))) (fun (s5 : Bool) =>
    bif s5 then (
      (m_retrospectlaw48_works n ).bind fun r8 =>
      some r8)
    else (
      (m_retrospectlaw48_To n x0).bind fun r10 =>
      (m_wire_Pack n r10).bind fun r12 =>
      (m_retrospectlaw48_To n x0).bind fun r14 =>
      (m_wire_Get r14 x1).bind fun r16 =>
      (loopM (fun (s44 : (List UInt8) × Bool × Int) =>
        bif decide ((0 : Int) ≤ s44.2.2) then (
          jn (fun (j49 : ((List UInt8) × Bool) → Option _) =>
            (getI x0 s44.2.2).bind fun y52 =>
            bif decide (y52.Name = x1) then (
              (getI x0 s44.2.2).bind fun y54 =>
              j49 (y54.Text, true))
            else (
              j49 (s44.1, s44.2.1))) (fun (s51 : (List UInt8) × Bool) =>
            some (Lp.go (s51.1, s51.2, wrap64 (s44.2.2 - (1 : Int))))))
        else (
          some (Lp.out (s44.1, s44.2.1)))) n (([] : List UInt8), false, wrap64 ((x0.length : Int) - (1 : Int)))).bind fun (t42 : (List UInt8) × Bool) =>
      jn (fun (j58 : (Bool) → Option _) =>
        bif !decide (r16.1 = t42.1) then (
          j58 true)
        else (
          bif (r16.2 != t42.2) then (
            j58 true)
          else (
            (m_retrospectref48_May n x0).bind fun r61 =>
            j58 (r12.2 != r61)))) (fun (s60 : Bool) =>
        bif s60 then (
          some false)
        else (
          bif !r12.2 then (
            jn (fun (j65 : (Bool) → Option _) =>
              bif decide (r12.1 = ([] : List UInt8)) then (
                (m_retrospectlaw48_works n ).bind fun r68 =>
                j65 r68)
              else (
                j65 false)) (fun (s67 : Bool) =>
              some s67))
          else (
            jn (fun (j74 : (Bool) → Option _) =>
              (m_retrospectref48_Pack n x0).bind fun r77 =>
              bif decide (r12.1 = r77) then (
                (m_retrospectlaw48_works n ).bind fun r79 =>
                j74 r79)
              else (
                j74 false)) (fun (s76 : Bool) =>
              some s76))))))
def m_retrospectlaw48_WireTells (n : Nat) (x0 : M_A4_i64) (x1 : (List UInt8)) : Option (Bool) :=
  bif decide ((200 : Int) < (x1.length : Int)) then (
    (m_retrospectlaw48_works n ).bind fun r1 =>
    some r1)
  else (
    jn (fun (j3 : (Bool) → Option _) =>
      bif decide ((0 : Int) ≤ x0.a0) then (
        j3 (decide (x0.a0 ≤ (8 : Int))))
      else (
        j3 false)) (fun (s5 : Bool) =>
      (loopM (fun (s24 : Bool × Int) =>
        bif decide (s24.2 < (4 : Int)) then (
          jn (fun (j29 : (Bool) → Option _) =>
            bif s24.1 then (
              (getI ([x0.a0, x0.a1, x0.a2, x0.a3] : List Int) s24.2).bind fun y32 =>
              bif decide ((-1000000 : Int) ≤ y32) then (
                (getI ([x0.a0, x0.a1, x0.a2, x0.a3] : List Int) s24.2).bind fun y34 =>
                j29 (decide (y34 ≤ (1000000 : Int))))
              else (
                j29 false))
            else (
              j29 false)) (fun (s31 : Bool) =>
            some (Lp.go (s31, wrap64 (s24.2 + (1 : Int))))))
        else (
          some (Lp.out s24.1))) n (s5, (1 : Int))).bind fun (t22 : Bool) =>
      (m_wire_Fault (⟨x0.a0, x0.a1, x0.a2, x0.a3⟩ : M_api_Fault)).bind fun r36 =>
      (m_wire_Unfault r36).bind fun r38 =>
      jn (fun (j40 : (Bool) → Option _) =>
        bif t22 then (
          bif !r38.2 then (
            j40 true)
          else (
            j40 (!(eqb_api_Fault r38.1 (⟨x0.a0, x0.a1, x0.a2, x0.a3⟩ : M_api_Fault)))))
        else (
          j40 false)) (fun (s42 : Bool) =>
        bif s42 then (
          some false)
        else (
          (m_wire_Unfault x1).bind fun r43 =>
          jn (fun (j51 : (Bool) → Option _) =>
            bif !r43.2 then (
              (m_retrospectlaw48_works n ).bind fun r54 =>
              j51 r54)
            else (
              (m_wire_Fault r43.1).bind fun r56 =>
              bif decide (r56 = x1) then (
                (m_retrospectlaw48_works n ).bind fun r58 =>
                j51 r58)
              else (
                j51 false))) (fun (s53 : Bool) =>
            some s53)))))
def m_retrospectref48_find (n : Nat) (x0 : (List UInt8)) (x1 : Int) (x2 : Nat) : Option (Int) :=
  (loopM (fun (s19 : Int) =>
    jn (fun (j22 : (Bool) → Option _) =>
      bif decide (s19 < (x0.length : Int)) then (
        (getS x0 s19).bind fun y25 =>
        j22 (!decide (y25 = x2)))
      else (
        j22 false)) (fun (s24 : Bool) =>
      bif s24 then (
        some (Lp.go (wrap64 (s19 + (1 : Int)))))
      else (
        some (Lp.out s19)))) n x1).bind fun (t17 : Int) =>
  some t17
def m_retrospectref07_Trim (n : Nat) (x0 : (List UInt8)) : Option ((List UInt8)) :=
  (loopM (fun (s23 : (List UInt8)) =>
    jn (fun (j26 : (Bool) → Option _) =>
      bif decide ((1 : Int) < (s23.length : Int)) then (
        (getS s23 (0 : Int)).bind fun y29 =>
        j26 (decide (y29 = 48)))
      else (
        j26 false)) (fun (s28 : Bool) =>
      bif s28 then (
        (sub s23 (1 : Int) (s23.length : Int)).bind fun y31 =>
        some (Lp.go y31))
      else (
        some (Lp.out s23)))) n x0).bind fun (t21 : (List UInt8)) =>
  some t21
def m_retrospectref48_Unpack (n : Nat) (x0 : (List UInt8)) : Option ((List M_retrospectref48_Piece) × M_A2_i64) :=
  (loopM (fun (s99 : (List M_retrospectref48_Piece) × Int) =>
    bif decide (s99.2 < (x0.length : Int)) then (
      (m_retrospectref48_find n x0 s99.2 61).bind fun r100 =>
      jn (fun (j106 : (Bool) → Option _) =>
        bif decide ((12 : Int) < (wrap64 (r100 - s99.2))) then (
          j106 true)
        else (
          (sub x0 s99.2 r100).bind fun y109 =>
          (m_retrospectref48_named n y109).bind fun r111 =>
          j106 (!r111))) (fun (s108 : Bool) =>
        bif s108 then (
          some (Lp.out (Lp.out ((([] : List M_retrospectref48_Piece), (⟨(1 : Int), s99.2⟩ : M_A2_i64))))))
        else (
          bif decide (r100 = (x0.length : Int)) then (
            some (Lp.out (Lp.out ((([] : List M_retrospectref48_Piece), (⟨(1 : Int), (x0.length : Int)⟩ : M_A2_i64))))))
          else (
            (m_retrospectref48_find n x0 (wrap64 (r100 + (1 : Int))) 58).bind fun r113 =>
            (sub x0 (wrap64 (r100 + (1 : Int))) r113).bind fun y115 =>
            jn (fun (j121 : (Bool) → Option _) =>
              bif decide (r113 = (x0.length : Int)) then (
                j121 true)
              else (
                bif decide ((5 : Int) < (y115.length : Int)) then (
                  j121 true)
                else (
                  (m_retrospectref07_Wrong n y115).bind fun r124 =>
                  bif decide ((0 : Int) ≤ r124) then (
                    j121 true)
                  else (
                    (m_retrospectref07_Trim n y115).bind fun r126 =>
                    j121 (!decide (r126 = y115)))))) (fun (s123 : Bool) =>
              bif s123 then (
                some (Lp.out (Lp.out ((([] : List M_retrospectref48_Piece), (⟨(1 : Int), wrap64 (r100 + (1 : Int))⟩ : M_A2_i64))))))
              else (
                (loopM (fun (s134 : Int × Int) =>
                  bif decide (s134.2 < (y115.length : Int)) then (
                    (getS y115 s134.2).bind fun y135 =>
                    (some (wrap64 ((wrap64 ((wrap64 ((10 : Int) * s134.1)) + (y135 : Int))) - (48 : Int)))).bind fun z137 =>
                    some (Lp.go (z137, wrap64 (s134.2 + (1 : Int)))))
                  else (
                    some (Lp.out s134.1))) n ((0 : Int), (0 : Int))).bind fun (t132 : Int) =>
                (some (decide ((x0.length : Int) < (wrap64 ((wrap64 ((wrap64 (r113 + (1 : Int))) + t132)) + (1 : Int)))))).bind fun z138 =>
                bif z138 then (
                  some (Lp.out (Lp.out ((([] : List M_retrospectref48_Piece), (⟨(1 : Int), (x0.length : Int)⟩ : M_A2_i64))))))
                else (
                  (getS x0 (wrap64 ((wrap64 (r113 + (1 : Int))) + t132))).bind fun y139 =>
                  bif !decide (y139 = 59) then (
                    some (Lp.out (Lp.out ((([] : List M_retrospectref48_Piece), (⟨(1 : Int), wrap64 ((wrap64 (r113 + (1 : Int))) + t132)⟩ : M_A2_i64))))))
                  else (
                    (sub x0 s99.2 r100).bind fun y141 =>
                    (sub x0 (wrap64 (r113 + (1 : Int))) (wrap64 ((wrap64 (r113 + (1 : Int))) + t132))).bind fun y143 =>
                    (appM 32 s99.1 ([(⟨y141, y143⟩ : M_retrospectref48_Piece)] : List M_retrospectref48_Piece)).bind fun y145 =>
                    some (Lp.go (y145, wrap64 ((wrap64 (r113 + t132)) + (2 : Int))))))))))))
    else (
      some (Lp.out (Lp.go s99.1)))) n (([] : List M_retrospectref48_Piece), (0 : Int))).bind (lpK fun (t97 : (List M_retrospectref48_Piece)) =>
  (m_retrospectref48_May n t97).bind fun r147 =>
  bif !r147 then (
    some (([] : List M_retrospectref48_Piece), (⟨(2 : Int), (0 : Int)⟩ : M_A2_i64)))
  else (
    some (t97, (⟨0, 0⟩ : M_A2_i64))))
def m_retrospectlaw48_WireUnpacks (n : Nat) (x0 : (List UInt8)) : Option (Bool) :=
  bif decide ((3000 : Int) < (x0.length : Int)) then (
    (m_retrospectlaw48_works n ).bind fun r1 =>
    some r1)
  else (
    (m_wire_Unpack n x0).bind fun r3 =>
    (m_retrospectref48_Unpack n x0).bind fun r5 =>
    jn (fun (j13 : (Bool) → Option _) =>
      (m_retrospectlaw48_Of n r3.1).bind fun r16 =>
      (m_retrospectlaw48_Same n r16 r5.1).bind fun r18 =>
      bif r18 then (
        bif (eqb_api_Fault r3.2 (⟨r5.2.a0, 0, 0, r5.2.a1⟩ : M_api_Fault)) then (
          (m_retrospectlaw48_works n ).bind fun r20 =>
          j13 r20)
        else (
          j13 false))
      else (
        j13 false)) (fun (s15 : Bool) =>
      some s15))
def m_retrospectref02_Same (n : Nat) (x0 : (List Nat)) (x1 : (List Nat)) : Option (Bool) :=
  bif !decide ((x0.length : Int) = (x1.length : Int)) then (
    some false)
  else (
    (loopM (fun (s13 : Int) =>
      bif decide (s13 < (x0.length : Int)) then (
        (getI x0 s13).bind fun y14 =>
        (getI x1 s13).bind fun y16 =>
        bif !decide (y14 = y16) then (
          some (Lp.out (Lp.out (false))))
        else (
          some (Lp.go (wrap64 (s13 + (1 : Int))))))
      else (
        some (Lp.out (Lp.go ())))) n (0 : Int)).bind (lpK fun (_ : Unit) =>
    some true))
def m_retrospectref17_Arity (x0 : Int) : Option (Int) :=
  jn (fun (j1 : (Bool) → Option _) =>
    bif decide ((1 : Int) ≤ x0) then (
      j1 (decide (x0 ≤ (5 : Int))))
    else (
      j1 false)) (fun (s3 : Bool) =>
    bif s3 then (
      some (0 : Int))
    else (
      jn (fun (j4 : (Bool) → Option _) =>
        bif decide (x0 = (6 : Int)) then (
          j4 true)
        else (
          j4 (decide (x0 = (11 : Int))))) (fun (s6 : Bool) =>
        bif s6 then (
          some (1 : Int))
        else (
          jn (fun (j7 : (Bool) → Option _) =>
            bif decide ((7 : Int) ≤ x0) then (
              j7 (decide (x0 ≤ (10 : Int))))
            else (
              j7 false)) (fun (s9 : Bool) =>
            bif s9 then (
              some (2 : Int))
            else (
              some (-1 : Int)))))))
def m_retrospectref17_Codes (n : Nat) (x0 : M_retrospectref17_Field) : Option ((List (List M_retrospectref17_Node))) :=
  (loopM (fun (s13 : (List (List M_retrospectref17_Node)) × Int) =>
    bif decide (s13.2 < (x0.Lets.length : Int)) then (
      (getI x0.Lets s13.2).bind fun y14 =>
      (appM 24 s13.1 ([y14.Code] : List (List M_retrospectref17_Node))).bind fun y16 =>
      some (Lp.go (y16, wrap64 (s13.2 + (1 : Int)))))
    else (
      some (Lp.out s13.1))) n (([] : List (List M_retrospectref17_Node)), (0 : Int))).bind fun (t11 : (List (List M_retrospectref17_Node))) =>
  (appM 24 t11 x0.Outs).bind fun y18 =>
  some y18
def m_retrospectref17_Deep : Nat → (List M_retrospectref17_Node) → Int → Option (Int × Int)
  | 0, _, _ => none
  | n + 1, x0, x1 =>
    (getI x0 x1).bind fun y1 =>
    (m_retrospectref17_Arity y1.Op).bind fun r3 =>
    (loopM (fun (s13 : Int × Int × Int) =>
      bif decide ((0 : Int) < s13.2.2) then (
        (m_retrospectref17_Deep n x0 (wrap64 (s13.2.1 - (1 : Int)))).bind fun r14 =>
        some (Lp.go (max s13.1 r14.1, r14.2, wrap64 (s13.2.2 - (1 : Int)))))
      else (
        some (Lp.out (s13.1, s13.2.1)))) n ((0 : Int), x1, r3)).bind fun (t11 : Int × Int) =>
    some (wrap64 (t11.1 + (1 : Int)), t11.2)
def m_retrospectref17_Wrong (n : Nat) (x0 : (List M_retrospectref17_Node)) : Option (Int) :=
  (loopM (fun (s19 : Int × Int) =>
    bif decide (s19.2 < (x0.length : Int)) then (
      (getI x0 s19.2).bind fun y20 =>
      (m_retrospectref17_Arity y20.Op).bind fun r22 =>
      jn (fun (j24 : (Bool) → Option _) =>
        bif decide (r22 < (0 : Int)) then (
          j24 true)
        else (
          j24 (decide (s19.1 < r22)))) (fun (s26 : Bool) =>
        bif s26 then (
          some (Lp.out (Lp.out (s19.2))))
        else (
          some (Lp.go (wrap64 ((wrap64 (s19.1 - r22)) + (1 : Int)), wrap64 (s19.2 + (1 : Int)))))))
    else (
      some (Lp.out (Lp.go s19.1)))) n ((0 : Int), (0 : Int))).bind (lpK fun (t17 : Int) =>
  bif decide (t17 = (1 : Int)) then (
    some (-1 : Int))
  else (
    some (x0.length : Int)))
def m_retrospectref17_Depth (n : Nat) (x0 : (List M_retrospectref17_Node)) : Option (Int) :=
  (m_retrospectref17_Wrong n x0).bind fun r1 =>
  bif decide ((0 : Int) ≤ r1) then (
    some (0 : Int))
  else (
    (m_retrospectref17_Deep n x0 (wrap64 ((x0.length : Int) - (1 : Int)))).bind fun r3 =>
    some r3.1)
def m_retrospectref17_Long (n : Nat) (x0 : (List M_retrospectref17_Node)) (x1 : Int) (x2 : Int) : Option (Bool) :=
  (loopM (fun (s15 : Int) =>
    jn (fun (j16 : (Bool) → Option _) =>
      bif decide (s15 < (x0.length : Int)) then (
        j16 (decide (s15 < x1)))
      else (
        j16 false)) (fun (s18 : Bool) =>
      bif s18 then (
        (getI x0 s15).bind fun y19 =>
        bif decide (x2 < (y19.N.length : Int)) then (
          some (Lp.out (Lp.out (true))))
        else (
          some (Lp.go (wrap64 (s15 + (1 : Int))))))
      else (
        some (Lp.out (Lp.go ()))))) n (0 : Int)).bind (lpK fun (_ : Unit) =>
  some (decide (x1 < (x0.length : Int))))
def m_retrospectref17_LongField (n : Nat) (x0 : M_retrospectref17_Field) (x1 : Int) (x2 : Int) (x3 : Int) : Option (Bool) :=
  jn (fun (j1 : (Bool) → Option _) =>
    bif decide (x1 < (x0.Lets.length : Int)) then (
      j1 true)
    else (
      j1 (decide (x1 < (x0.Outs.length : Int))))) (fun (s3 : Bool) =>
    bif s3 then (
      some true)
    else (
      (loopM (fun (s38 : Int) =>
        bif decide (s38 < (x0.Lets.length : Int)) then (
          jn (fun (j45 : (Bool) → Option _) =>
            (getI x0.Lets s38).bind fun y48 =>
            bif decide ((100 : Int) < (y48.Name.length : Int)) then (
              j45 true)
            else (
              (getI x0.Lets s38).bind fun y50 =>
              (m_retrospectref17_Long n y50.Code x2 x3).bind fun r52 =>
              j45 r52)) (fun (s47 : Bool) =>
            bif s47 then (
              some (Lp.out (Lp.out (true))))
            else (
              some (Lp.go (wrap64 (s38 + (1 : Int)))))))
        else (
          some (Lp.out (Lp.go ())))) n (0 : Int)).bind (lpK fun (_ : Unit) =>
      (loopM (fun (s66 : Int) =>
        bif decide (s66 < (x0.Outs.length : Int)) then (
          (getI x0.Outs s66).bind fun y67 =>
          (m_retrospectref17_Long n y67 x2 x3).bind fun r69 =>
          bif r69 then (
            some (Lp.out (Lp.out (true))))
          else (
            some (Lp.go (wrap64 (s66 + (1 : Int))))))
        else (
          some (Lp.out (Lp.go ())))) n (0 : Int)).bind (lpK fun (_ : Unit) =>
      some false))))
def m_retrospectref17_Size (n : Nat) (x0 : M_retrospectref17_Field) : Option (Int) :=
  (m_retrospectref17_Codes n x0).bind fun r1 =>
  (loopM (fun (s11 : Int × Int) =>
    bif decide (s11.2 < (r1.length : Int)) then (
      (getI r1 s11.2).bind fun y12 =>
      some (Lp.go (wrap64 (s11.1 + (y12.length : Int)), wrap64 (s11.2 + (1 : Int)))))
    else (
      some (Lp.out s11.1))) n ((0 : Int), (0 : Int))).bind fun (t9 : Int) =>
  some t9
def m_tree_Arity (x0 : Int) : Option (Int) :=
  jn (fun (j1 : (Bool) → Option _) =>
    bif decide (x0 = (1 : Int)) then (
      j1 (decide (x0 = (1 : Int))))
    else (
      bif decide (x0 = (2 : Int)) then (
        j1 (decide (x0 = (2 : Int))))
      else (
        bif decide (x0 = (3 : Int)) then (
          j1 (decide (x0 = (3 : Int))))
        else (
          bif decide (x0 = (4 : Int)) then (
            j1 (decide (x0 = (4 : Int))))
          else (
            j1 (decide (x0 = (5 : Int)))))))) (fun (s3 : Bool) =>
    bif s3 then (
      some (0 : Int))
    else (
      jn (fun (j4 : (Bool) → Option _) =>
        bif decide (x0 = (6 : Int)) then (
          j4 (decide (x0 = (6 : Int))))
        else (
          j4 (decide (x0 = (11 : Int))))) (fun (s6 : Bool) =>
        bif s6 then (
          some (1 : Int))
        else (
          jn (fun (j7 : (Bool) → Option _) =>
            bif decide (x0 = (7 : Int)) then (
              j7 (decide (x0 = (7 : Int))))
            else (
              bif decide (x0 = (8 : Int)) then (
                j7 (decide (x0 = (8 : Int))))
              else (
                bif decide (x0 = (9 : Int)) then (
                  j7 (decide (x0 = (9 : Int))))
                else (
                  j7 (decide (x0 = (10 : Int))))))) (fun (s9 : Bool) =>
            bif s9 then (
              some (2 : Int))
            else (
              some (-1 : Int)))))))
def m_tree_copied (x0 : (List M_tree_Node)) : Option ((List M_tree_Node)) :=
  (rangeL (fun (_ : Nat) (x20 : M_tree_Node) (s18 : (List M_tree_Node)) =>
    (appM 4 ([] : List Nat) x20.N).bind fun y22 =>
    (appM 40 s18 ([(⟨x20.Op, x20.I, y22⟩ : M_tree_Node)] : List M_tree_Node)).bind fun y24 =>
    some (Lp.go y24)) x0 0 ([] : List M_tree_Node)).bind (lpK fun (s26 : (List M_tree_Node)) =>
  some s26)
def m_tree_Codes (x0 : M_tree_Field) : Option ((List (List M_tree_Node))) :=
  (rangeL (fun (_ : Nat) (x20 : M_tree_Let) (s18 : (List (List M_tree_Node))) =>
    (m_tree_copied x20.Code).bind fun r22 =>
    (appM 24 s18 ([r22] : List (List M_tree_Node))).bind fun y24 =>
    some (Lp.go y24)) x0.Lets 0 ([] : List (List M_tree_Node))).bind (lpK fun (s26 : (List (List M_tree_Node))) =>
  (rangeL (fun (_ : Nat) (x46 : (List M_tree_Node)) (s44 : (List (List M_tree_Node))) =>
    (m_tree_copied x46).bind fun r48 =>
    (appM 24 s44 ([r48] : List (List M_tree_Node))).bind fun y50 =>
    some (Lp.go y50)) x0.Outs 0 s26).bind (lpK fun (s52 : (List (List M_tree_Node))) =>
  some s52))
def m_tree_Wrong (x0 : (List M_tree_Node)) : Option (Int) :=
  (rangeL (fun (i21 : Nat) (x22 : M_tree_Node) (s20 : Int) =>
    (m_tree_Arity x22.Op).bind fun r24 =>
    jn (fun (j26 : (Bool) → Option _) =>
      bif decide (r24 < (0 : Int)) then (
        j26 true)
      else (
        j26 (decide (s20 < r24)))) (fun (s28 : Bool) =>
      bif s28 then (
        some (Lp.out ((i21 : Int))))
      else (
        some (Lp.go (wrap64 (s20 + (wrap64 ((1 : Int) - r24)))))))) x0 0 (0 : Int)).bind (lpK fun (s29 : Int) =>
  bif !decide (s29 = (1 : Int)) then (
    some (x0.length : Int))
  else (
    some (-1 : Int)))
def m_tree_Right (x0 : (List M_tree_Node)) : Option (Bool) :=
  (m_tree_Wrong x0).bind fun r1 =>
  some (decide (r1 < (0 : Int)))
def m_tree_Depth (n : Nat) (x0 : (List M_tree_Node)) : Option (Int) :=
  (m_tree_Right x0).bind fun r1 =>
  bif !r1 then (
    some (0 : Int))
  else (
    (rangeL (fun (_ : Nat) (x51 : M_tree_Node) (s49 : (List Int)) =>
      (m_tree_Arity x51.Op).bind fun r53 =>
      (loopM (fun (s62 : (List Int) × Int × Int) =>
        bif decide (s62.2.2 < r53) then (
          (getI s62.1 (wrap64 ((s62.1.length : Int) - (1 : Int)))).bind fun y63 =>
          (sub s62.1 (0 : Int) (wrap64 ((s62.1.length : Int) - (1 : Int)))).bind fun y65 =>
          some (Lp.go (y65, max s62.2.1 y63, wrap64 (s62.2.2 + (1 : Int)))))
        else (
          some (Lp.out (s62.1, s62.2.1)))) n (s49, (0 : Int), (0 : Int))).bind fun (t60 : (List Int) × Int) =>
      (appM 8 t60.1 ([wrap64 (t60.2 + (1 : Int))] : List Int)).bind fun y67 =>
      some (Lp.go y67)) x0 0 ([] : List Int)).bind (lpK fun (s69 : (List Int)) =>
    (getI s69 (0 : Int)).bind fun y70 =>
    some y70))
def m_tree_Size (x0 : M_tree_Field) : Option (Int) :=
  (m_tree_Codes x0).bind fun r1 =>
  (rangeL (fun (_ : Nat) (x14 : (List M_tree_Node)) (s12 : Int) =>
    some (Lp.go (wrap64 (s12 + (x14.length : Int))))) r1 0 (0 : Int)).bind (lpK fun (s16 : Int) =>
  some s16)
end Go.Proofs.YtiobbiamnjapgaaGreatDoor
