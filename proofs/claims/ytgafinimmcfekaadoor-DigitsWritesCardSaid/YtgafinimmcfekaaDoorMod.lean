import Derived.Test.YtgafinimmcfekaaDoorLib
set_option maxRecDepth 100000
set_option maxHeartbeats 4000000
namespace Go.Proofs.YtgafinimmcfekaaDoor
open Go Go.RowKit
structure M_api_Fault where
  Kind : Int
  Step : Int
  Stage : Int
  At : Int
structure M_A9_u8 where
  a0 : Nat
  a1 : Nat
  a2 : Nat
  a3 : Nat
  a4 : Nat
  a5 : Nat
  a6 : Nat
  a7 : Nat
  a8 : Nat
def ofl_A9_u8 : List Nat → M_A9_u8
  | [a0, a1, a2, a3, a4, a5, a6, a7, a8] => ⟨a0, a1, a2, a3, a4, a5, a6, a7, a8⟩
  | _ => (⟨0, 0, 0, 0, 0, 0, 0, 0, 0⟩ : M_A9_u8)
def eqb_api_Fault (x y : M_api_Fault) : Bool := ((x.Kind == y.Kind) && ((x.Step == y.Step) && ((x.Stage == y.Stage) && ((x.At == y.At) && true))))
def B_S_u32 (xs : List Nat) : Prop := xs.length ≤ maxLen ∧ ∀ x ∈ xs, (x < 4294967296)
def m_digits_wrong (n : Nat) (x0 : (List UInt8)) : Option (Int) :=
  (loopM (fun (s27 : Int) =>
    bif decide (s27 < (x0.length : Int)) then (
      jn (fun (j32 : (Bool) → Option _) =>
        (getS x0 s27).bind fun y35 =>
        bif decide (y35 < 48) then (
          j32 true)
        else (
          (getS x0 s27).bind fun y37 =>
          bif decide (57 < y37) then (
            j32 true)
          else (
            j32 (decide (s27 = (60 : Int)))))) (fun (s34 : Bool) =>
        bif s34 then (
          some (Lp.out (Lp.out (s27))))
        else (
          some (Lp.go (wrap64 (s27 + (1 : Int)))))))
    else (
      some (Lp.out (Lp.go ())))) n (0 : Int)).bind (lpK fun (t25 : Unit) =>
  bif decide (x0 = ([] : List UInt8)) then (
    some (0 : Int))
  else (
    some (-1 : Int)))
def m_limb_Mul (x0 : Nat) (x1 : Nat) (x2 : Nat) (x3 : Nat) : Option (Nat × Nat) :=
  (some (((((((x0 * x1) % 18446744073709551616) + x2) % 18446744073709551616) + x3) % 18446744073709551616))).bind fun z1 =>
  some (((z1 / 2 ^ 32) % 4294967296), (z1 % 4294967296))
def m_prod_row (x0 : (List Nat)) (x1 : Int) (x2 : (List Nat)) (x3 : Nat) (x4 : Nat) : Option ((List Nat)) :=
  (rangeL (fun (i23 : Nat) (x24 : Nat) (s22 : (List Nat) × Nat) =>
    (getI s22.1 (wrap64 (x1 + (i23 : Int)))).bind fun y26 =>
    (m_limb_Mul x3 x24 y26 s22.2).bind fun r28 =>
    (getI s22.1 (wrap64 (x1 + (i23 : Int)))).bind fun y30 =>
    some (Lp.go ((List.set s22.1 (Int.toNat (wrap64 (x1 + (i23 : Int)))) r28.2), r28.1))) x2 0 (x0, x4)).bind (lpK fun (s32 : (List Nat) × Nat) =>
  (getI s32.1 (wrap64 (x1 + (x2.length : Int)))).bind fun y33 =>
  some (List.set s32.1 (Int.toNat (wrap64 (x1 + (x2.length : Int)))) s32.2))
def m_nat_trim (n : Nat) (x0 : (List Nat)) : Option ((List Nat)) :=
  (loopM (fun (s19 : Int) =>
    jn (fun (j22 : (Bool) → Option _) =>
      bif decide ((0 : Int) < s19) then (
        (getI x0 (wrap64 (s19 - (1 : Int)))).bind fun y25 =>
        j22 (decide (y25 = 0)))
      else (
        j22 false)) (fun (s24 : Bool) =>
      bif s24 then (
        some (Lp.go (wrap64 (s19 - (1 : Int)))))
      else (
        some (Lp.out s19)))) n (x0.length : Int)).bind fun (t17 : Int) =>
  (sub x0 (0 : Int) t17).bind fun y27 =>
  some y27
def m_nat_fresh (x0 : (List Nat)) (x1 : Int) : Option ((List Nat)) :=
  (mkM 4 (0 : Nat) (wrap64 ((x0.length : Int) + x1))).bind fun y1 =>
  some (cpyL y1 x0)
def m_nat_Norm (n : Nat) (x0 : (List Nat)) : Option ((List Nat)) :=
  (m_nat_trim n x0).bind fun r1 =>
  (m_nat_fresh r1 (0 : Int)).bind fun r3 =>
  some r3
def m_prod_Word (n : Nat) (x0 : (List Nat)) (x1 : Nat) (x2 : Nat) : Option ((List Nat)) :=
  (mkM 4 (0 : Nat) (wrap64 ((x0.length : Int) + (1 : Int)))).bind fun y1 =>
  (m_prod_row y1 (0 : Int) x0 x1 x2).bind fun r3 =>
  (m_nat_Norm n r3).bind fun r5 =>
  some r5
def m_digits_Read (n : Nat) (x0 : (List UInt8)) : Option ((List Nat) × M_api_Fault) :=
  (m_digits_wrong n x0).bind fun r1 =>
  bif decide ((0 : Int) ≤ r1) then (
    some (([] : List Nat), (⟨(1 : Int), 0, 0, r1⟩ : M_api_Fault)))
  else (
    (loopM (fun (s49 : (List Nat) × Int) =>
      bif decide (s49.2 < (x0.length : Int)) then (
        (loopM (fun (s59 : Int × Nat × Nat × Int) =>
          jn (fun (j60 : (Bool) → Option _) =>
            bif decide (s59.2.2.2 < (9 : Int)) then (
              j60 (decide (s59.1 < (x0.length : Int))))
            else (
              j60 false)) (fun (s62 : Bool) =>
            bif s62 then (
              (getS x0 s59.1).bind fun y63 =>
              (some (((((s59.2.1 * 10) % 4294967296) + ((y63 + 256 - 48) % 256)) % 4294967296))).bind fun z65 =>
              some (Lp.go (wrap64 (s59.1 + (1 : Int)), z65, ((s59.2.2.1 * 10) % 4294967296), wrap64 (s59.2.2.2 + (1 : Int)))))
            else (
              some (Lp.out (s59.1, s59.2.1, s59.2.2.1))))) n (s49.2, 0, 1, (0 : Int))).bind fun (t57 : Int × Nat × Nat) =>
        (m_prod_Word n s49.1 t57.2.2 t57.2.1).bind fun r66 =>
        some (Lp.go (r66, t57.1)))
      else (
        some (Lp.out s49.1))) n (([] : List Nat), (0 : Int))).bind fun (t47 : (List Nat)) =>
    some (t47, (⟨0, 0, 0, 0⟩ : M_api_Fault)))
def m_nat_Of (n : Nat) (x0 : Nat) : Option ((List Nat)) :=
  (m_nat_trim n ([(x0 % 4294967296), ((x0 / 2 ^ 32) % 4294967296)] : List Nat)).bind fun r1 =>
  some r1
def m_nat_Zero (n : Nat) (x0 : (List Nat)) : Option (Bool) :=
  (m_nat_trim n x0).bind fun r1 =>
  some (decide ((r1.length : Int) = (0 : Int)))
def m_limb_Div (x0 : Nat) (x1 : Nat) (x2 : Nat) : Option (Nat × Nat × Bool) :=
  bif decide (x2 ≤ x0) then (
    some (0, 0, false))
  else (
    (grd (x2 != 0)).bind fun _ =>
    (grd (x2 != 0)).bind fun _ =>
    some ((((((x0 * 2 ^ 32) % 18446744073709551616) ||| x1) / x2) % 4294967296), (((((x0 * 2 ^ 32) % 18446744073709551616) ||| x1) % x2) % 4294967296), true))
def m_quot_Word (n : Nat) (x0 : (List Nat)) (x1 : Nat) : Option ((List Nat) × Nat × Bool) :=
  bif decide (x1 = 0) then (
    some (([] : List Nat), 0, false))
  else (
    (mkM 4 (0 : Nat) (x0.length : Int)).bind fun y1 =>
    (loopM (fun (s20 : (List Nat) × Nat × Int) =>
      bif decide ((0 : Int) ≤ s20.2.2) then (
        (getI x0 s20.2.2).bind fun y21 =>
        (m_limb_Div s20.2.1 y21 x1).bind fun r23 =>
        (getI s20.1 s20.2.2).bind fun y25 =>
        some (Lp.go ((List.set s20.1 (Int.toNat s20.2.2) r23.1), r23.2.1, wrap64 (s20.2.2 - (1 : Int)))))
      else (
        some (Lp.out (s20.1, s20.2.1)))) n (y1, 0, wrap64 ((x0.length : Int) - (1 : Int)))).bind fun (t18 : (List Nat) × Nat) =>
    (m_nat_Norm n t18.1).bind fun r27 =>
    some (r27, t18.2, true))
def m_digits_nine (n : Nat) (x0 : Nat) : Option ((List UInt8)) :=
  (loopM (fun (s7 : Nat × M_A9_u8 × Int) =>
    bif decide ((0 : Int) ≤ s7.2.2) then (
      (getI ([s7.2.1.a0, s7.2.1.a1, s7.2.1.a2, s7.2.1.a3, s7.2.1.a4, s7.2.1.a5, s7.2.1.a6, s7.2.1.a7, s7.2.1.a8] : List Nat) s7.2.2).bind fun y8 =>
      some (Lp.go ((s7.1 / 10), (ofl_A9_u8 (List.set ([s7.2.1.a0, s7.2.1.a1, s7.2.1.a2, s7.2.1.a3, s7.2.1.a4, s7.2.1.a5, s7.2.1.a6, s7.2.1.a7, s7.2.1.a8] : List Nat) (Int.toNat s7.2.2) (((48 + (s7.1 % 10)) % 4294967296) % 256))), wrap64 (s7.2.2 - (1 : Int)))))
    else (
      some (Lp.out s7.2.1))) n (x0, (⟨0, 0, 0, 0, 0, 0, 0, 0, 0⟩ : M_A9_u8), (8 : Int))).bind fun (t5 : M_A9_u8) =>
  (some (([t5.a0, t5.a1, t5.a2, t5.a3, t5.a4, t5.a5, t5.a6, t5.a7, t5.a8] : List Nat))).bind fun z10 =>
  some (bS z10)
def m_digits_Text (n : Nat) (x0 : (List Nat)) : Option ((List UInt8)) :=
  (m_nat_Zero n x0).bind fun r1 =>
  bif r1 then (
    some ([48] : List UInt8))
  else (
    (loopM (fun (s23 : (List Nat) × (List (List UInt8))) =>
      (m_nat_Zero n s23.1).bind fun r24 =>
      bif !r24 then (
        (m_quot_Word n s23.1 1000000000).bind fun r26 =>
        (m_digits_nine n r26.2.1).bind fun r28 =>
        (appM 16 s23.2 ([r28] : List (List UInt8))).bind fun y30 =>
        some (Lp.go (r26.1, y30)))
      else (
        some (Lp.out s23.2))) n (x0, ([] : List (List UInt8)))).bind fun (t21 : (List (List UInt8))) =>
    (loopM (fun (s44 : (List UInt8) × Int) =>
      bif decide ((0 : Int) ≤ s44.2) then (
        (getI t21 s44.2).bind fun y45 =>
        (appM 1 s44.1 y45).bind fun y47 =>
        some (Lp.go (y47, wrap64 (s44.2 - (1 : Int)))))
      else (
        some (Lp.out s44.1))) n (([] : List UInt8), wrap64 ((t21.length : Int) - (1 : Int)))).bind fun (t42 : (List UInt8)) =>
    (m_strings_TrimLeft t42 ([48] : List UInt8)).bind fun r49 =>
    some r49)
def m_retrospectref02_Same (n : Nat) (x0 : (List Nat)) (x1 : (List Nat)) : Option (Bool) :=
  bif !decide ((x0.length : Int) = (x1.length : Int)) then (
    some false)
  else (
    (loopM (fun (s13 : Int) =>
      bif decide (s13 < (x0.length : Int)) then (
        (getI x0 s13).bind fun y14 =>
        (getI x1 s13).bind fun y16 =>
        bif !decide (y14 = y16) then (
          some (Lp.out (Lp.out (false))))
        else (
          some (Lp.go (wrap64 (s13 + (1 : Int))))))
      else (
        some (Lp.out (Lp.go ())))) n (0 : Int)).bind (lpK fun (t11 : Unit) =>
    some true))
def m_retrospectlaw07_works (n : Nat)  : Option (Bool) :=
  (m_digits_Read n ([48, 48, 55] : List UInt8)).bind fun r1 =>
  (m_digits_Read n ([49, 50, 120] : List UInt8)).bind fun r3 =>
  jn (fun (j11 : (Bool) → Option _) =>
    (m_nat_Of n 4294967296).bind fun r14 =>
    (m_digits_Text n r14).bind fun r16 =>
    bif decide (r16 = ([52, 50, 57, 52, 57, 54, 55, 50, 57, 54] : List UInt8)) then (
      (m_retrospectref02_Same n r1.1 ([7] : List Nat)).bind fun r18 =>
      bif r18 then (
        bif (eqb_api_Fault r1.2 (⟨0, 0, 0, 0⟩ : M_api_Fault)) then (
          j11 (eqb_api_Fault r3.2 (⟨(1 : Int), 0, 0, (2 : Int)⟩ : M_api_Fault)))
        else (
          j11 false))
      else (
        j11 false))
    else (
      j11 false)) (fun (s13 : Bool) =>
    some s13)
def m_retrospectref07_Wrong (n : Nat) (x0 : (List UInt8)) : Option (Int) :=
  bif decide (x0 = ([] : List UInt8)) then (
    some (0 : Int))
  else (
    (loopM (fun (s27 : Int) =>
      bif decide (s27 < (x0.length : Int)) then (
        jn (fun (j32 : (Bool) → Option _) =>
          (getS x0 s27).bind fun y35 =>
          bif decide (y35 < 48) then (
            j32 true)
          else (
            (getS x0 s27).bind fun y37 =>
            bif decide (57 < y37) then (
              j32 true)
            else (
              j32 (decide ((60 : Int) ≤ s27))))) (fun (s34 : Bool) =>
          bif s34 then (
            some (Lp.out (Lp.out (s27))))
          else (
            some (Lp.go (wrap64 (s27 + (1 : Int)))))))
      else (
        some (Lp.out (Lp.go ())))) n (0 : Int)).bind (lpK fun (t25 : Unit) =>
    some (-1 : Int)))
def m_retrospectref02_Norm (n : Nat) (x0 : (List Nat)) : Option ((List Nat)) :=
  (loopM (fun (s19 : Int) =>
    jn (fun (j22 : (Bool) → Option _) =>
      bif decide ((0 : Int) < s19) then (
        (getI x0 (wrap64 (s19 - (1 : Int)))).bind fun y25 =>
        j22 (decide (y25 = 0)))
      else (
        j22 false)) (fun (s24 : Bool) =>
      bif s24 then (
        some (Lp.go (wrap64 (s19 - (1 : Int)))))
      else (
        some (Lp.out s19)))) n (x0.length : Int)).bind fun (t17 : Int) =>
  (sub x0 (0 : Int) t17).bind fun y27 =>
  (appM 4 ([] : List Nat) y27).bind fun y29 =>
  some y29
def m_retrospectref04_Mul (n : Nat) (x0 : (List Nat)) (x1 : (List Nat)) : Option ((List Nat)) :=
  (mkM 4 (0 : Nat) (wrap64 ((x0.length : Int) + (x1.length : Int)))).bind fun y1 =>
  (loopM (fun (s77 : (List Nat) × Int) =>
    bif decide (s77.2 < (x0.length : Int)) then (
      (loopM (fun (s92 : (List Nat) × Nat × Int) =>
        bif decide (s92.2.2 < (x1.length : Int)) then (
          (getI x0 s77.2).bind fun y93 =>
          (getI x1 s92.2.2).bind fun y95 =>
          (getI s92.1 (wrap64 (s77.2 + s92.2.2))).bind fun y97 =>
          (some (((s92.2.1 + ((((y93 * y95) % 18446744073709551616) + y97) % 18446744073709551616)) % 18446744073709551616))).bind fun z99 =>
          (some (((s92.2.1 + ((((y93 * y95) % 18446744073709551616) + y97) % 18446744073709551616)) % 18446744073709551616))).bind fun z100 =>
          (getI s92.1 (wrap64 (s77.2 + s92.2.2))).bind fun y101 =>
          (some ((List.set s92.1 (Int.toNat (wrap64 (s77.2 + s92.2.2))) ((z99 % 4294967296) % 4294967296)))).bind fun z103 =>
          some (Lp.go (z103, (z99 / 4294967296), wrap64 (s92.2.2 + (1 : Int)))))
        else (
          some (Lp.out (s92.1, s92.2.1)))) n (s77.1, 0, (0 : Int))).bind fun (t90 : (List Nat) × Nat) =>
      (getI t90.1 (wrap64 (s77.2 + (x1.length : Int)))).bind fun y104 =>
      (some ((List.set t90.1 (Int.toNat (wrap64 (s77.2 + (x1.length : Int)))) (t90.2 % 4294967296)))).bind fun z106 =>
      some (Lp.go (z106, wrap64 (s77.2 + (1 : Int)))))
    else (
      some (Lp.out s77.1))) n (y1, (0 : Int))).bind fun (t75 : (List Nat)) =>
  (m_retrospectref02_Norm n t75).bind fun r107 =>
  some r107
def m_retrospectref02_At (x0 : (List Nat)) (x1 : Int) : Option (Nat) :=
  bif decide (x1 < (x0.length : Int)) then (
    (getI x0 x1).bind fun y1 =>
    some y1)
  else (
    some 0)
def m_retrospectref02_Add (n : Nat) (x0 : (List Nat)) (x1 : (List Nat)) : Option ((List Nat)) :=
  (mkM 4 (0 : Nat) (wrap64 ((max (x0.length : Int) (x1.length : Int)) + (1 : Int)))).bind fun y1 =>
  (loopM (fun (s24 : (List Nat) × Nat × Int) =>
    (some (decide (s24.2.2 < (wrap64 ((max (x0.length : Int) (x1.length : Int)) + (1 : Int)))))).bind fun z25 =>
    bif z25 then (
      (m_retrospectref02_At x0 s24.2.2).bind fun r26 =>
      (m_retrospectref02_At x1 s24.2.2).bind fun r28 =>
      (some (((s24.2.1 + ((r26 + r28) % 18446744073709551616)) % 18446744073709551616))).bind fun z30 =>
      (getI s24.1 s24.2.2).bind fun y31 =>
      some (Lp.go ((List.set s24.1 (Int.toNat s24.2.2) ((z30 % 4294967296) % 4294967296)), (z30 / 4294967296), wrap64 (s24.2.2 + (1 : Int)))))
    else (
      some (Lp.out s24.1))) n (y1, 0, (0 : Int))).bind fun (t22 : (List Nat)) =>
  (m_retrospectref02_Norm n t22).bind fun r33 =>
  some r33
def m_retrospectref07_Read (n : Nat) (x0 : (List UInt8)) : Option ((List Nat)) :=
  (loopM (fun (s28 : (List Nat) × Int) =>
    bif decide (s28.2 < (x0.length : Int)) then (
      (m_retrospectref04_Mul n s28.1 ([10] : List Nat)).bind fun r29 =>
      (getS x0 s28.2).bind fun y31 =>
      (m_retrospectref02_Add n r29 ([((y31 + 4294967296 - 48) % 4294967296)] : List Nat)).bind fun r33 =>
      some (Lp.go (r33, wrap64 (s28.2 + (1 : Int)))))
    else (
      some (Lp.out s28.1))) n (([] : List Nat), (0 : Int))).bind fun (t26 : (List Nat)) =>
  some t26
def m_retrospectlaw07_DigitsReads (n : Nat) (x0 : (List UInt8)) : Option (Bool) :=
  bif decide ((500 : Int) < (x0.length : Int)) then (
    (m_retrospectlaw07_works n ).bind fun r1 =>
    some r1)
  else (
    (m_digits_Read n x0).bind fun r3 =>
    (m_retrospectref07_Wrong n x0).bind fun r5 =>
    bif decide ((0 : Int) ≤ r5) then (
      jn (fun (j9 : (Bool) → Option _) =>
        bif decide ((r3.1.length : Int) = (0 : Int)) then (
          bif (eqb_api_Fault r3.2 (⟨(1 : Int), 0, 0, r5⟩ : M_api_Fault)) then (
            (m_retrospectlaw07_works n ).bind fun r12 =>
            j9 r12)
          else (
            j9 false))
        else (
          j9 false)) (fun (s11 : Bool) =>
        some s11))
    else (
      jn (fun (j20 : (Bool) → Option _) =>
        (m_retrospectref07_Read n x0).bind fun r23 =>
        (m_retrospectref02_Same n r3.1 r23).bind fun r25 =>
        bif r25 then (
          bif (eqb_api_Fault r3.2 (⟨0, 0, 0, 0⟩ : M_api_Fault)) then (
            (m_retrospectlaw07_works n ).bind fun r27 =>
            j20 r27)
          else (
            j20 false))
        else (
          j20 false)) (fun (s22 : Bool) =>
        some s22)))
def m_retrospectref07_ten (n : Nat) (x0 : (List Nat)) : Option (Nat × (List Nat)) :=
  (loopM (fun (s16 : (List Nat) × Nat × Int) =>
    bif decide ((0 : Int) ≤ s16.2.2) then (
      (getI s16.1 s16.2.2).bind fun y17 =>
      (some (((((s16.2.1 * 4294967296) % 18446744073709551616) + y17) % 18446744073709551616))).bind fun z19 =>
      (getI s16.1 s16.2.2).bind fun y20 =>
      some (Lp.go ((List.set s16.1 (Int.toNat s16.2.2) ((z19 / 10) % 4294967296)), (z19 % 10), wrap64 (s16.2.2 - (1 : Int)))))
    else (
      some (Lp.out (s16.1, s16.2.1)))) n (x0, 0, wrap64 ((x0.length : Int) - (1 : Int)))).bind fun (t14 : (List Nat) × Nat) =>
  some (t14.2, t14.1)
def m_retrospectref07_Text (n : Nat) (x0 : (List Nat)) : Option ((List UInt8)) :=
  (m_retrospectref02_Norm n x0).bind fun r1 =>
  (loopM (fun (s29 : (List Nat) × (List UInt8)) =>
    jn (fun (j30 : (Bool) → Option _) =>
      bif decide ((0 : Int) < (s29.1.length : Int)) then (
        j30 true)
      else (
        j30 (decide (s29.2 = ([] : List UInt8))))) (fun (s32 : Bool) =>
      bif s32 then (
        (m_retrospectref07_ten n s29.1).bind fun r33 =>
        (sub ([48, 49, 50, 51, 52, 53, 54, 55, 56, 57] : List UInt8) (r33.1 : Int) (((r33.1 + 1) % 18446744073709551616) : Int)).bind fun y35 =>
        (catS y35 s29.2).bind fun y37 =>
        (m_retrospectref02_Norm n r33.2).bind fun r39 =>
        some (Lp.go (r39, y37)))
      else (
        some (Lp.out s29.2)))) n (r1, ([] : List UInt8))).bind fun (t27 : (List UInt8)) =>
  some t27
def m_digits_Len (n : Nat) (x0 : (List Nat)) : Option (Int) :=
  (m_digits_Text n x0).bind fun r1 =>
  some (r1.length : Int)
def m_retrospectlaw07_DigitsWrites (n : Nat) (x0 : (List Nat)) : Option (Bool) :=
  bif decide ((40 : Int) < (x0.length : Int)) then (
    (m_retrospectlaw07_works n ).bind fun r1 =>
    some r1)
  else (
    (m_retrospectref07_Text n x0).bind fun r3 =>
    jn (fun (j11 : (Bool) → Option _) =>
      (m_digits_Text n x0).bind fun r14 =>
      bif decide (r14 = r3) then (
        (m_digits_Len n x0).bind fun r16 =>
        bif decide (r16 = (r3.length : Int)) then (
          (m_retrospectlaw07_works n ).bind fun r18 =>
          j11 r18)
        else (
          j11 false))
      else (
        j11 false)) (fun (s13 : Bool) =>
      some s13))
def m_nat_Cmp (n : Nat) (x0 : (List Nat)) (x1 : (List Nat)) : Option (Int) :=
  (m_nat_trim n x0).bind fun r1 =>
  (m_nat_trim n x1).bind fun r3 =>
  bif decide ((r1.length : Int) < (r3.length : Int)) then (
    some (-1 : Int))
  else (
    bif decide ((r3.length : Int) < (r1.length : Int)) then (
      some (1 : Int))
    else (
      (loopM (fun (s25 : Int) =>
        bif decide ((0 : Int) ≤ s25) then (
          (getI r1 s25).bind fun y26 =>
          (getI r3 s25).bind fun y28 =>
          bif decide (y26 < y28) then (
            some (Lp.out (Lp.out ((-1 : Int)))))
          else (
            (getI r1 s25).bind fun y30 =>
            (getI r3 s25).bind fun y32 =>
            bif decide (y32 < y30) then (
              some (Lp.out (Lp.out ((1 : Int)))))
            else (
              some (Lp.go (wrap64 (s25 - (1 : Int)))))))
        else (
          some (Lp.out (Lp.go ())))) n (wrap64 ((r1.length : Int) - (1 : Int)))).bind (lpK fun (t23 : Unit) =>
      some (0 : Int))))
def m_retrospectref07_Trim (n : Nat) (x0 : (List UInt8)) : Option ((List UInt8)) :=
  (loopM (fun (s23 : (List UInt8)) =>
    jn (fun (j26 : (Bool) → Option _) =>
      bif decide ((1 : Int) < (s23.length : Int)) then (
        (getS s23 (0 : Int)).bind fun y29 =>
        j26 (decide (y29 = 48)))
      else (
        j26 false)) (fun (s28 : Bool) =>
      bif s28 then (
        (sub s23 (1 : Int) (s23.length : Int)).bind fun y31 =>
        some (Lp.go y31))
      else (
        some (Lp.out s23)))) n x0).bind fun (t21 : (List UInt8)) =>
  some t21
def m_retrospectlaw07_DigitsBack (n : Nat) (x0 : (List Nat)) (x1 : (List UInt8)) : Option (Bool) :=
  jn (fun (j1 : (Bool) → Option _) =>
    bif decide ((8 : Int) < (x0.length : Int)) then (
      j1 true)
    else (
      j1 (decide ((200 : Int) < (x1.length : Int))))) (fun (s3 : Bool) =>
    bif s3 then (
      (m_retrospectlaw07_works n ).bind fun r4 =>
      some r4)
    else (
      (m_digits_Text n x0).bind fun r6 =>
      (m_digits_Read n r6).bind fun r8 =>
      jn (fun (j12 : (Bool) → Option _) =>
        bif decide ((r6.length : Int) ≤ (60 : Int)) then (
          bif !(eqb_api_Fault r8.2 (⟨0, 0, 0, 0⟩ : M_api_Fault)) then (
            j12 true)
          else (
            (m_nat_Cmp n r8.1 x0).bind fun r15 =>
            bif !decide (r15 = (0 : Int)) then (
              j12 true)
            else (
              bif decide ((60 : Int) < (r6.length : Int)) then (
                j12 (!(eqb_api_Fault r8.2 (⟨(1 : Int), 0, 0, (60 : Int)⟩ : M_api_Fault))))
              else (
                j12 false))))
        else (
          bif decide ((60 : Int) < (r6.length : Int)) then (
            j12 (!(eqb_api_Fault r8.2 (⟨(1 : Int), 0, 0, (60 : Int)⟩ : M_api_Fault))))
          else (
            j12 false))) (fun (s14 : Bool) =>
        bif s14 then (
          some false)
        else (
          (m_digits_Read n x1).bind fun r17 =>
          jn (fun (j27 : (Bool) → Option _) =>
            bif !decide (r17.2.Kind = (0 : Int)) then (
              (m_retrospectlaw07_works n ).bind fun r30 =>
              j27 r30)
            else (
              (m_digits_Text n r17.1).bind fun r32 =>
              (m_retrospectref07_Trim n x1).bind fun r34 =>
              bif decide (r32 = r34) then (
                (m_retrospectlaw07_works n ).bind fun r36 =>
                j27 r36)
              else (
                j27 false))) (fun (s29 : Bool) =>
            some s29)))))
end Go.Proofs.YtgafinimmcfekaaDoor
