import Derived.Test.YtiobbiamnjapgaaDoorLibM
set_option maxRecDepth 100000
set_option maxHeartbeats 4000000
namespace Go.Proofs.YtiobbiamnjapgaaDoor
open Go Go.RowKit
structure M_api_Fault where
  Kind : Int
  Step : Int
  Stage : Int
  At : Int
structure M_A9_u8 where
  a0 : Nat
  a1 : Nat
  a2 : Nat
  a3 : Nat
  a4 : Nat
  a5 : Nat
  a6 : Nat
  a7 : Nat
  a8 : Nat
def ofl_A9_u8 : List Nat → M_A9_u8
  | [a0, a1, a2, a3, a4, a5, a6, a7, a8] => ⟨a0, a1, a2, a3, a4, a5, a6, a7, a8⟩
  | _ => (⟨0, 0, 0, 0, 0, 0, 0, 0, 0⟩ : M_A9_u8)
structure M_whole_Whole where
  Neg : Bool
  Abs : (List Nat)
structure M_frac_Frac where
  Num : M_whole_Whole
  Den : (List Nat)
structure M_lex_Word where
  Kind : Int
  Text : (List UInt8)
  At : Int
structure M_retrospectref09_Frac where
  Neg : Bool
  N : (List Nat)
  D : (List Nat)
structure M_retrospectref17_Node where
  Op : Int
  I : Int
  N : (List Nat)
structure M_tree_Node where
  Op : Int
  I : Int
  N : (List Nat)
structure M_retrospectref17_Let where
  Name : (List UInt8)
  Code : (List M_retrospectref17_Node)
structure M_retrospectref17_Field where
  Lets : (List M_retrospectref17_Let)
  Outs : (List (List M_retrospectref17_Node))
structure M_tree_Let where
  Name : (List UInt8)
  Code : (List M_tree_Node)
structure M_tree_Field where
  Lets : (List M_tree_Let)
  Outs : (List (List M_tree_Node))
structure M_retrospectref24_Inst where
  Op : Int
  A : Int
  B : Int
  N : M_retrospectref09_Frac
structure M_retrospectref24_Tape where
  Code : (List M_retrospectref24_Inst)
  Outs : (List Int)
  Dim : Int
  Par : Int
structure M_tape_Inst where
  Op : Int
  A : Int
  B : Int
  N : M_frac_Frac
structure M_tape_Tape where
  Code : (List M_tape_Inst)
  Outs : (List Int)
  Dim : Int
  Par : Int
structure M_tape_numbers where
  op : Int
  a : Int
  b : Int
def eqb_tape_numbers (x y : M_tape_numbers) : Bool := ((x.op == y.op) && ((x.a == y.a) && ((x.b == y.b) && true)))
structure M_A12_string where
  a0 : (List UInt8)
  a1 : (List UInt8)
  a2 : (List UInt8)
  a3 : (List UInt8)
  a4 : (List UInt8)
  a5 : (List UInt8)
  a6 : (List UInt8)
  a7 : (List UInt8)
  a8 : (List UInt8)
  a9 : (List UInt8)
  a10 : (List UInt8)
  a11 : (List UInt8)
structure M_retrospectref16_Word where
  Kind : Int
  Text : (List UInt8)
  At : Int
structure M_retrospectref48_Piece where
  Name : (List UInt8)
  Text : (List UInt8)
structure M_wire_Piece where
  Name : (List UInt8)
  Text : (List UInt8)
def eqb_api_Fault (x y : M_api_Fault) : Bool := ((x.Kind == y.Kind) && ((x.Step == y.Step) && ((x.Stage == y.Stage) && ((x.At == y.At) && true))))
def B_S_u32 (xs : List Nat) : Prop := xs.length ≤ maxLen ∧ ∀ x ∈ xs, (x < 4294967296)
def B_retrospectref17_Node (x : M_retrospectref17_Node) : Prop := (-9223372036854775808 ≤ x.Op ∧ x.Op ≤ 9223372036854775807) ∧ (-9223372036854775808 ≤ x.I ∧ x.I ≤ 9223372036854775807) ∧ B_S_u32 x.N ∧ True
def B_S_retrospectref17_Node (xs : List M_retrospectref17_Node) : Prop := xs.length ≤ maxLen ∧ ∀ x ∈ xs, B_retrospectref17_Node x
def B_retrospectref17_Let (x : M_retrospectref17_Let) : Prop := (x.Name.length ≤ maxLen) ∧ B_S_retrospectref17_Node x.Code ∧ True
def B_S_retrospectref17_Let (xs : List M_retrospectref17_Let) : Prop := xs.length ≤ maxLen ∧ ∀ x ∈ xs, B_retrospectref17_Let x
def B_S_S_retrospectref17_Node (xs : List (List M_retrospectref17_Node)) : Prop := xs.length ≤ maxLen ∧ ∀ x ∈ xs, B_S_retrospectref17_Node x
def B_retrospectref17_Field (x : M_retrospectref17_Field) : Prop := B_S_retrospectref17_Let x.Lets ∧ B_S_S_retrospectref17_Node x.Outs ∧ True
def B_retrospectref09_Frac (x : M_retrospectref09_Frac) : Prop := True ∧ B_S_u32 x.N ∧ B_S_u32 x.D ∧ True
def B_retrospectref24_Inst (x : M_retrospectref24_Inst) : Prop := (-9223372036854775808 ≤ x.Op ∧ x.Op ≤ 9223372036854775807) ∧ (-9223372036854775808 ≤ x.A ∧ x.A ≤ 9223372036854775807) ∧ (-9223372036854775808 ≤ x.B ∧ x.B ≤ 9223372036854775807) ∧ B_retrospectref09_Frac x.N ∧ True
def B_S_retrospectref24_Inst (xs : List M_retrospectref24_Inst) : Prop := xs.length ≤ maxLen ∧ ∀ x ∈ xs, B_retrospectref24_Inst x
def B_S_i64 (xs : List Int) : Prop := xs.length ≤ maxLen ∧ ∀ x ∈ xs, (-9223372036854775808 ≤ x ∧ x ≤ 9223372036854775807)
def B_retrospectref24_Tape (x : M_retrospectref24_Tape) : Prop := B_S_retrospectref24_Inst x.Code ∧ B_S_i64 x.Outs ∧ (-9223372036854775808 ≤ x.Dim ∧ x.Dim ≤ 9223372036854775807) ∧ (-9223372036854775808 ≤ x.Par ∧ x.Par ≤ 9223372036854775807) ∧ True
def m_nat_trim (n : Nat) (x0 : (List Nat)) : Option ((List Nat)) :=
  (loopM (fun (s19 : Int) =>
    jn (fun (j22 : (Bool) → Option _) =>
      bif decide ((0 : Int) < s19) then (
        (getI x0 (wrap64 (s19 - (1 : Int)))).bind fun y25 =>
        j22 (decide (y25 = 0)))
      else (
        j22 false)) (fun (s24 : Bool) =>
      bif s24 then (
        some (Lp.go (wrap64 (s19 - (1 : Int)))))
      else (
        some (Lp.out s19)))) n (x0.length : Int)).bind fun (t17 : Int) =>
  (sub x0 (0 : Int) t17).bind fun y27 =>
  some y27
def m_nat_fresh (x0 : (List Nat)) (x1 : Int) : Option ((List Nat)) :=
  (mkM 4 (0 : Nat) (wrap64 ((x0.length : Int) + x1))).bind fun y1 =>
  some (cpyL y1 x0)
def m_nat_Norm (n : Nat) (x0 : (List Nat)) : Option ((List Nat)) :=
  (m_nat_trim n x0).bind fun r1 =>
  (m_nat_fresh r1 (0 : Int)).bind fun r3 =>
  some r3
def m_nat_Cmp (n : Nat) (x0 : (List Nat)) (x1 : (List Nat)) : Option (Int) :=
  (m_nat_trim n x0).bind fun r1 =>
  (m_nat_trim n x1).bind fun r3 =>
  bif decide ((r1.length : Int) < (r3.length : Int)) then (
    some (-1 : Int))
  else (
    bif decide ((r3.length : Int) < (r1.length : Int)) then (
      some (1 : Int))
    else (
      (loopM (fun (s25 : Int) =>
        bif decide ((0 : Int) ≤ s25) then (
          (getI r1 s25).bind fun y26 =>
          (getI r3 s25).bind fun y28 =>
          bif decide (y26 < y28) then (
            some (Lp.out (Lp.out ((-1 : Int)))))
          else (
            (getI r1 s25).bind fun y30 =>
            (getI r3 s25).bind fun y32 =>
            bif decide (y32 < y30) then (
              some (Lp.out (Lp.out ((1 : Int)))))
            else (
              some (Lp.go (wrap64 (s25 - (1 : Int)))))))
        else (
          some (Lp.out (Lp.go ())))) n (wrap64 ((r1.length : Int) - (1 : Int)))).bind (lpK fun (_ : Unit) =>
      some (0 : Int))))
def m_limb_Div (x0 : Nat) (x1 : Nat) (x2 : Nat) : Option (Nat × Nat × Bool) :=
  bif decide (x2 ≤ x0) then (
    some (0, 0, false))
  else (
    (grd (x2 != 0)).bind fun _ =>
    (grd (x2 != 0)).bind fun _ =>
    some ((((((x0 * 2 ^ 32) % 18446744073709551616) ||| x1) / x2) % 4294967296), (((((x0 * 2 ^ 32) % 18446744073709551616) ||| x1) % x2) % 4294967296), true))
def m_quot_Word (n : Nat) (x0 : (List Nat)) (x1 : Nat) : Option ((List Nat) × Nat × Bool) :=
  bif decide (x1 = 0) then (
    some (([] : List Nat), 0, false))
  else (
    (mkM 4 (0 : Nat) (x0.length : Int)).bind fun y1 =>
    (loopM (fun (s20 : (List Nat) × Nat × Int) =>
      bif decide ((0 : Int) ≤ s20.2.2) then (
        (getI x0 s20.2.2).bind fun y21 =>
        (m_limb_Div s20.2.1 y21 x1).bind fun r23 =>
        (getI s20.1 s20.2.2).bind fun _ =>
        some (Lp.go ((List.set s20.1 (Int.toNat s20.2.2) r23.1), r23.2.1, wrap64 (s20.2.2 - (1 : Int)))))
      else (
        some (Lp.out (s20.1, s20.2.1)))) n (y1, 0, wrap64 ((x0.length : Int) - (1 : Int)))).bind fun (t18 : (List Nat) × Nat) =>
    (m_nat_Norm n t18.1).bind fun r27 =>
    some (r27, t18.2, true))
def m_nat_Of (n : Nat) (x0 : Nat) : Option ((List Nat)) :=
  (m_nat_trim n ([(x0 % 4294967296), ((x0 / 2 ^ 32) % 4294967296)] : List Nat)).bind fun r1 =>
  some r1
def m_limb_Len (n : Nat) (x0 : Nat) : Option (Int) :=
  (loopM (fun (s15 : Nat × Int × Int) =>
    bif decide ((0 : Int) < s15.2.2) then (
      jn (fun (j18 : (Nat × Int) → Option _) =>
        (grd (decide (0 ≤ s15.2.2))).bind fun _ =>
        bif !decide ((s15.1 / 2 ^ (min (Int.toNat s15.2.2) 32)) = 0) then (
          (grd (decide (0 ≤ s15.2.2))).bind fun _ =>
          j18 ((s15.1 / 2 ^ (min (Int.toNat s15.2.2) 32)), wrap64 (s15.2.1 + s15.2.2)))
        else (
          j18 (s15.1, s15.2.1))) (fun (s20 : Nat × Int) =>
        some (Lp.go (s20.1, s20.2, wrap64 (Int.tdiv s15.2.2 (2 : Int))))))
    else (
      some (Lp.out (s15.1, s15.2.1)))) n (x0, (0 : Int), (16 : Int))).bind fun (t13 : Nat × Int) =>
  some (wrap64 (t13.2 + (t13.1 : Int)))
def m_twos_Up (n : Nat) (x0 : (List Nat)) (x1 : Int) : Option ((List Nat)) :=
  (some (wrap64 ((wrap64 (Int.tdiv (min (max x1 (0 : Int)) (4096 : Int)) (32 : Int))) + (x0.length : Int)))).bind fun z1 =>
  (mkM 4 (0 : Nat) (wrap64 (z1 + (1 : Int)))).bind fun y2 =>
  (rangeL (fun (i36 : Nat) (x37 : Nat) (s35 : (List Nat)) =>
    (grd (decide (0 ≤ Int.tmod (min (max x1 (0 : Int)) (4096 : Int)) (32 : Int)))).bind fun _ =>
    (some (((x37 * 2 ^ (min (Int.toNat (Int.tmod (min (max x1 (0 : Int)) (4096 : Int)) (32 : Int))) 64)) % 18446744073709551616))).bind fun z40 =>
    (some (wrap64 ((wrap64 (Int.tdiv (min (max x1 (0 : Int)) (4096 : Int)) (32 : Int))) + (i36 : Int)))).bind fun z41 =>
    (getI s35 z41).bind fun y42 =>
    (getI s35 z41).bind fun _ =>
    (some (wrap64 ((wrap64 (Int.tdiv (min (max x1 (0 : Int)) (4096 : Int)) (32 : Int))) + (i36 : Int)))).bind fun z46 =>
    (getI (List.set s35 (Int.toNat z41) (y42 ||| (z40 % 4294967296))) (wrap64 (z46 + (1 : Int)))).bind fun _ =>
    (some ((List.set (List.set s35 (Int.toNat z41) (y42 ||| (z40 % 4294967296))) (Int.toNat (wrap64 (z46 + (1 : Int)))) ((z40 / 2 ^ 32) % 4294967296)))).bind fun z49 =>
    some (Lp.go z49)) x0 0 y2).bind (lpK fun (s50 : (List Nat)) =>
  (m_nat_Norm n s50).bind fun r51 =>
  some r51)
def m_limb_Add (x0 : Nat) (x1 : Nat) (x2 : Nat) : Option (Nat × Nat) :=
  jn (fun (j1 : (Nat) → Option _) =>
    bif decide (((x0 + x1) % 4294967296) < x0) then (
      j1 ((0 + 1) % 4294967296))
    else (
      j1 0)) (fun (s3 : Nat) =>
    jn (fun (j4 : (Nat) → Option _) =>
      bif decide (((((x0 + x1) % 4294967296) + x2) % 4294967296) < x2) then (
        j4 ((s3 + 1) % 4294967296))
      else (
        j4 s3)) (fun (s6 : Nat) =>
      some (((((x0 + x1) % 4294967296) + x2) % 4294967296), s6)))
def m_limb_Mul (x0 : Nat) (x1 : Nat) (x2 : Nat) (x3 : Nat) : Option (Nat × Nat) :=
  (some (((((((x0 * x1) % 18446744073709551616) + x2) % 18446744073709551616) + x3) % 18446744073709551616))).bind fun z1 =>
  some (((z1 / 2 ^ 32) % 4294967296), (z1 % 4294967296))
def m_quot_guess (n : Nat) (x0 : Nat) (x1 : Nat) (x2 : Nat) (x3 : Nat) (x4 : Nat) : Option (Nat) :=
  (m_limb_Div x0 x1 x3).bind fun r1 =>
  jn (fun (j8 : (Nat × Nat) → Option _) =>
    bif !r1.2.2 then (
      (m_limb_Add x1 x3 0).bind fun r11 =>
      jn (fun (j13 : (Bool) → Option _) =>
        bif decide (x3 < x0) then (
          j13 true)
        else (
          j13 (decide (0 < r11.2)))) (fun (s15 : Bool) =>
        bif s15 then (
          some 4294967295)
        else (
          j8 (4294967295, r11.1))))
    else (
      j8 (r1.1, r1.2.1))) (fun (s10 : Nat × Nat) =>
    (loopM (fun (s34 : Nat × Nat) =>
      (m_limb_Mul s34.1 x4 0 0).bind fun r35 =>
      jn (fun (j37 : (Bool) → Option _) =>
        bif decide (r35.1 < s34.2) then (
          j37 true)
        else (
          bif decide (r35.1 = s34.2) then (
            j37 (decide (r35.2 ≤ x2)))
          else (
            j37 false))) (fun (s39 : Bool) =>
        bif s39 then (
          some (Lp.out s34.1))
        else (
          (m_limb_Add s34.2 x3 0).bind fun r40 =>
          bif decide (0 < r40.2) then (
            some (Lp.out ((s34.1 + 4294967296 - 1) % 4294967296)))
          else (
            some (Lp.go (((s34.1 + 4294967296 - 1) % 4294967296), r40.1)))))) n (s10.1, s10.2)).bind fun (t32 : Nat) =>
    some t32)
def m_limb_Sub (x0 : Nat) (x1 : Nat) (x2 : Nat) : Option (Nat × Nat) :=
  jn (fun (j1 : (Nat) → Option _) =>
    bif decide (x0 < x1) then (
      j1 ((0 + 1) % 4294967296))
    else (
      j1 0)) (fun (s3 : Nat) =>
    jn (fun (j4 : (Nat) → Option _) =>
      bif decide (((x0 + 4294967296 - x1) % 4294967296) < x2) then (
        j4 ((s3 + 1) % 4294967296))
      else (
        j4 s3)) (fun (s6 : Nat) =>
      (some (((((x0 + 4294967296 - x1) % 4294967296) + 4294967296 - x2) % 4294967296))).bind fun z7 =>
      some (z7, s6)))
def m_quot_take (x0 : (List Nat)) (x1 : Int) (x2 : (List Nat)) (x3 : Nat) : Option (Bool × (List Nat)) :=
  (rangeL (fun (i27 : Nat) (x28 : Nat) (s26 : (List Nat) × Nat × Nat) =>
    (m_limb_Mul x3 x28 s26.2.1 0).bind fun r30 =>
    (getI s26.1 (wrap64 (x1 + (i27 : Int)))).bind fun y32 =>
    (m_limb_Sub y32 r30.2 s26.2.2).bind fun r34 =>
    (getI s26.1 (wrap64 (x1 + (i27 : Int)))).bind fun _ =>
    some (Lp.go ((List.set s26.1 (Int.toNat (wrap64 (x1 + (i27 : Int)))) r34.1), r30.1, r34.2))) x2 0 (x0, 0, 0)).bind (lpK fun (s38 : (List Nat) × Nat × Nat) =>
  (getI s38.1 (wrap64 (x1 + (x2.length : Int)))).bind fun y39 =>
  (m_limb_Sub y39 s38.2.1 s38.2.2).bind fun r41 =>
  (getI s38.1 (wrap64 (x1 + (x2.length : Int)))).bind fun _ =>
  some (decide (0 < r41.2), (List.set s38.1 (Int.toNat (wrap64 (x1 + (x2.length : Int)))) r41.1)))
def m_quot_give (x0 : (List Nat)) (x1 : Int) (x2 : (List Nat)) : Option ((List Nat)) :=
  (rangeL (fun (i23 : Nat) (x24 : Nat) (s22 : (List Nat) × Nat) =>
    (getI s22.1 (wrap64 (x1 + (i23 : Int)))).bind fun y26 =>
    (m_limb_Add y26 x24 s22.2).bind fun r28 =>
    (getI s22.1 (wrap64 (x1 + (i23 : Int)))).bind fun _ =>
    some (Lp.go ((List.set s22.1 (Int.toNat (wrap64 (x1 + (i23 : Int)))) r28.1), r28.2))) x2 0 (x0, 0)).bind (lpK fun (s32 : (List Nat) × Nat) =>
  (getI s32.1 (wrap64 (x1 + (x2.length : Int)))).bind fun y33 =>
  (getI s32.1 (wrap64 (x1 + (x2.length : Int)))).bind fun _ =>
  (some ((List.set s32.1 (Int.toNat (wrap64 (x1 + (x2.length : Int)))) ((y33 + s32.2) % 4294967296)))).bind fun z37 =>
  some z37)
def m_quot_long (n : Nat) (x0 : (List Nat)) (x1 : (List Nat)) : Option ((List Nat) × (List Nat)) :=
  (mkM 4 (0 : Nat) (wrap64 ((x0.length : Int) - (x1.length : Int)))).bind fun y1 =>
  (loopM (fun (s60 : (List Nat) × (List Nat) × Int) =>
    bif decide ((0 : Int) ≤ s60.2.2) then (
      (getI s60.1 (wrap64 (s60.2.2 + (x1.length : Int)))).bind fun y61 =>
      (getI s60.1 (wrap64 ((wrap64 (s60.2.2 + (x1.length : Int))) - (1 : Int)))).bind fun y63 =>
      (getI s60.1 (wrap64 ((wrap64 (s60.2.2 + (x1.length : Int))) - (2 : Int)))).bind fun y65 =>
      (getI x1 (wrap64 ((x1.length : Int) - (1 : Int)))).bind fun y67 =>
      (getI x1 (wrap64 ((x1.length : Int) - (2 : Int)))).bind fun y69 =>
      (m_quot_guess n y61 y63 y65 y67 y69).bind fun r71 =>
      jn (fun (j77 : ((List Nat) × Nat) → Option _) =>
        (m_quot_take s60.1 s60.2.2 x1 r71).bind fun r80 =>
        bif r80.1 then (
          (m_quot_give r80.2 s60.2.2 x1).bind fun r82 =>
          j77 (r82, ((r71 + 4294967296 - 1) % 4294967296)))
        else (
          j77 (r80.2, r71))) (fun (s79 : (List Nat) × Nat) =>
        (getI s60.2.1 s60.2.2).bind fun _ =>
        some (Lp.go (s79.1, (List.set s60.2.1 (Int.toNat s60.2.2) s79.2), wrap64 (s60.2.2 - (1 : Int))))))
    else (
      some (Lp.out (s60.1, s60.2.1)))) n (x0, y1, wrap64 ((y1.length : Int) - (1 : Int)))).bind fun (t58 : (List Nat) × (List Nat)) =>
  some (t58.2, t58.1)
def m_twos_Down (n : Nat) (x0 : (List Nat)) (x1 : Int) : Option ((List Nat)) :=
  (some (decide ((x0.length : Int) ≤ (wrap64 (Int.tdiv (max x1 (0 : Int)) (32 : Int)))))).bind fun z1 =>
  bif z1 then (
    some ([] : List Nat))
  else (
    (some (wrap64 ((x0.length : Int) - (wrap64 (Int.tdiv (max x1 (0 : Int)) (32 : Int)))))).bind fun z2 =>
    (mkM 4 (0 : Nat) z2).bind fun y3 =>
    (rangeL (fun (i49 : Nat) (_ : Nat) (s48 : (List Nat)) =>
      (some (wrap64 ((wrap64 (Int.tdiv (max x1 (0 : Int)) (32 : Int))) + (i49 : Int)))).bind fun z52 =>
      (getI x0 z52).bind fun y53 =>
      jn (fun (j59 : (Nat) → Option _) =>
        (some (wrap64 ((wrap64 (Int.tdiv (max x1 (0 : Int)) (32 : Int))) + (i49 : Int)))).bind fun z62 =>
        bif decide ((wrap64 (z62 + (1 : Int))) < (x0.length : Int)) then (
          (some (wrap64 ((wrap64 (Int.tdiv (max x1 (0 : Int)) (32 : Int))) + (i49 : Int)))).bind fun z63 =>
          (getI x0 (wrap64 (z63 + (1 : Int)))).bind fun y64 =>
          j59 (y53 ||| ((y64 * 2 ^ 32) % 18446744073709551616)))
        else (
          j59 y53)) (fun (s61 : Nat) =>
        (grd (decide (0 ≤ Int.tmod (max x1 (0 : Int)) (32 : Int)))).bind fun _ =>
        (some ((s61 / 2 ^ (min (Int.toNat (Int.tmod (max x1 (0 : Int)) (32 : Int))) 64)))).bind fun z67 =>
        (getI s48 (i49 : Int)).bind fun _ =>
        some (Lp.go (List.set s48 (Int.toNat (i49 : Int)) (z67 % 4294967296))))) y3 0 y3).bind (lpK fun (s70 : (List Nat)) =>
    (m_nat_Norm n s70).bind fun r71 =>
    some r71))
def m_quot_Div (n : Nat) (x0 : (List Nat)) (x1 : (List Nat)) : Option ((List Nat) × (List Nat) × Bool) :=
  (m_nat_Norm n x1).bind fun r1 =>
  bif decide ((r1.length : Int) = (0 : Int)) then (
    some (([] : List Nat), ([] : List Nat), false))
  else (
    (m_nat_Cmp n x0 r1).bind fun r3 =>
    bif decide (r3 < (0 : Int)) then (
      (m_nat_Norm n x0).bind fun r5 =>
      some (([] : List Nat), r5, true))
    else (
      bif decide ((r1.length : Int) = (1 : Int)) then (
        (getI r1 (0 : Int)).bind fun y7 =>
        (m_quot_Word n x0 y7).bind fun r9 =>
        (m_nat_Of n r9.2.1).bind fun r11 =>
        some (r9.1, r11, true))
      else (
        (getI r1 (wrap64 ((r1.length : Int) - (1 : Int)))).bind fun y13 =>
        (m_limb_Len n y13).bind fun r15 =>
        (m_twos_Up n x0 (wrap64 ((32 : Int) - r15))).bind fun r17 =>
        (appM 4 r17 ([0] : List Nat)).bind fun y19 =>
        (m_twos_Up n r1 (wrap64 ((32 : Int) - r15))).bind fun r21 =>
        (m_quot_long n y19 r21).bind fun r23 =>
        (m_nat_Norm n r23.1).bind fun r25 =>
        (m_twos_Down n r23.2 (wrap64 ((32 : Int) - r15))).bind fun r27 =>
        some (r25, r27, true))))
def m_nat_Small (n : Nat) (x0 : (List Nat)) : Option (Nat × Bool) :=
  (m_nat_trim n x0).bind fun r1 =>
  bif decide ((2 : Int) < (r1.length : Int)) then (
    some (0, false))
  else (
    (rangeL (fun (i17 : Nat) (x18 : Nat) (s16 : Nat) =>
      (grd (decide (0 ≤ wrap64 ((32 : Int) * (i17 : Int))))).bind fun _ =>
      (some (((x18 * 2 ^ (min (Int.toNat (wrap64 ((32 : Int) * (i17 : Int)))) 64)) % 18446744073709551616))).bind fun z21 =>
      some (Lp.go (s16 ||| z21))) r1 0 0).bind (lpK fun (s22 : Nat) =>
    some (s22, true)))
def m_common_small (n : Nat) (x0 : Nat) (x1 : Nat) : Option (Nat) :=
  (loopM (fun (s7 : Nat × Nat) =>
    bif !decide (s7.2 = 0) then (
      (grd (s7.2 != 0)).bind fun _ =>
      some (Lp.go (s7.2, (s7.1 % s7.2))))
    else (
      some (Lp.out s7.1))) n (x0, x1)).bind fun (t5 : Nat) =>
  some t5
def m_common_Gcd (n : Nat) (x0 : (List Nat)) (x1 : (List Nat)) : Option ((List Nat)) :=
  (m_nat_Norm n x0).bind fun r1 =>
  (m_nat_Norm n x1).bind fun r3 =>
  (loopM (fun (s19 : (List Nat) × (List Nat)) =>
    bif decide ((2 : Int) < (s19.2.length : Int)) then (
      (m_quot_Div n s19.1 s19.2).bind fun r20 =>
      some (Lp.go (s19.2, r20.2.1)))
    else (
      some (Lp.out (s19.1, s19.2)))) n (r1, r3)).bind fun (t17 : (List Nat) × (List Nat)) =>
  bif decide ((t17.2.length : Int) = (0 : Int)) then (
    some t17.1)
  else (
    (m_quot_Div n t17.1 t17.2).bind fun r22 =>
    (m_nat_Small n t17.2).bind fun r24 =>
    (m_nat_Small n r22.2.1).bind fun r26 =>
    (m_common_small n r24.1 r26.1).bind fun r28 =>
    (m_nat_Of n r28).bind fun r30 =>
    some r30)
def m_common_one (x0 : (List Nat)) : Option (Bool) :=
  jn (fun (j3 : (Bool) → Option _) =>
    bif decide ((x0.length : Int) = (1 : Int)) then (
      (getI x0 (0 : Int)).bind fun y6 =>
      j3 (decide (y6 = 1)))
    else (
      j3 false)) (fun (s5 : Bool) =>
    some s5)
def m_common_Cancel (n : Nat) (x0 : (List Nat)) (x1 : (List Nat)) : Option ((List Nat) × (List Nat)) :=
  (m_common_Gcd n x0 x1).bind fun r1 =>
  bif decide ((r1.length : Int) = (0 : Int)) then (
    some (([] : List Nat), ([] : List Nat)))
  else (
    (m_common_one r1).bind fun r3 =>
    bif r3 then (
      (m_nat_Norm n x0).bind fun r5 =>
      (m_nat_Norm n x1).bind fun r7 =>
      some (r5, r7))
    else (
      (m_quot_Div n x0 r1).bind fun r9 =>
      (m_quot_Div n x1 r1).bind fun r11 =>
      some (r9.1, r11.1)))
def m_digits_wrong (n : Nat) (x0 : (List UInt8)) : Option (Int) :=
  (loopM (fun (s27 : Int) =>
    bif decide (s27 < (x0.length : Int)) then (
      jn (fun (j32 : (Bool) → Option _) =>
        (getS x0 s27).bind fun y35 =>
        bif decide (y35 < 48) then (
          j32 true)
        else (
          (getS x0 s27).bind fun y37 =>
          bif decide (57 < y37) then (
            j32 true)
          else (
            j32 (decide (s27 = (60 : Int)))))) (fun (s34 : Bool) =>
        bif s34 then (
          some (Lp.out (Lp.out (s27))))
        else (
          some (Lp.go (wrap64 (s27 + (1 : Int)))))))
    else (
      some (Lp.out (Lp.go ())))) n (0 : Int)).bind (lpK fun (_ : Unit) =>
  bif decide (x0 = ([] : List UInt8)) then (
    some (0 : Int))
  else (
    some (-1 : Int)))
def m_prod_row (x0 : (List Nat)) (x1 : Int) (x2 : (List Nat)) (x3 : Nat) (x4 : Nat) : Option ((List Nat)) :=
  (rangeL (fun (i23 : Nat) (x24 : Nat) (s22 : (List Nat) × Nat) =>
    (getI s22.1 (wrap64 (x1 + (i23 : Int)))).bind fun y26 =>
    (m_limb_Mul x3 x24 y26 s22.2).bind fun r28 =>
    (getI s22.1 (wrap64 (x1 + (i23 : Int)))).bind fun _ =>
    some (Lp.go ((List.set s22.1 (Int.toNat (wrap64 (x1 + (i23 : Int)))) r28.2), r28.1))) x2 0 (x0, x4)).bind (lpK fun (s32 : (List Nat) × Nat) =>
  (getI s32.1 (wrap64 (x1 + (x2.length : Int)))).bind fun _ =>
  some (List.set s32.1 (Int.toNat (wrap64 (x1 + (x2.length : Int)))) s32.2))
def m_prod_Word (n : Nat) (x0 : (List Nat)) (x1 : Nat) (x2 : Nat) : Option ((List Nat)) :=
  (mkM 4 (0 : Nat) (wrap64 ((x0.length : Int) + (1 : Int)))).bind fun y1 =>
  (m_prod_row y1 (0 : Int) x0 x1 x2).bind fun r3 =>
  (m_nat_Norm n r3).bind fun r5 =>
  some r5
def m_digits_Read (n : Nat) (x0 : (List UInt8)) : Option ((List Nat) × M_api_Fault) :=
  (m_digits_wrong n x0).bind fun r1 =>
  bif decide ((0 : Int) ≤ r1) then (
    some (([] : List Nat), (⟨(1 : Int), 0, 0, r1⟩ : M_api_Fault)))
  else (
    (loopM (fun (s49 : (List Nat) × Int) =>
      bif decide (s49.2 < (x0.length : Int)) then (
        (loopM (fun (s59 : Int × Nat × Nat × Int) =>
          jn (fun (j60 : (Bool) → Option _) =>
            bif decide (s59.2.2.2 < (9 : Int)) then (
              j60 (decide (s59.1 < (x0.length : Int))))
            else (
              j60 false)) (fun (s62 : Bool) =>
            bif s62 then (
              (getS x0 s59.1).bind fun y63 =>
              (some (((((s59.2.1 * 10) % 4294967296) + ((y63 + 256 - 48) % 256)) % 4294967296))).bind fun z65 =>
              some (Lp.go (wrap64 (s59.1 + (1 : Int)), z65, ((s59.2.2.1 * 10) % 4294967296), wrap64 (s59.2.2.2 + (1 : Int)))))
            else (
              some (Lp.out (s59.1, s59.2.1, s59.2.2.1))))) n (s49.2, 0, 1, (0 : Int))).bind fun (t57 : Int × Nat × Nat) =>
        (m_prod_Word n s49.1 t57.2.2 t57.2.1).bind fun r66 =>
        some (Lp.go (r66, t57.1)))
      else (
        some (Lp.out s49.1))) n (([] : List Nat), (0 : Int))).bind fun (t47 : (List Nat)) =>
    some (t47, (⟨0, 0, 0, 0⟩ : M_api_Fault)))
def m_nat_Zero (n : Nat) (x0 : (List Nat)) : Option (Bool) :=
  (m_nat_trim n x0).bind fun r1 =>
  some (decide ((r1.length : Int) = (0 : Int)))
def m_digits_nine (n : Nat) (x0 : Nat) : Option ((List UInt8)) :=
  (loopM (fun (s7 : Nat × M_A9_u8 × Int) =>
    bif decide ((0 : Int) ≤ s7.2.2) then (
      (getI ([s7.2.1.a0, s7.2.1.a1, s7.2.1.a2, s7.2.1.a3, s7.2.1.a4, s7.2.1.a5, s7.2.1.a6, s7.2.1.a7, s7.2.1.a8] : List Nat) s7.2.2).bind fun _ =>
      some (Lp.go ((s7.1 / 10), (ofl_A9_u8 (List.set ([s7.2.1.a0, s7.2.1.a1, s7.2.1.a2, s7.2.1.a3, s7.2.1.a4, s7.2.1.a5, s7.2.1.a6, s7.2.1.a7, s7.2.1.a8] : List Nat) (Int.toNat s7.2.2) (((48 + (s7.1 % 10)) % 4294967296) % 256))), wrap64 (s7.2.2 - (1 : Int)))))
    else (
      some (Lp.out s7.2.1))) n (x0, (⟨0, 0, 0, 0, 0, 0, 0, 0, 0⟩ : M_A9_u8), (8 : Int))).bind fun (t5 : M_A9_u8) =>
  (some (([t5.a0, t5.a1, t5.a2, t5.a3, t5.a4, t5.a5, t5.a6, t5.a7, t5.a8] : List Nat))).bind fun z10 =>
  some (bS z10)
def m_digits_Text (n : Nat) (x0 : (List Nat)) : Option ((List UInt8)) :=
  (m_nat_Zero n x0).bind fun r1 =>
  bif r1 then (
    some ([48] : List UInt8))
  else (
    (loopM (fun (s23 : (List Nat) × (List (List UInt8))) =>
      (m_nat_Zero n s23.1).bind fun r24 =>
      bif !r24 then (
        (m_quot_Word n s23.1 1000000000).bind fun r26 =>
        (m_digits_nine n r26.2.1).bind fun r28 =>
        (appM 16 s23.2 ([r28] : List (List UInt8))).bind fun y30 =>
        some (Lp.go (r26.1, y30)))
      else (
        some (Lp.out s23.2))) n (x0, ([] : List (List UInt8)))).bind fun (t21 : (List (List UInt8))) =>
    (loopM (fun (s44 : (List UInt8) × Int) =>
      bif decide ((0 : Int) ≤ s44.2) then (
        (getI t21 s44.2).bind fun y45 =>
        (appM 1 s44.1 y45).bind fun y47 =>
        some (Lp.go (y47, wrap64 (s44.2 - (1 : Int)))))
      else (
        some (Lp.out s44.1))) n (([] : List UInt8), wrap64 ((t21.length : Int) - (1 : Int)))).bind fun (t42 : (List UInt8)) =>
    (m_strings_TrimLeft t42 ([48] : List UInt8)).bind fun r49 =>
    some r49)
def m_frac_parts (n : Nat) (x0 : M_frac_Frac) : Option (M_whole_Whole × (List Nat)) :=
  (m_nat_Zero n x0.Den).bind fun r1 =>
  bif r1 then (
    (m_nat_Of n 1).bind fun r3 =>
    some ((⟨false, []⟩ : M_whole_Whole), r3))
  else (
    some (x0.Num, x0.Den))
def m_prod_Mul (n : Nat) (x0 : (List Nat)) (x1 : (List Nat)) : Option ((List Nat)) :=
  (mkM 4 (0 : Nat) (wrap64 ((wrap64 ((x0.length : Int) + (x1.length : Int))) + (1 : Int)))).bind fun y1 =>
  (rangeL (fun (i17 : Nat) (x18 : Nat) (s16 : (List Nat)) =>
    (m_prod_row s16 (i17 : Int) x0 x18 0).bind fun r20 =>
    some (Lp.go r20)) x1 0 y1).bind (lpK fun (s22 : (List Nat)) =>
  (m_nat_Norm n s22).bind fun r23 =>
  some r23)
def m_whole_signed (x0 : Bool) (x1 : (List Nat)) : Option (M_whole_Whole) :=
  jn (fun (j1 : (M_whole_Whole) → Option _) =>
    bif x0 then (
      j1 (⟨decide ((0 : Int) < (x1.length : Int)), x1⟩ : M_whole_Whole))
    else (
      j1 (⟨false, x1⟩ : M_whole_Whole))) (fun (s3 : M_whole_Whole) =>
    some s3)
def m_whole_Mul (n : Nat) (x0 : M_whole_Whole) (x1 : M_whole_Whole) : Option (M_whole_Whole) :=
  (m_prod_Mul n x0.Abs x1.Abs).bind fun r1 =>
  (m_whole_signed (x0.Neg != x1.Neg) r1).bind fun r3 =>
  some r3
def m_frac_cross (n : Nat) (x0 : M_whole_Whole) (x1 : (List Nat)) : Option (M_whole_Whole) :=
  (m_whole_Mul n x0 (⟨false, x1⟩ : M_whole_Whole)).bind fun r1 =>
  some r1
def m_nat_plus (n : Nat) (x0 : (List Nat)) (x1 : (List Nat)) : Option ((List Nat)) :=
  jn (fun (j1 : ((List Nat) × (List Nat)) → Option _) =>
    bif decide ((x0.length : Int) < (x1.length : Int)) then (
      j1 (x1, x0))
    else (
      j1 (x0, x1))) (fun (s3 : (List Nat) × (List Nat)) =>
    (m_nat_fresh s3.1 (1 : Int)).bind fun r4 =>
    (rangeL (fun (i38 : Nat) (x39 : Nat) (s37 : (List Nat) × Nat) =>
      jn (fun (j43 : (Nat) → Option _) =>
        bif decide ((i38 : Int) < (s3.2.length : Int)) then (
          (getI s3.2 (i38 : Int)).bind fun y46 =>
          j43 y46)
        else (
          j43 0)) (fun (s45 : Nat) =>
        (m_limb_Add x39 s45 s37.2).bind fun r48 =>
        (getI s37.1 (i38 : Int)).bind fun _ =>
        some (Lp.go ((List.set s37.1 (Int.toNat (i38 : Int)) r48.1), r48.2)))) s3.1 0 (r4, 0)).bind (lpK fun (s52 : (List Nat) × Nat) =>
    (getI s52.1 (s3.1.length : Int)).bind fun _ =>
    (m_nat_trim n (List.set s52.1 (Int.toNat (s3.1.length : Int)) s52.2)).bind fun r55 =>
    some r55))
def m_nat_Add (n : Nat) (x0 : (List (List Nat))) : Option ((List Nat)) :=
  (rangeL (fun (_ : Nat) (x20 : (List Nat)) (s18 : (List Nat)) =>
    (m_nat_trim n x20).bind fun r22 =>
    (m_nat_plus n s18 r22).bind fun r24 =>
    some (Lp.go r24)) x0 0 ([] : List Nat)).bind (lpK fun (s26 : (List Nat)) =>
  some s26)
def m_nat_Sub (n : Nat) (x0 : (List Nat)) (x1 : (List Nat)) : Option ((List Nat) × Bool) :=
  (m_nat_trim n x0).bind fun r1 =>
  (m_nat_trim n x1).bind fun r3 =>
  (m_nat_Cmp n r1 r3).bind fun r5 =>
  bif decide (r5 < (0 : Int)) then (
    some (([] : List Nat), false))
  else (
    (m_nat_fresh r1 (0 : Int)).bind fun r7 =>
    (rangeL (fun (i41 : Nat) (x42 : Nat) (s40 : (List Nat) × Nat) =>
      jn (fun (j46 : (Nat) → Option _) =>
        bif decide ((i41 : Int) < (r3.length : Int)) then (
          (getI r3 (i41 : Int)).bind fun y49 =>
          j46 y49)
        else (
          j46 0)) (fun (s48 : Nat) =>
        (m_limb_Sub x42 s48 s40.2).bind fun r51 =>
        (getI s40.1 (i41 : Int)).bind fun _ =>
        some (Lp.go ((List.set s40.1 (Int.toNat (i41 : Int)) r51.1), r51.2)))) r1 0 (r7, 0)).bind (lpK fun (s55 : (List Nat) × Nat) =>
    (m_nat_trim n s55.1).bind fun r56 =>
    some (r56, true)))
def m_nat_Gap (n : Nat) (x0 : (List Nat)) (x1 : (List Nat)) : Option ((List Nat) × Int) :=
  (m_nat_Cmp n x0 x1).bind fun r1 =>
  jn (fun (j3 : ((List Nat) × (List Nat)) → Option _) =>
    bif decide (r1 < (0 : Int)) then (
      j3 (x1, x0))
    else (
      j3 (x0, x1))) (fun (s5 : (List Nat) × (List Nat)) =>
    (m_nat_Sub n s5.1 s5.2).bind fun r6 =>
    some (r6.1, r1))
def m_whole_Add (n : Nat) (x0 : M_whole_Whole) (x1 : M_whole_Whole) : Option (M_whole_Whole) :=
  bif (x0.Neg == x1.Neg) then (
    (m_nat_Add n ([x0.Abs, x1.Abs] : List (List Nat))).bind fun r1 =>
    (m_whole_signed x0.Neg r1).bind fun r3 =>
    some r3)
  else (
    (m_nat_Gap n x0.Abs x1.Abs).bind fun r5 =>
    bif decide (r5.2 < (0 : Int)) then (
      (m_whole_signed x1.Neg r5.1).bind fun r7 =>
      some r7)
    else (
      (m_whole_signed x0.Neg r5.1).bind fun r9 =>
      some r9))
def m_whole_Norm (n : Nat) (x0 : M_whole_Whole) : Option (M_whole_Whole) :=
  (m_nat_Norm n x0.Abs).bind fun r3 =>
  (m_whole_signed x0.Neg r3).bind fun r5 =>
  some r5
def m_frac_cancel (n : Nat) (x0 : M_whole_Whole) (x1 : (List Nat)) : Option (M_frac_Frac) :=
  (m_common_Cancel n x0.Abs x1).bind fun r1 =>
  (m_whole_Norm n (⟨x0.Neg, r1.1⟩ : M_whole_Whole)).bind fun r3 =>
  some (⟨r3, r1.2⟩ : M_frac_Frac)
def m_frac_Add (n : Nat) (x0 : M_frac_Frac) (x1 : M_frac_Frac) : Option (M_frac_Frac) :=
  (m_frac_parts n x0).bind fun r1 =>
  (m_frac_parts n x1).bind fun r3 =>
  (m_frac_cross n r1.1 r3.2).bind fun r5 =>
  (m_frac_cross n r3.1 r1.2).bind fun r7 =>
  (m_whole_Add n r5 r7).bind fun r9 =>
  (m_prod_Mul n r1.2 r3.2).bind fun r11 =>
  (m_frac_cancel n r9 r11).bind fun r13 =>
  some r13
def m_whole_Neg (n : Nat) (x0 : M_whole_Whole) : Option (M_whole_Whole) :=
  (m_nat_Norm n x0.Abs).bind fun r3 =>
  (m_whole_signed (!x0.Neg) r3).bind fun r5 =>
  some r5
def m_whole_Sub (n : Nat) (x0 : M_whole_Whole) (x1 : M_whole_Whole) : Option (M_whole_Whole) :=
  (m_whole_Neg n x1).bind fun r1 =>
  (m_whole_Add n x0 r1).bind fun r3 =>
  some r3
def m_whole_Sign (n : Nat) (x0 : M_whole_Whole) : Option (Int) :=
  (m_nat_Zero n x0.Abs).bind fun r1 =>
  bif r1 then (
    some (0 : Int))
  else (
    bif x0.Neg then (
      some (-1 : Int))
    else (
      some (1 : Int)))
def m_whole_Cmp (n : Nat) (x0 : M_whole_Whole) (x1 : M_whole_Whole) : Option (Int) :=
  (m_whole_Sub n x0 x1).bind fun r1 =>
  (m_whole_Sign n r1).bind fun r3 =>
  some r3
def m_frac_Cmp (n : Nat) (x0 : M_frac_Frac) (x1 : M_frac_Frac) : Option (Int) :=
  (m_frac_parts n x0).bind fun r1 =>
  (m_frac_parts n x1).bind fun r3 =>
  (m_frac_cross n r1.1 r3.2).bind fun r5 =>
  (m_frac_cross n r3.1 r1.2).bind fun r7 =>
  (m_whole_Cmp n r5 r7).bind fun r9 =>
  some r9
def m_frac_Mul (n : Nat) (x0 : M_frac_Frac) (x1 : M_frac_Frac) : Option (M_frac_Frac) :=
  (m_frac_parts n x0).bind fun r1 =>
  (m_frac_parts n x1).bind fun r3 =>
  (m_whole_Mul n r1.1 r3.1).bind fun r5 =>
  (m_prod_Mul n r1.2 r3.2).bind fun r7 =>
  (m_frac_cancel n r5 r7).bind fun r9 =>
  some r9
def m_frac_Norm (n : Nat) (x0 : M_frac_Frac) : Option (M_frac_Frac) :=
  (m_frac_parts n x0).bind fun r1 =>
  (m_frac_cancel n r1.1 r1.2).bind fun r3 =>
  some r3
def m_frac_Neg (n : Nat) (x0 : M_frac_Frac) : Option (M_frac_Frac) :=
  (m_frac_Norm n x0).bind fun r1 =>
  (m_whole_Neg n r1.Num).bind fun r3 =>
  some (⟨r3, r1.Den⟩ : M_frac_Frac)
def m_frac_Right (n : Nat) (x0 : M_frac_Frac) : Option (Bool) :=
  (m_frac_Norm n x0).bind fun r1 =>
  jn (fun (j7 : (Bool) → Option _) =>
    bif (x0.Num.Neg == r1.Num.Neg) then (
      bif decide ((x0.Num.Abs.length : Int) = (r1.Num.Abs.length : Int)) then (
        bif decide ((x0.Den.length : Int) = (r1.Den.length : Int)) then (
          (m_nat_Cmp n x0.Num.Abs r1.Num.Abs).bind fun r10 =>
          bif decide (r10 = (0 : Int)) then (
            (m_nat_Cmp n x0.Den r1.Den).bind fun r12 =>
            j7 (decide (r12 = (0 : Int))))
          else (
            j7 false))
        else (
          j7 false))
      else (
        j7 false))
    else (
      j7 false)) (fun (s9 : Bool) =>
    some s9)
def m_frac_Sub (n : Nat) (x0 : M_frac_Frac) (x1 : M_frac_Frac) : Option (M_frac_Frac) :=
  (m_frac_parts n x0).bind fun r1 =>
  (m_frac_parts n x1).bind fun r3 =>
  (m_frac_cross n r1.1 r3.2).bind fun r5 =>
  (m_frac_cross n r3.1 r1.2).bind fun r7 =>
  (m_whole_Sub n r5 r7).bind fun r9 =>
  (m_prod_Mul n r1.2 r3.2).bind fun r11 =>
  (m_frac_cancel n r9 r11).bind fun r13 =>
  some r13
def m_lex_digit (x0 : Nat) : Option (Bool) :=
  jn (fun (j1 : (Bool) → Option _) =>
    bif decide (48 ≤ x0) then (
      j1 (decide (x0 ≤ 57)))
    else (
      j1 false)) (fun (s3 : Bool) =>
    some s3)
def m_lex_letter (x0 : Nat) : Option (Bool) :=
  jn (fun (j1 : (Bool) → Option _) =>
    bif decide (97 ≤ x0) then (
      bif decide (x0 ≤ 122) then (
        j1 true)
      else (
        bif decide (65 ≤ x0) then (
          bif decide (x0 ≤ 90) then (
            j1 true)
          else (
            j1 (decide (x0 = 95))))
        else (
          j1 (decide (x0 = 95)))))
    else (
      bif decide (65 ≤ x0) then (
        bif decide (x0 ≤ 90) then (
          j1 true)
        else (
          j1 (decide (x0 = 95))))
      else (
        j1 (decide (x0 = 95))))) (fun (s3 : Bool) =>
    some s3)
def m_lex_sign (n : Nat) (x0 : Nat) : Option (Bool) :=
  (loopM (fun (s9 : Nat) =>
    bif decide (s9 < ([43, 45, 42, 47, 94, 40, 41, 91, 93, 44, 59, 61] : List UInt8).length) then (
      (some (((decR ([43, 45, 42, 47, 94, 40, 41, 91, 93, 44, 59, 61] : List UInt8) s9 : Nat) : Int))).bind fun z11 =>
      bif decide ((Int.toNat (z11 % 256)) = x0) then (
        some (Lp.out (Lp.out (true))))
      else (
        some (Lp.go (s9 + decW ([43, 45, 42, 47, 94, 40, 41, 91, 93, 44, 59, 61] : List UInt8) s9))))
    else (
      some (Lp.out (Lp.go ())))) n 0).bind (lpK fun (_ : Unit) =>
  some false)
def m_lex_kind (n : Nat) (x0 : Nat) : Option (Int) :=
  (m_lex_digit x0).bind fun r1 =>
  bif r1 then (
    some (1 : Int))
  else (
    (m_lex_letter x0).bind fun r3 =>
    bif r3 then (
      some (2 : Int))
    else (
      (m_lex_sign n x0).bind fun r5 =>
      bif r5 then (
        some (3 : Int))
      else (
        some (0 : Int))))
def m_lex_goes (x0 : Int) (x1 : Nat) : Option (Bool) :=
  jn (fun (j11 : (Bool) → Option _) =>
    bif decide (x0 = (1 : Int)) then (
      (m_lex_digit x1).bind fun r14 =>
      bif r14 then (
        j11 true)
      else (
        bif decide (x0 = (2 : Int)) then (
          (m_lex_letter x1).bind fun r16 =>
          bif r16 then (
            j11 true)
          else (
            (m_lex_digit x1).bind fun r18 =>
            j11 r18))
        else (
          j11 false)))
    else (
      bif decide (x0 = (2 : Int)) then (
        (m_lex_letter x1).bind fun r20 =>
        bif r20 then (
          j11 true)
        else (
          (m_lex_digit x1).bind fun r22 =>
          j11 r22))
      else (
        j11 false))) (fun (s13 : Bool) =>
    some s13)
def m_lex_first (n : Nat) (x0 : (List UInt8)) (x1 : Int) : Option (Int) :=
  (loopM (fun (s27 : Int) =>
    jn (fun (j32 : (Bool) → Option _) =>
      bif decide (s27 < (x0.length : Int)) then (
        (getS x0 s27).bind fun y35 =>
        (m_lex_goes x1 y35).bind fun r37 =>
        j32 r37)
      else (
        j32 false)) (fun (s34 : Bool) =>
      bif s34 then (
        some (Lp.go (wrap64 (s27 + (1 : Int)))))
      else (
        some (Lp.out s27)))) n (1 : Int)).bind fun (t25 : Int) =>
  some t25
def m_lex_most (x0 : Int) : Option (Int) :=
  bif decide (x0 = (1 : Int)) then (
    some (60 : Int))
  else (
    bif decide (x0 = (2 : Int)) then (
      some (12 : Int))
    else (
      some (1 : Int)))
def m_lex_Right (n : Nat) (x0 : M_lex_Word) : Option (Bool) :=
  jn (fun (j7 : (Bool) → Option _) =>
    bif decide (x0.Text = ([] : List UInt8)) then (
      j7 true)
    else (
      bif decide (x0.Kind = (0 : Int)) then (
        j7 true)
      else (
        (getS x0.Text (0 : Int)).bind fun y12 =>
        (m_lex_kind n y12).bind fun r14 =>
        j7 (!decide (r14 = x0.Kind))))) (fun (s9 : Bool) =>
    bif s9 then (
      some false)
    else (
      jn (fun (j21 : (Bool) → Option _) =>
        (m_lex_first n x0.Text x0.Kind).bind fun r24 =>
        bif decide (r24 = (x0.Text.length : Int)) then (
          (m_lex_most x0.Kind).bind fun r27 =>
          j21 (decide ((x0.Text.length : Int) ≤ r27)))
        else (
          j21 false)) (fun (s23 : Bool) =>
        some s23)))
def m_retrospectlaw09_To (x0 : M_retrospectref09_Frac) : Option (M_frac_Frac) :=
  some (⟨(⟨x0.Neg, x0.N⟩ : M_whole_Whole), x0.D⟩ : M_frac_Frac)
def m_retrospectlaw17_To (n : Nat) (x0 : (List M_retrospectref17_Node)) : Option ((List M_tree_Node)) :=
  (loopM (fun (s21 : (List M_tree_Node) × Int) =>
    bif decide (s21.2 < (x0.length : Int)) then (
      (getI x0 s21.2).bind fun y22 =>
      (getI x0 s21.2).bind fun y24 =>
      (getI x0 s21.2).bind fun y26 =>
      (appM 40 s21.1 ([(⟨y22.Op, y24.I, y26.N⟩ : M_tree_Node)] : List M_tree_Node)).bind fun y28 =>
      some (Lp.go (y28, wrap64 (s21.2 + (1 : Int)))))
    else (
      some (Lp.out s21.1))) n (([] : List M_tree_Node), (0 : Int))).bind fun (t19 : (List M_tree_Node)) =>
  some t19
def m_retrospectlaw17_ToField (n : Nat) (x0 : M_retrospectref17_Field) : Option (M_tree_Field) :=
  (loopM (fun (s12 : (List M_tree_Let) × Int) =>
    bif decide (s12.2 < (x0.Lets.length : Int)) then (
      (getI x0.Lets s12.2).bind fun y13 =>
      (getI x0.Lets s12.2).bind fun y15 =>
      (m_retrospectlaw17_To n y15.Code).bind fun r17 =>
      (appM 40 s12.1 ([(⟨y13.Name, r17⟩ : M_tree_Let)] : List M_tree_Let)).bind fun y19 =>
      some (Lp.go (y19, wrap64 (s12.2 + (1 : Int)))))
    else (
      some (Lp.out s12.1))) n (([] : List M_tree_Let), (0 : Int))).bind fun (t10 : (List M_tree_Let)) =>
  (loopM (fun (s37 : (List (List M_tree_Node)) × Int) =>
    bif decide (s37.2 < (x0.Outs.length : Int)) then (
      (getI x0.Outs s37.2).bind fun y38 =>
      (m_retrospectlaw17_To n y38).bind fun r40 =>
      (appM 24 s37.1 ([r40] : List (List M_tree_Node))).bind fun y42 =>
      some (Lp.go (y42, wrap64 (s37.2 + (1 : Int)))))
    else (
      some (Lp.out s37.1))) n (([] : List (List M_tree_Node)), (0 : Int))).bind fun (t35 : (List (List M_tree_Node))) =>
  some (⟨t10, t35⟩ : M_tree_Field)
def m_retrospectref09_Long (x0 : M_retrospectref09_Frac) (x1 : Int) : Option (Bool) :=
  jn (fun (j1 : (Bool) → Option _) =>
    bif decide (x1 < (x0.N.length : Int)) then (
      j1 true)
    else (
      j1 (decide (x1 < (x0.D.length : Int))))) (fun (s3 : Bool) =>
    some s3)
def m_retrospectref24_Long (n : Nat) (x0 : M_retrospectref24_Tape) (x1 : Int) (x2 : Int) : Option (Bool) :=
  (loopM (fun (s19 : Int) =>
    jn (fun (j20 : (Bool) → Option _) =>
      bif decide (s19 < (x0.Code.length : Int)) then (
        j20 (decide (s19 < x1)))
      else (
        j20 false)) (fun (s22 : Bool) =>
      bif s22 then (
        (getI x0.Code s19).bind fun y23 =>
        (m_retrospectref09_Long y23.N x2).bind fun r25 =>
        bif r25 then (
          some (Lp.out (Lp.out (true))))
        else (
          some (Lp.go (wrap64 (s19 + (1 : Int))))))
      else (
        some (Lp.out (Lp.go ()))))) n (0 : Int)).bind (lpK fun (_ : Unit) =>
  jn (fun (j27 : (Bool) → Option _) =>
    bif decide (x1 < (x0.Code.length : Int)) then (
      j27 true)
    else (
      j27 (decide (x1 < (x0.Outs.length : Int))))) (fun (s29 : Bool) =>
    some s29))
def m_tape_below (x0 : Int) (x1 : Int) : Option (Bool) :=
  jn (fun (j1 : (Bool) → Option _) =>
    bif decide ((0 : Int) ≤ x0) then (
      j1 (decide (x0 < x1)))
    else (
      j1 false)) (fun (s3 : Bool) =>
    some s3)
def m_tape_whole (x0 : M_tape_Tape) : Option (Bool) :=
  jn (fun (j5 : (Bool) → Option _) =>
    (m_tape_below (wrap64 (x0.Dim - (1 : Int))) (6 : Int)).bind fun r8 =>
    bif r8 then (
      (m_tape_below x0.Par (7 : Int)).bind fun r10 =>
      bif r10 then (
        bif decide ((x0.Outs.length : Int) = x0.Dim) then (
          j5 (decide ((x0.Code.length : Int) ≤ (300 : Int))))
        else (
          j5 false))
      else (
        j5 false))
    else (
      j5 false)) (fun (s7 : Bool) =>
    some s7)
def m_tape_of (x0 : M_tape_Inst) : Option (M_tape_numbers) :=
  some (⟨x0.Op, x0.A, x0.B⟩ : M_tape_numbers)
def m_tape_blank (x0 : M_frac_Frac) : Option (Bool) :=
  jn (fun (j1 : (Bool) → Option _) =>
    bif !x0.Num.Neg then (
      bif decide ((x0.Num.Abs.length : Int) = (0 : Int)) then (
        j1 (decide ((x0.Den.length : Int) = (0 : Int))))
      else (
        j1 false))
    else (
      j1 false)) (fun (s3 : Bool) =>
    some s3)
def m_tape_Reads (x0 : M_tape_Inst) : Option ((List Int)) :=
  jn (fun (j1 : (Bool) → Option _) =>
    bif decide (x0.Op = (6 : Int)) then (
      j1 (decide (x0.Op = (6 : Int))))
    else (
      j1 (decide (x0.Op = (11 : Int))))) (fun (s3 : Bool) =>
    bif s3 then (
      some ([x0.A] : List Int))
    else (
      jn (fun (j4 : (Bool) → Option _) =>
        bif decide (x0.Op = (7 : Int)) then (
          j4 (decide (x0.Op = (7 : Int))))
        else (
          bif decide (x0.Op = (8 : Int)) then (
            j4 (decide (x0.Op = (8 : Int))))
          else (
            bif decide (x0.Op = (9 : Int)) then (
              j4 (decide (x0.Op = (9 : Int))))
            else (
              j4 (decide (x0.Op = (10 : Int))))))) (fun (s6 : Bool) =>
        bif s6 then (
          some ([x0.A, x0.B] : List Int))
        else (
          some ([] : List Int)))))
def m_tape_may (n : Nat) (x0 : M_tape_Tape) (x1 : Int) : Option (Bool) :=
  (getI x0.Code x1).bind fun y1 =>
  bif decide (y1.Op = (1 : Int)) then (
    jn (fun (j7 : (Bool) → Option _) =>
      (m_tape_of y1).bind fun r10 =>
      bif (eqb_tape_numbers r10 (⟨(1 : Int), 0, 0⟩ : M_tape_numbers)) then (
        (m_frac_Right n y1.N).bind fun r12 =>
        j7 r12)
      else (
        j7 false)) (fun (s9 : Bool) =>
      some s9))
  else (
    (m_tape_blank y1.N).bind fun r14 =>
    bif !r14 then (
      some false)
    else (
      (m_tape_Reads y1).bind fun r16 =>
      (rangeL (fun (_ : Nat) (x27 : Int) (_ : Unit) =>
        (m_tape_below x27 x1).bind fun r29 =>
        bif !r29 then (
          some (Lp.out (false)))
        else (
          some (Lp.go ()))) r16 0 ()).bind (lpK fun (_ : Unit) =>
      bif decide (y1.Op = (2 : Int)) then (
        (m_tape_of y1).bind fun r32 =>
        some (eqb_tape_numbers r32 (⟨(2 : Int), 0, 0⟩ : M_tape_numbers)))
      else (
        bif decide (y1.Op = (3 : Int)) then (
          jn (fun (j36 : (Bool) → Option _) =>
            (m_tape_below y1.A x0.Dim).bind fun r39 =>
            bif r39 then (
              j36 (decide (y1.B = (0 : Int))))
            else (
              j36 false)) (fun (s38 : Bool) =>
            some s38))
        else (
          bif decide (y1.Op = (4 : Int)) then (
            jn (fun (j43 : (Bool) → Option _) =>
              (m_tape_below y1.A x0.Par).bind fun r46 =>
              bif r46 then (
                j43 (decide (y1.B = (0 : Int))))
              else (
                j43 false)) (fun (s45 : Bool) =>
              some s45))
          else (
            bif decide (y1.Op = (6 : Int)) then (
              some (decide (y1.B = (0 : Int))))
            else (
              bif decide (y1.Op = (11 : Int)) then (
                jn (fun (j48 : (Bool) → Option _) =>
                  bif decide ((-8 : Int) ≤ y1.B) then (
                    j48 (decide (y1.B ≤ (8 : Int))))
                  else (
                    j48 false)) (fun (s50 : Bool) =>
                  some s50))
              else (
                (m_tape_Reads y1).bind fun r51 =>
                some (decide ((r51.length : Int) = (2 : Int)))))))))))
def m_tape_Wrong (n : Nat) (x0 : M_tape_Tape) : Option (Int) :=
  (m_tape_whole x0).bind fun r1 =>
  bif !r1 then (
    some (-2 : Int))
  else (
    (rangeL (fun (i11 : Nat) (_ : M_tape_Inst) (_ : Unit) =>
      (m_tape_may n x0 (i11 : Int)).bind fun r14 =>
      bif !r14 then (
        some (Lp.out ((i11 : Int))))
      else (
        some (Lp.go ()))) x0.Code 0 ()).bind (lpK fun (_ : Unit) =>
    (rangeL (fun (_ : Nat) (x26 : Int) (_ : Unit) =>
      (m_tape_below x26 (x0.Code.length : Int)).bind fun r28 =>
      bif !r28 then (
        some (Lp.out ((x0.Code.length : Int))))
      else (
        some (Lp.go ()))) x0.Outs 0 ()).bind (lpK fun (_ : Unit) =>
    some (-1 : Int))))
def m_tape_Right (n : Nat) (x0 : M_tape_Tape) : Option (Bool) :=
  (m_tape_Wrong n x0).bind fun r1 =>
  some (decide (r1 = (-1 : Int)))
def m_tape_name (x0 : Int) : Option ((List UInt8)) :=
  (getI ([[], ([99, 111, 110, 115, 116] : List UInt8), ([116, 105, 109, 101] : List UInt8), ([115, 116, 97, 116, 101] : List UInt8), ([112, 97, 114] : List UInt8), [], ([110, 101, 103] : List UInt8), ([97, 100, 100] : List UInt8), ([115, 117, 98] : List UInt8), ([109, 117, 108] : List UInt8), ([113, 117, 111] : List UInt8), ([112, 111, 119] : List UInt8)] : List (List UInt8)) x0).bind fun y1 =>
  some y1
def m_whole_Text (n : Nat) (x0 : M_whole_Whole) : Option ((List UInt8)) :=
  (m_digits_Text n x0.Abs).bind fun r1 =>
  (m_whole_Sign n x0).bind fun r3 =>
  bif decide (r3 < (0 : Int)) then (
    (catS ([45] : List UInt8) r1).bind fun y5 =>
    some y5)
  else (
    some r1)
def m_figure_Text (n : Nat) (x0 : M_frac_Frac) : Option ((List UInt8)) :=
  (m_frac_Norm n x0).bind fun r1 =>
  (m_whole_Text n r1.Num).bind fun r3 =>
  jn (fun (j15 : ((List UInt8)) → Option _) =>
    (m_nat_Of n 1).bind fun r18 =>
    (m_nat_Cmp n r1.Den r18).bind fun r20 =>
    bif !decide (r20 = (0 : Int)) then (
      (m_digits_Text n r1.Den).bind fun r22 =>
      (catS ([47] : List UInt8) r22).bind fun y24 =>
      (catS r3 y24).bind fun y26 =>
      j15 y26)
    else (
      j15 r3)) (fun (s17 : (List UInt8)) =>
    some s17)
def m_tape_line (n : Nat) (x0 : M_tape_Inst) : Option ((List UInt8)) :=
  (m_tape_name x0.Op).bind fun r1 =>
  bif decide (x0.Op = (1 : Int)) then (
    (catS r1 ([32] : List UInt8)).bind fun y3 =>
    (m_figure_Text n x0.N).bind fun r5 =>
    (catS y3 r5).bind fun y7 =>
    some y7)
  else (
    jn (fun (j9 : (Bool) → Option _) =>
      bif decide (x0.Op = (3 : Int)) then (
        j9 (decide (x0.Op = (3 : Int))))
      else (
        j9 (decide (x0.Op = (4 : Int))))) (fun (s11 : Bool) =>
      bif s11 then (
        (catS r1 ([32] : List UInt8)).bind fun y12 =>
        (m_strconv_Itoa x0.A).bind fun r14 =>
        (catS y12 r14).bind fun y16 =>
        some y16)
      else (
        (m_tape_Reads x0).bind fun r18 =>
        (rangeL (fun (_ : Nat) (x43 : Int) (s41 : (List UInt8)) =>
          (m_strconv_Itoa x43).bind fun r45 =>
          (catS ([32] : List UInt8) r45).bind fun y47 =>
          (catS s41 y47).bind fun y49 =>
          some (Lp.go y49)) r18 0 r1).bind (lpK fun (s51 : (List UInt8)) =>
        jn (fun (j58 : ((List UInt8)) → Option _) =>
          bif decide (x0.Op = (11 : Int)) then (
            (m_strconv_Itoa x0.B).bind fun r61 =>
            (catS ([32] : List UInt8) r61).bind fun y63 =>
            (catS s51 y63).bind fun y65 =>
            j58 y65)
          else (
            j58 s51)) (fun (s60 : (List UInt8)) =>
          some s60)))))
def m_tape_Text (n : Nat) (x0 : M_tape_Tape) : Option ((List UInt8)) :=
  (m_tape_Right n x0).bind fun r1 =>
  bif !r1 then (
    some ([] : List UInt8))
  else (
    (rangeL (fun (i37 : Nat) (x38 : M_tape_Inst) (s36 : (List UInt8)) =>
      (m_strconv_Itoa (i37 : Int)).bind fun r40 =>
      (catS r40 ([58, 32] : List UInt8)).bind fun y42 =>
      (m_tape_line n x38).bind fun r44 =>
      (catS y42 r44).bind fun y46 =>
      (catS y46 ([10] : List UInt8)).bind fun y48 =>
      (appM 1 s36 y48).bind fun y50 =>
      some (Lp.go y50)) x0.Code 0 ([] : List UInt8)).bind (lpK fun (s52 : (List UInt8)) =>
    (appM 1 s52 ([111, 117, 116] : List UInt8)).bind fun y53 =>
    (rangeL (fun (_ : Nat) (x78 : Int) (s76 : (List UInt8)) =>
      (m_strconv_Itoa x78).bind fun r80 =>
      (catS ([32] : List UInt8) r80).bind fun y82 =>
      (appM 1 s76 y82).bind fun y84 =>
      some (Lp.go y84)) x0.Outs 0 y53).bind (lpK fun (s86 : (List UInt8)) =>
    (appM 1 s86 ([10] : List UInt8)).bind fun y87 =>
    some y87)))
def m_retrospectlaw24_works (n : Nat)  : Option (Bool) :=
  (some (([(⟨(3 : Int), 0, 0, (⟨(⟨false, []⟩ : M_whole_Whole), []⟩ : M_frac_Frac)⟩ : M_tape_Inst), (⟨(9 : Int), 0, 0, (⟨(⟨false, []⟩ : M_whole_Whole), []⟩ : M_frac_Frac)⟩ : M_tape_Inst)] : List M_tape_Inst))).bind fun z1 =>
  jn (fun (j9 : (Bool) → Option _) =>
    (m_tape_Right n (⟨z1, ([(1 : Int)] : List Int), (1 : Int), 0⟩ : M_tape_Tape)).bind fun r12 =>
    bif r12 then (
      (m_tape_Text n (⟨z1, ([(1 : Int)] : List Int), (1 : Int), 0⟩ : M_tape_Tape)).bind fun r14 =>
      (some (decide (r14 = ([48, 58, 32, 115, 116, 97, 116, 101, 32, 48, 10, 49, 58, 32, 109, 117, 108, 32, 48, 32, 48, 10, 111, 117, 116, 32, 49, 10] : List UInt8)))).bind fun z16 =>
      bif z16 then (
        (m_tape_Wrong n (⟨[], [], 0, 0⟩ : M_tape_Tape)).bind fun r17 =>
        j9 (decide (r17 = (-2 : Int))))
      else (
        j9 false))
    else (
      j9 false)) (fun (s11 : Bool) =>
    some s11)
def m_retrospectlaw24_To (n : Nat) (x0 : M_retrospectref24_Tape) : Option (M_tape_Tape) :=
  (appM 8 ([] : List Int) x0.Outs).bind fun y1 =>
  (loopM (fun (s19 : (List M_tape_Inst) × Int) =>
    bif decide (s19.2 < (x0.Code.length : Int)) then (
      (getI x0.Code s19.2).bind fun y20 =>
      (m_retrospectlaw09_To y20.N).bind fun r22 =>
      (appM 80 s19.1 ([(⟨y20.Op, y20.A, y20.B, r22⟩ : M_tape_Inst)] : List M_tape_Inst)).bind fun y24 =>
      some (Lp.go (y24, wrap64 (s19.2 + (1 : Int)))))
    else (
      some (Lp.out s19.1))) n (([] : List M_tape_Inst), (0 : Int))).bind fun (t17 : (List M_tape_Inst)) =>
  some (⟨t17, y1, x0.Dim, x0.Par⟩ : M_tape_Tape)
def m_tape_Live (n : Nat) (x0 : M_tape_Tape) : Option ((List Bool)) :=
  (m_tape_Right n x0).bind fun r1 =>
  bif !r1 then (
    some ([] : List Bool))
  else (
    (mkM 1 (false : Bool) (x0.Code.length : Int)).bind fun y3 =>
    (rangeL (fun (_ : Nat) (x20 : Int) (s18 : (List Bool)) =>
      (getI s18 x20).bind fun _ =>
      some (Lp.go (List.set s18 (Int.toNat x20) true))) x0.Outs 0 y3).bind (lpK fun (s24 : (List Bool)) =>
    (loopM (fun (s121 : (List Bool) × Int) =>
      bif decide ((0 : Int) ≤ s121.2) then (
        jn (fun (j142 : ((List Bool)) → Option _) =>
          (getI s121.1 s121.2).bind fun y145 =>
          bif !y145 then (
            j142 s121.1)
          else (
            (getI x0.Code s121.2).bind fun y147 =>
            (m_tape_Reads y147).bind fun r149 =>
            (rangeL (fun (_ : Nat) (x160 : Int) (s158 : (List Bool)) =>
              (getI s158 x160).bind fun _ =>
              some (Lp.go (List.set s158 (Int.toNat x160) true))) r149 0 s121.1).bind (lpK fun (s164 : (List Bool)) =>
            j142 s164))) (fun (s144 : (List Bool)) =>
          some (Lp.go (s144, wrap64 (s121.2 - (1 : Int))))))
      else (
        some (Lp.out s121.1))) n (s24, wrap64 ((x0.Code.length : Int) - (1 : Int)))).bind fun (t119 : (List Bool)) =>
    some t119))
def m_retrospectlaw24_TapeLive (n : Nat) (x0 : M_retrospectref24_Tape) : Option (Bool) :=
  (m_retrospectref24_Long n x0 (40 : Int) (4 : Int)).bind fun r1 =>
  bif r1 then (
    (m_retrospectlaw24_works n ).bind fun r3 =>
    some r3)
  else (
    (m_retrospectlaw24_To n x0).bind fun r5 =>
    (m_tape_Live n r5).bind fun r7 =>
    (m_tape_Right n r5).bind fun r9 =>
    bif !r9 then (
      jn (fun (j13 : (Bool) → Option _) =>
        bif decide ((r7.length : Int) = (0 : Int)) then (
          (m_retrospectlaw24_works n ).bind fun r16 =>
          j13 r16)
        else (
          j13 false)) (fun (s15 : Bool) =>
        some s15))
    else (
      bif !decide ((r7.length : Int) = (r5.Code.length : Int)) then (
        some false)
      else (
        (loopM (fun (s154 : Int) =>
          bif decide (s154 < (r5.Code.length : Int)) then (
            (getI r5.Code s154).bind fun y155 =>
            (m_tape_Reads y155).bind fun r157 =>
            (loopM (fun (s185 : Int) =>
              bif decide (s185 < (r157.length : Int)) then (
                jn (fun (j196 : (Bool) → Option _) =>
                  (getI r157 s185).bind fun y199 =>
                  bif decide (y199 < (0 : Int)) then (
                    j196 true)
                  else (
                    (getI r157 s185).bind fun y201 =>
                    bif decide (s154 ≤ y201) then (
                      j196 true)
                    else (
                      (getI r7 s154).bind fun y203 =>
                      bif y203 then (
                        (getI r157 s185).bind fun y205 =>
                        (getI r7 y205).bind fun y207 =>
                        j196 (!y207))
                      else (
                        j196 false)))) (fun (s198 : Bool) =>
                  bif s198 then (
                    some (Lp.out (Lp.out (Lp.out (Lp.out (false))))))
                  else (
                    some (Lp.go (wrap64 (s185 + (1 : Int)))))))
              else (
                some (Lp.out (Lp.go ())))) n (0 : Int)).bind (lpK fun (_ : Unit) =>
            some (Lp.go (wrap64 (s154 + (1 : Int))))))
          else (
            some (Lp.out (Lp.go ())))) n (0 : Int)).bind (lpK fun (_ : Unit) =>
        (loopM (fun (s251 : Int) =>
          bif decide (s251 < (r5.Outs.length : Int)) then (
            jn (fun (j260 : (Bool) → Option _) =>
              (getI r5.Outs s251).bind fun y263 =>
              bif decide (y263 < (0 : Int)) then (
                j260 true)
              else (
                (getI r5.Outs s251).bind fun y265 =>
                bif decide ((r7.length : Int) ≤ y265) then (
                  j260 true)
                else (
                  (getI r5.Outs s251).bind fun y267 =>
                  (getI r7 y267).bind fun y269 =>
                  j260 (!y269)))) (fun (s262 : Bool) =>
              bif s262 then (
                some (Lp.out (Lp.out (false))))
              else (
                some (Lp.go (wrap64 (s251 + (1 : Int)))))))
          else (
            some (Lp.out (Lp.go ())))) n (0 : Int)).bind (lpK fun (_ : Unit) =>
        (m_retrospectlaw24_works n ).bind fun r271 =>
        some r271)))))
def m_retrospectref02_At (x0 : (List Nat)) (x1 : Int) : Option (Nat) :=
  bif decide (x1 < (x0.length : Int)) then (
    (getI x0 x1).bind fun y1 =>
    some y1)
  else (
    some 0)
def m_retrospectref02_Norm (n : Nat) (x0 : (List Nat)) : Option ((List Nat)) :=
  (loopM (fun (s19 : Int) =>
    jn (fun (j22 : (Bool) → Option _) =>
      bif decide ((0 : Int) < s19) then (
        (getI x0 (wrap64 (s19 - (1 : Int)))).bind fun y25 =>
        j22 (decide (y25 = 0)))
      else (
        j22 false)) (fun (s24 : Bool) =>
      bif s24 then (
        some (Lp.go (wrap64 (s19 - (1 : Int)))))
      else (
        some (Lp.out s19)))) n (x0.length : Int)).bind fun (t17 : Int) =>
  (sub x0 (0 : Int) t17).bind fun y27 =>
  (appM 4 ([] : List Nat) y27).bind fun y29 =>
  some y29
def m_retrospectref02_Add (n : Nat) (x0 : (List Nat)) (x1 : (List Nat)) : Option ((List Nat)) :=
  (mkM 4 (0 : Nat) (wrap64 ((max (x0.length : Int) (x1.length : Int)) + (1 : Int)))).bind fun y1 =>
  (loopM (fun (s24 : (List Nat) × Nat × Int) =>
    (some (decide (s24.2.2 < (wrap64 ((max (x0.length : Int) (x1.length : Int)) + (1 : Int)))))).bind fun z25 =>
    bif z25 then (
      (m_retrospectref02_At x0 s24.2.2).bind fun r26 =>
      (m_retrospectref02_At x1 s24.2.2).bind fun r28 =>
      (some (((s24.2.1 + ((r26 + r28) % 18446744073709551616)) % 18446744073709551616))).bind fun z30 =>
      (getI s24.1 s24.2.2).bind fun _ =>
      some (Lp.go ((List.set s24.1 (Int.toNat s24.2.2) ((z30 % 4294967296) % 4294967296)), (z30 / 4294967296), wrap64 (s24.2.2 + (1 : Int)))))
    else (
      some (Lp.out s24.1))) n (y1, 0, (0 : Int))).bind fun (t22 : (List Nat)) =>
  (m_retrospectref02_Norm n t22).bind fun r33 =>
  some r33
def m_retrospectref02_Same (n : Nat) (x0 : (List Nat)) (x1 : (List Nat)) : Option (Bool) :=
  bif !decide ((x0.length : Int) = (x1.length : Int)) then (
    some false)
  else (
    (loopM (fun (s13 : Int) =>
      bif decide (s13 < (x0.length : Int)) then (
        (getI x0 s13).bind fun y14 =>
        (getI x1 s13).bind fun y16 =>
        bif !decide (y14 = y16) then (
          some (Lp.out (Lp.out (false))))
        else (
          some (Lp.go (wrap64 (s13 + (1 : Int))))))
      else (
        some (Lp.out (Lp.go ())))) n (0 : Int)).bind (lpK fun (_ : Unit) =>
    some true))
def m_retrospectref04_Mul (n : Nat) (x0 : (List Nat)) (x1 : (List Nat)) : Option ((List Nat)) :=
  (mkM 4 (0 : Nat) (wrap64 ((x0.length : Int) + (x1.length : Int)))).bind fun y1 =>
  (loopM (fun (s77 : (List Nat) × Int) =>
    bif decide (s77.2 < (x0.length : Int)) then (
      (loopM (fun (s92 : (List Nat) × Nat × Int) =>
        bif decide (s92.2.2 < (x1.length : Int)) then (
          (getI x0 s77.2).bind fun y93 =>
          (getI x1 s92.2.2).bind fun y95 =>
          (getI s92.1 (wrap64 (s77.2 + s92.2.2))).bind fun y97 =>
          (some (((s92.2.1 + ((((y93 * y95) % 18446744073709551616) + y97) % 18446744073709551616)) % 18446744073709551616))).bind fun z99 =>
          (some (((s92.2.1 + ((((y93 * y95) % 18446744073709551616) + y97) % 18446744073709551616)) % 18446744073709551616))).bind fun _ =>
          (getI s92.1 (wrap64 (s77.2 + s92.2.2))).bind fun _ =>
          (some ((List.set s92.1 (Int.toNat (wrap64 (s77.2 + s92.2.2))) ((z99 % 4294967296) % 4294967296)))).bind fun z103 =>
          some (Lp.go (z103, (z99 / 4294967296), wrap64 (s92.2.2 + (1 : Int)))))
        else (
          some (Lp.out (s92.1, s92.2.1)))) n (s77.1, 0, (0 : Int))).bind fun (t90 : (List Nat) × Nat) =>
      (getI t90.1 (wrap64 (s77.2 + (x1.length : Int)))).bind fun _ =>
      (some ((List.set t90.1 (Int.toNat (wrap64 (s77.2 + (x1.length : Int)))) (t90.2 % 4294967296)))).bind fun z106 =>
      some (Lp.go (z106, wrap64 (s77.2 + (1 : Int)))))
    else (
      some (Lp.out s77.1))) n (y1, (0 : Int))).bind fun (t75 : (List Nat)) =>
  (m_retrospectref02_Norm n t75).bind fun r107 =>
  some r107
def m_retrospectref07_Read (n : Nat) (x0 : (List UInt8)) : Option ((List Nat)) :=
  (loopM (fun (s28 : (List Nat) × Int) =>
    bif decide (s28.2 < (x0.length : Int)) then (
      (m_retrospectref04_Mul n s28.1 ([10] : List Nat)).bind fun r29 =>
      (getS x0 s28.2).bind fun y31 =>
      (m_retrospectref02_Add n r29 ([((y31 + 4294967296 - 48) % 4294967296)] : List Nat)).bind fun r33 =>
      some (Lp.go (r33, wrap64 (s28.2 + (1 : Int)))))
    else (
      some (Lp.out s28.1))) n (([] : List Nat), (0 : Int))).bind fun (t26 : (List Nat)) =>
  some t26
def m_retrospectref07_ten (n : Nat) (x0 : (List Nat)) : Option (Nat × (List Nat)) :=
  (loopM (fun (s16 : (List Nat) × Nat × Int) =>
    bif decide ((0 : Int) ≤ s16.2.2) then (
      (getI s16.1 s16.2.2).bind fun y17 =>
      (some (((((s16.2.1 * 4294967296) % 18446744073709551616) + y17) % 18446744073709551616))).bind fun z19 =>
      (getI s16.1 s16.2.2).bind fun _ =>
      some (Lp.go ((List.set s16.1 (Int.toNat s16.2.2) ((z19 / 10) % 4294967296)), (z19 % 10), wrap64 (s16.2.2 - (1 : Int)))))
    else (
      some (Lp.out (s16.1, s16.2.1)))) n (x0, 0, wrap64 ((x0.length : Int) - (1 : Int)))).bind fun (t14 : (List Nat) × Nat) =>
  some (t14.2, t14.1)
def m_retrospectref07_Text (n : Nat) (x0 : (List Nat)) : Option ((List UInt8)) :=
  (m_retrospectref02_Norm n x0).bind fun r1 =>
  (loopM (fun (s29 : (List Nat) × (List UInt8)) =>
    jn (fun (j30 : (Bool) → Option _) =>
      bif decide ((0 : Int) < (s29.1.length : Int)) then (
        j30 true)
      else (
        j30 (decide (s29.2 = ([] : List UInt8))))) (fun (s32 : Bool) =>
      bif s32 then (
        (m_retrospectref07_ten n s29.1).bind fun r33 =>
        (sub ([48, 49, 50, 51, 52, 53, 54, 55, 56, 57] : List UInt8) (r33.1 : Int) (((r33.1 + 1) % 18446744073709551616) : Int)).bind fun y35 =>
        (catS y35 s29.2).bind fun y37 =>
        (m_retrospectref02_Norm n r33.2).bind fun r39 =>
        some (Lp.go (r39, y37)))
      else (
        some (Lp.out s29.2)))) n (r1, ([] : List UInt8))).bind fun (t27 : (List UInt8)) =>
  some t27
def m_retrospectref07_Trim (n : Nat) (x0 : (List UInt8)) : Option ((List UInt8)) :=
  (loopM (fun (s23 : (List UInt8)) =>
    jn (fun (j26 : (Bool) → Option _) =>
      bif decide ((1 : Int) < (s23.length : Int)) then (
        (getS s23 (0 : Int)).bind fun y29 =>
        j26 (decide (y29 = 48)))
      else (
        j26 false)) (fun (s28 : Bool) =>
      bif s28 then (
        (sub s23 (1 : Int) (s23.length : Int)).bind fun y31 =>
        some (Lp.go y31))
      else (
        some (Lp.out s23)))) n x0).bind fun (t21 : (List UInt8)) =>
  some t21
def m_retrospectref07_Wrong (n : Nat) (x0 : (List UInt8)) : Option (Int) :=
  bif decide (x0 = ([] : List UInt8)) then (
    some (0 : Int))
  else (
    (loopM (fun (s27 : Int) =>
      bif decide (s27 < (x0.length : Int)) then (
        jn (fun (j32 : (Bool) → Option _) =>
          (getS x0 s27).bind fun y35 =>
          bif decide (y35 < 48) then (
            j32 true)
          else (
            (getS x0 s27).bind fun y37 =>
            bif decide (57 < y37) then (
              j32 true)
            else (
              j32 (decide ((60 : Int) ≤ s27))))) (fun (s34 : Bool) =>
          bif s34 then (
            some (Lp.out (Lp.out (s27))))
          else (
            some (Lp.go (wrap64 (s27 + (1 : Int)))))))
      else (
        some (Lp.out (Lp.go ())))) n (0 : Int)).bind (lpK fun (_ : Unit) =>
    some (-1 : Int)))
def m_retrospectref16_digit (x0 : Nat) : Option (Bool) :=
  jn (fun (j1 : (Bool) → Option _) =>
    bif decide (48 ≤ x0) then (
      j1 (decide (x0 ≤ 57)))
    else (
      j1 false)) (fun (s3 : Bool) =>
    some s3)
def m_retrospectref16_letter (x0 : Nat) : Option (Bool) :=
  jn (fun (j1 : (Bool) → Option _) =>
    bif decide (97 ≤ x0) then (
      bif decide (x0 ≤ 122) then (
        j1 true)
      else (
        bif decide (65 ≤ x0) then (
          bif decide (x0 ≤ 90) then (
            j1 true)
          else (
            j1 (decide (x0 = 95))))
        else (
          j1 (decide (x0 = 95)))))
    else (
      bif decide (65 ≤ x0) then (
        bif decide (x0 ≤ 90) then (
          j1 true)
        else (
          j1 (decide (x0 = 95))))
      else (
        j1 (decide (x0 = 95))))) (fun (s3 : Bool) =>
    some s3)
def m_retrospectref16_Kind (n : Nat) (x0 : Nat) : Option (Int) :=
  (m_retrospectref16_digit x0).bind fun r1 =>
  bif r1 then (
    some (1 : Int))
  else (
    (m_retrospectref16_letter x0).bind fun r3 =>
    bif r3 then (
      some (2 : Int))
    else (
      (loopM (fun (s15 : Int) =>
        (some ((([43, 45, 42, 47, 94, 40, 41, 91, 93, 44, 59, 61] : List UInt8).length : Int))).bind fun z16 =>
        bif decide (s15 < z16) then (
          (getS ([43, 45, 42, 47, 94, 40, 41, 91, 93, 44, 59, 61] : List UInt8) s15).bind fun y17 =>
          bif decide (y17 = x0) then (
            some (Lp.out (Lp.out ((3 : Int)))))
          else (
            some (Lp.go (wrap64 (s15 + (1 : Int))))))
        else (
          some (Lp.out (Lp.go ())))) n (0 : Int)).bind (lpK fun (_ : Unit) =>
      some (0 : Int))))
def m_retrospectref16_Most (x0 : Int) : Option (Int) :=
  bif decide (x0 = (1 : Int)) then (
    some (60 : Int))
  else (
    bif decide (x0 = (2 : Int)) then (
      some (12 : Int))
    else (
      some (1 : Int)))
def m_retrospectref16_more (x0 : Int) (x1 : Nat) : Option (Bool) :=
  jn (fun (j11 : (Bool) → Option _) =>
    bif decide (x0 = (1 : Int)) then (
      (m_retrospectref16_digit x1).bind fun r14 =>
      bif r14 then (
        j11 true)
      else (
        bif decide (x0 = (2 : Int)) then (
          (m_retrospectref16_digit x1).bind fun r16 =>
          bif r16 then (
            j11 true)
          else (
            (m_retrospectref16_letter x1).bind fun r18 =>
            j11 r18))
        else (
          j11 false)))
    else (
      bif decide (x0 = (2 : Int)) then (
        (m_retrospectref16_digit x1).bind fun r20 =>
        bif r20 then (
          j11 true)
        else (
          (m_retrospectref16_letter x1).bind fun r22 =>
          j11 r22))
      else (
        j11 false))) (fun (s13 : Bool) =>
    some s13)
def m_retrospectref16_Scan (n : Nat) (x0 : (List UInt8)) : Option ((List M_retrospectref16_Word) × Int) :=
  bif decide ((4000 : Int) < (x0.length : Int)) then (
    some (([] : List M_retrospectref16_Word), (4000 : Int)))
  else (
    (loopM (fun (s407 : (List M_retrospectref16_Word) × Bool × Int) =>
      bif decide (s407.2.2 < (x0.length : Int)) then (
        jn (fun (j507 : ((List M_retrospectref16_Word) × Bool) → Option _) =>
          (getS x0 s407.2.2).bind fun y510 =>
          jn (fun (j512 : (Bool) → Option _) =>
            bif decide (y510 = 10) then (
              j512 false)
            else (
              j512 s407.2.1)) (fun (s514 : Bool) =>
            jn (fun (j515 : (Bool) → Option _) =>
              bif decide (y510 = 35) then (
                j515 true)
              else (
                j515 s514)) (fun (s517 : Bool) =>
              jn (fun (j518 : (Bool) → Option _) =>
                bif s517 then (
                  j518 true)
                else (
                  bif decide (y510 = 32) then (
                    j518 true)
                  else (
                    bif decide (y510 = 9) then (
                      j518 true)
                    else (
                      bif decide (y510 = 10) then (
                        j518 true)
                      else (
                        j518 (decide (y510 = 13))))))) (fun (s520 : Bool) =>
                bif s520 then (
                  j507 (s407.1, s517))
                else (
                  jn (fun (j558 : ((List M_retrospectref16_Word)) → Option _) =>
                    jn (fun (j571 : (Bool) → Option _) =>
                      bif decide ((0 : Int) < (s407.1.length : Int)) then (
                        (getI s407.1 (wrap64 ((s407.1.length : Int) - (1 : Int)))).bind fun y575 =>
                        (getI s407.1 (wrap64 ((s407.1.length : Int) - (1 : Int)))).bind fun y577 =>
                        bif decide ((wrap64 (y575.At + (y577.Text.length : Int))) = s407.2.2) then (
                          (getI s407.1 (wrap64 ((s407.1.length : Int) - (1 : Int)))).bind fun y580 =>
                          (m_retrospectref16_more y580.Kind y510).bind fun r582 =>
                          j571 r582)
                        else (
                          j571 false))
                      else (
                        j571 false)) (fun (s573 : Bool) =>
                      bif s573 then (
                        (getI s407.1 (wrap64 ((s407.1.length : Int) - (1 : Int)))).bind fun y584 =>
                        (sub x0 s407.2.2 (wrap64 (s407.2.2 + (1 : Int)))).bind fun y586 =>
                        (catS y584.Text y586).bind fun y588 =>
                        (getI s407.1 (wrap64 ((s407.1.length : Int) - (1 : Int)))).bind fun y590 =>
                        j558 (List.set s407.1 (Int.toNat (wrap64 ((s407.1.length : Int) - (1 : Int)))) (⟨y590.Kind, y588, y590.At⟩ : M_retrospectref16_Word)))
                      else (
                        (m_retrospectref16_Kind n y510).bind fun r592 =>
                        (sub x0 s407.2.2 (wrap64 (s407.2.2 + (1 : Int)))).bind fun y594 =>
                        (appM 32 s407.1 ([(⟨r592, y594, s407.2.2⟩ : M_retrospectref16_Word)] : List M_retrospectref16_Word)).bind fun y596 =>
                        j558 y596))) (fun (s560 : (List M_retrospectref16_Word)) =>
                    (getI s560 (wrap64 ((s560.length : Int) - (1 : Int)))).bind fun y598 =>
                    jn (fun (j603 : (Bool) → Option _) =>
                      bif decide (y598.Kind = (0 : Int)) then (
                        j603 true)
                      else (
                        (m_retrospectref16_Most y598.Kind).bind fun r607 =>
                        j603 (decide (r607 < (y598.Text.length : Int))))) (fun (s605 : Bool) =>
                      bif s605 then (
                        some (Lp.out (Lp.out ((([] : List M_retrospectref16_Word), s407.2.2)))))
                      else (
                        j507 (s560, s517))))))))) (fun (s509 : (List M_retrospectref16_Word) × Bool) =>
          some (Lp.go (s509.1, s509.2, wrap64 (s407.2.2 + (1 : Int))))))
      else (
        some (Lp.out (Lp.go s407.1)))) n (([] : List M_retrospectref16_Word), false, (0 : Int))).bind (lpK fun (t405 : (List M_retrospectref16_Word)) =>
    some (t405, (-1 : Int))))
def m_retrospectref16_Right (n : Nat) (x0 : M_retrospectref16_Word) : Option (Bool) :=
  (m_retrospectref16_Scan n x0.Text).bind fun r1 =>
  jn (fun (j10 : (Bool) → Option _) =>
    bif decide (r1.2 < (0 : Int)) then (
      bif decide ((r1.1.length : Int) = (1 : Int)) then (
        (getI r1.1 (0 : Int)).bind fun y15 =>
        bif decide (y15.Kind = x0.Kind) then (
          (getI r1.1 (0 : Int)).bind fun y18 =>
          j10 (decide (y18.Text = x0.Text)))
        else (
          j10 false))
      else (
        j10 false))
    else (
      j10 false)) (fun (s12 : Bool) =>
    some s12)
def m_retrospectref17_Arity (x0 : Int) : Option (Int) :=
  jn (fun (j1 : (Bool) → Option _) =>
    bif decide ((1 : Int) ≤ x0) then (
      j1 (decide (x0 ≤ (5 : Int))))
    else (
      j1 false)) (fun (s3 : Bool) =>
    bif s3 then (
      some (0 : Int))
    else (
      jn (fun (j4 : (Bool) → Option _) =>
        bif decide (x0 = (6 : Int)) then (
          j4 true)
        else (
          j4 (decide (x0 = (11 : Int))))) (fun (s6 : Bool) =>
        bif s6 then (
          some (1 : Int))
        else (
          jn (fun (j7 : (Bool) → Option _) =>
            bif decide ((7 : Int) ≤ x0) then (
              j7 (decide (x0 ≤ (10 : Int))))
            else (
              j7 false)) (fun (s9 : Bool) =>
            bif s9 then (
              some (2 : Int))
            else (
              some (-1 : Int)))))))
def m_retrospectref17_Codes (n : Nat) (x0 : M_retrospectref17_Field) : Option ((List (List M_retrospectref17_Node))) :=
  (loopM (fun (s13 : (List (List M_retrospectref17_Node)) × Int) =>
    bif decide (s13.2 < (x0.Lets.length : Int)) then (
      (getI x0.Lets s13.2).bind fun y14 =>
      (appM 24 s13.1 ([y14.Code] : List (List M_retrospectref17_Node))).bind fun y16 =>
      some (Lp.go (y16, wrap64 (s13.2 + (1 : Int)))))
    else (
      some (Lp.out s13.1))) n (([] : List (List M_retrospectref17_Node)), (0 : Int))).bind fun (t11 : (List (List M_retrospectref17_Node))) =>
  (appM 24 t11 x0.Outs).bind fun y18 =>
  some y18
def m_retrospectref17_Deep : Nat → (List M_retrospectref17_Node) → Int → Option (Int × Int)
  | 0, _, _ => none
  | n + 1, x0, x1 =>
    (getI x0 x1).bind fun y1 =>
    (m_retrospectref17_Arity y1.Op).bind fun r3 =>
    (loopM (fun (s13 : Int × Int × Int) =>
      bif decide ((0 : Int) < s13.2.2) then (
        (m_retrospectref17_Deep n x0 (wrap64 (s13.2.1 - (1 : Int)))).bind fun r14 =>
        some (Lp.go (max s13.1 r14.1, r14.2, wrap64 (s13.2.2 - (1 : Int)))))
      else (
        some (Lp.out (s13.1, s13.2.1)))) n ((0 : Int), x1, r3)).bind fun (t11 : Int × Int) =>
    some (wrap64 (t11.1 + (1 : Int)), t11.2)
def m_retrospectref17_Wrong (n : Nat) (x0 : (List M_retrospectref17_Node)) : Option (Int) :=
  (loopM (fun (s19 : Int × Int) =>
    bif decide (s19.2 < (x0.length : Int)) then (
      (getI x0 s19.2).bind fun y20 =>
      (m_retrospectref17_Arity y20.Op).bind fun r22 =>
      jn (fun (j24 : (Bool) → Option _) =>
        bif decide (r22 < (0 : Int)) then (
          j24 true)
        else (
          j24 (decide (s19.1 < r22)))) (fun (s26 : Bool) =>
        bif s26 then (
          some (Lp.out (Lp.out (s19.2))))
        else (
          some (Lp.go (wrap64 ((wrap64 (s19.1 - r22)) + (1 : Int)), wrap64 (s19.2 + (1 : Int)))))))
    else (
      some (Lp.out (Lp.go s19.1)))) n ((0 : Int), (0 : Int))).bind (lpK fun (t17 : Int) =>
  bif decide (t17 = (1 : Int)) then (
    some (-1 : Int))
  else (
    some (x0.length : Int)))
def m_retrospectref17_Depth (n : Nat) (x0 : (List M_retrospectref17_Node)) : Option (Int) :=
  (m_retrospectref17_Wrong n x0).bind fun r1 =>
  bif decide ((0 : Int) ≤ r1) then (
    some (0 : Int))
  else (
    (m_retrospectref17_Deep n x0 (wrap64 ((x0.length : Int) - (1 : Int)))).bind fun r3 =>
    some r3.1)
def m_retrospectref17_Long (n : Nat) (x0 : (List M_retrospectref17_Node)) (x1 : Int) (x2 : Int) : Option (Bool) :=
  (loopM (fun (s15 : Int) =>
    jn (fun (j16 : (Bool) → Option _) =>
      bif decide (s15 < (x0.length : Int)) then (
        j16 (decide (s15 < x1)))
      else (
        j16 false)) (fun (s18 : Bool) =>
      bif s18 then (
        (getI x0 s15).bind fun y19 =>
        bif decide (x2 < (y19.N.length : Int)) then (
          some (Lp.out (Lp.out (true))))
        else (
          some (Lp.go (wrap64 (s15 + (1 : Int))))))
      else (
        some (Lp.out (Lp.go ()))))) n (0 : Int)).bind (lpK fun (_ : Unit) =>
  some (decide (x1 < (x0.length : Int))))
def m_retrospectref17_LongField (n : Nat) (x0 : M_retrospectref17_Field) (x1 : Int) (x2 : Int) (x3 : Int) : Option (Bool) :=
  jn (fun (j1 : (Bool) → Option _) =>
    bif decide (x1 < (x0.Lets.length : Int)) then (
      j1 true)
    else (
      j1 (decide (x1 < (x0.Outs.length : Int))))) (fun (s3 : Bool) =>
    bif s3 then (
      some true)
    else (
      (loopM (fun (s38 : Int) =>
        bif decide (s38 < (x0.Lets.length : Int)) then (
          jn (fun (j45 : (Bool) → Option _) =>
            (getI x0.Lets s38).bind fun y48 =>
            bif decide ((100 : Int) < (y48.Name.length : Int)) then (
              j45 true)
            else (
              (getI x0.Lets s38).bind fun y50 =>
              (m_retrospectref17_Long n y50.Code x2 x3).bind fun r52 =>
              j45 r52)) (fun (s47 : Bool) =>
            bif s47 then (
              some (Lp.out (Lp.out (true))))
            else (
              some (Lp.go (wrap64 (s38 + (1 : Int)))))))
        else (
          some (Lp.out (Lp.go ())))) n (0 : Int)).bind (lpK fun (_ : Unit) =>
      (loopM (fun (s66 : Int) =>
        bif decide (s66 < (x0.Outs.length : Int)) then (
          (getI x0.Outs s66).bind fun y67 =>
          (m_retrospectref17_Long n y67 x2 x3).bind fun r69 =>
          bif r69 then (
            some (Lp.out (Lp.out (true))))
          else (
            some (Lp.go (wrap64 (s66 + (1 : Int))))))
        else (
          some (Lp.out (Lp.go ())))) n (0 : Int)).bind (lpK fun (_ : Unit) =>
      some false))))
def m_retrospectref17_Size (n : Nat) (x0 : M_retrospectref17_Field) : Option (Int) :=
  (m_retrospectref17_Codes n x0).bind fun r1 =>
  (loopM (fun (s11 : Int × Int) =>
    bif decide (s11.2 < (r1.length : Int)) then (
      (getI r1 s11.2).bind fun y12 =>
      some (Lp.go (wrap64 (s11.1 + (y12.length : Int)), wrap64 (s11.2 + (1 : Int)))))
    else (
      some (Lp.out s11.1))) n ((0 : Int), (0 : Int))).bind fun (t9 : Int) =>
  some t9
def m_retrospectref48_named (n : Nat) (x0 : (List UInt8)) : Option (Bool) :=
  (m_retrospectref16_Right n (⟨(2 : Int), x0, 0⟩ : M_retrospectref16_Word)).bind fun r1 =>
  some r1
def m_retrospectref48_May (n : Nat) (x0 : (List M_retrospectref48_Piece)) : Option (Bool) :=
  bif decide ((30 : Int) < (x0.length : Int)) then (
    some false)
  else (
    (loopM (fun (s64 : Int) =>
      bif decide (s64 < (x0.length : Int)) then (
        jn (fun (j71 : (Bool) → Option _) =>
          (getI x0 s64).bind fun y74 =>
          (m_retrospectref48_named n y74.Name).bind fun r76 =>
          bif !r76 then (
            j71 true)
          else (
            (getI x0 s64).bind fun y78 =>
            j71 (decide ((20000 : Int) < (y78.Text.length : Int))))) (fun (s73 : Bool) =>
          bif s73 then (
            some (Lp.out (Lp.out (false))))
          else (
            (loopM (fun (s87 : Int) =>
              bif decide (s87 < s64) then (
                (getI x0 s87).bind fun y88 =>
                (getI x0 s64).bind fun y90 =>
                bif decide (y88.Name = y90.Name) then (
                  some (Lp.out (Lp.out (Lp.out (Lp.out (false))))))
                else (
                  some (Lp.go (wrap64 (s87 + (1 : Int))))))
              else (
                some (Lp.out (Lp.go ())))) n (0 : Int)).bind (lpK fun (_ : Unit) =>
            some (Lp.go (wrap64 (s64 + (1 : Int))))))))
      else (
        some (Lp.out (Lp.go ())))) n (0 : Int)).bind (lpK fun (_ : Unit) =>
    some true))
def m_tree_Arity (x0 : Int) : Option (Int) :=
  jn (fun (j1 : (Bool) → Option _) =>
    bif decide (x0 = (1 : Int)) then (
      j1 (decide (x0 = (1 : Int))))
    else (
      bif decide (x0 = (2 : Int)) then (
        j1 (decide (x0 = (2 : Int))))
      else (
        bif decide (x0 = (3 : Int)) then (
          j1 (decide (x0 = (3 : Int))))
        else (
          bif decide (x0 = (4 : Int)) then (
            j1 (decide (x0 = (4 : Int))))
          else (
            j1 (decide (x0 = (5 : Int)))))))) (fun (s3 : Bool) =>
    bif s3 then (
      some (0 : Int))
    else (
      jn (fun (j4 : (Bool) → Option _) =>
        bif decide (x0 = (6 : Int)) then (
          j4 (decide (x0 = (6 : Int))))
        else (
          j4 (decide (x0 = (11 : Int))))) (fun (s6 : Bool) =>
        bif s6 then (
          some (1 : Int))
        else (
          jn (fun (j7 : (Bool) → Option _) =>
            bif decide (x0 = (7 : Int)) then (
              j7 (decide (x0 = (7 : Int))))
            else (
              bif decide (x0 = (8 : Int)) then (
                j7 (decide (x0 = (8 : Int))))
              else (
                bif decide (x0 = (9 : Int)) then (
                  j7 (decide (x0 = (9 : Int))))
                else (
                  j7 (decide (x0 = (10 : Int))))))) (fun (s9 : Bool) =>
            bif s9 then (
              some (2 : Int))
            else (
              some (-1 : Int)))))))
def m_tree_copied (x0 : (List M_tree_Node)) : Option ((List M_tree_Node)) :=
  (rangeL (fun (_ : Nat) (x20 : M_tree_Node) (s18 : (List M_tree_Node)) =>
    (appM 4 ([] : List Nat) x20.N).bind fun y22 =>
    (appM 40 s18 ([(⟨x20.Op, x20.I, y22⟩ : M_tree_Node)] : List M_tree_Node)).bind fun y24 =>
    some (Lp.go y24)) x0 0 ([] : List M_tree_Node)).bind (lpK fun (s26 : (List M_tree_Node)) =>
  some s26)
def m_tree_Codes (x0 : M_tree_Field) : Option ((List (List M_tree_Node))) :=
  (rangeL (fun (_ : Nat) (x20 : M_tree_Let) (s18 : (List (List M_tree_Node))) =>
    (m_tree_copied x20.Code).bind fun r22 =>
    (appM 24 s18 ([r22] : List (List M_tree_Node))).bind fun y24 =>
    some (Lp.go y24)) x0.Lets 0 ([] : List (List M_tree_Node))).bind (lpK fun (s26 : (List (List M_tree_Node))) =>
  (rangeL (fun (_ : Nat) (x46 : (List M_tree_Node)) (s44 : (List (List M_tree_Node))) =>
    (m_tree_copied x46).bind fun r48 =>
    (appM 24 s44 ([r48] : List (List M_tree_Node))).bind fun y50 =>
    some (Lp.go y50)) x0.Outs 0 s26).bind (lpK fun (s52 : (List (List M_tree_Node))) =>
  some s52))
def m_tree_Wrong (x0 : (List M_tree_Node)) : Option (Int) :=
  (rangeL (fun (i21 : Nat) (x22 : M_tree_Node) (s20 : Int) =>
    (m_tree_Arity x22.Op).bind fun r24 =>
    jn (fun (j26 : (Bool) → Option _) =>
      bif decide (r24 < (0 : Int)) then (
        j26 true)
      else (
        j26 (decide (s20 < r24)))) (fun (s28 : Bool) =>
      bif s28 then (
        some (Lp.out ((i21 : Int))))
      else (
        some (Lp.go (wrap64 (s20 + (wrap64 ((1 : Int) - r24)))))))) x0 0 (0 : Int)).bind (lpK fun (s29 : Int) =>
  bif !decide (s29 = (1 : Int)) then (
    some (x0.length : Int))
  else (
    some (-1 : Int)))
def m_tree_Right (x0 : (List M_tree_Node)) : Option (Bool) :=
  (m_tree_Wrong x0).bind fun r1 =>
  some (decide (r1 < (0 : Int)))
def m_tree_Depth (n : Nat) (x0 : (List M_tree_Node)) : Option (Int) :=
  (m_tree_Right x0).bind fun r1 =>
  bif !r1 then (
    some (0 : Int))
  else (
    (rangeL (fun (_ : Nat) (x51 : M_tree_Node) (s49 : (List Int)) =>
      (m_tree_Arity x51.Op).bind fun r53 =>
      (loopM (fun (s62 : (List Int) × Int × Int) =>
        bif decide (s62.2.2 < r53) then (
          (getI s62.1 (wrap64 ((s62.1.length : Int) - (1 : Int)))).bind fun y63 =>
          (sub s62.1 (0 : Int) (wrap64 ((s62.1.length : Int) - (1 : Int)))).bind fun y65 =>
          some (Lp.go (y65, max s62.2.1 y63, wrap64 (s62.2.2 + (1 : Int)))))
        else (
          some (Lp.out (s62.1, s62.2.1)))) n (s49, (0 : Int), (0 : Int))).bind fun (t60 : (List Int) × Int) =>
      (appM 8 t60.1 ([wrap64 (t60.2 + (1 : Int))] : List Int)).bind fun y67 =>
      some (Lp.go y67)) x0 0 ([] : List Int)).bind (lpK fun (s69 : (List Int)) =>
    (getI s69 (0 : Int)).bind fun y70 =>
    some y70))
def m_tree_Size (x0 : M_tree_Field) : Option (Int) :=
  (m_tree_Codes x0).bind fun r1 =>
  (rangeL (fun (_ : Nat) (x14 : (List M_tree_Node)) (s12 : Int) =>
    some (Lp.go (wrap64 (s12 + (x14.length : Int))))) r1 0 (0 : Int)).bind (lpK fun (s16 : Int) =>
  some s16)
def m_twos_Len (n : Nat) (x0 : (List Nat)) : Option (Int) :=
  (m_nat_Norm n x0).bind fun r1 =>
  bif decide ((r1.length : Int) = (0 : Int)) then (
    some (0 : Int))
  else (
    (getI r1 (wrap64 ((r1.length : Int) - (1 : Int)))).bind fun y3 =>
    (m_limb_Len n y3).bind fun r5 =>
    (some (wrap64 ((wrap64 ((32 : Int) * (wrap64 ((r1.length : Int) - (1 : Int))))) + r5))).bind fun z7 =>
    some z7)
def m_wire_named (n : Nat) (x0 : (List UInt8)) : Option (Bool) :=
  (m_lex_Right n (⟨(2 : Int), x0, 0⟩ : M_lex_Word)).bind fun r1 =>
  some r1
def m_wire_may (n : Nat) (x0 : (List M_wire_Piece)) : Option (Bool) :=
  (rangeL (fun (i26 : Nat) (x27 : M_wire_Piece) (_ : Unit) =>
    jn (fun (j31 : (Bool) → Option _) =>
      (m_wire_named n x27.Name).bind fun r34 =>
      bif !r34 then (
        j31 true)
      else (
        j31 (decide ((20000 : Int) < (x27.Text.length : Int))))) (fun (s33 : Bool) =>
      bif s33 then (
        some (Lp.out (false)))
      else (
        (sub x0 (0 : Int) (i26 : Int)).bind fun y36 =>
        (rangeL (fun (_ : Nat) (x45 : M_wire_Piece) (_ : Unit) =>
          bif decide (x45.Name = x27.Name) then (
            some (Lp.out (Lp.out (false))))
          else (
            some (Lp.go ()))) y36 0 ()).bind (lpK fun (_ : Unit) =>
        some (Lp.go ()))))) x0 0 ()).bind (lpK fun (_ : Unit) =>
  some (decide ((x0.length : Int) ≤ (30 : Int))))
def m_wire_Pack (n : Nat) (x0 : (List M_wire_Piece)) : Option ((List UInt8) × Bool) :=
  (m_wire_may n x0).bind fun r1 =>
  bif !r1 then (
    some (([] : List UInt8), false))
  else (
    (rangeL (fun (_ : Nat) (x42 : M_wire_Piece) (s40 : (List UInt8)) =>
      (catS x42.Name ([61] : List UInt8)).bind fun y44 =>
      (m_strconv_Itoa (x42.Text.length : Int)).bind fun r46 =>
      (catS y44 r46).bind fun y48 =>
      (catS y48 ([58] : List UInt8)).bind fun y50 =>
      (catS y50 x42.Text).bind fun y52 =>
      (catS y52 ([59] : List UInt8)).bind fun y54 =>
      (appM 1 s40 y54).bind fun y56 =>
      some (Lp.go y56)) x0 0 ([] : List UInt8)).bind (lpK fun (s58 : (List UInt8)) =>
    some (s58, true)))
def m_wire_length (n : Nat) (x0 : (List UInt8)) : Option (Int) :=
  (m_digits_Read n x0).bind fun r1 =>
  jn (fun (j5 : (Bool) → Option _) =>
    bif !(eqb_api_Fault r1.2 (⟨0, 0, 0, 0⟩ : M_api_Fault)) then (
      j5 true)
    else (
      bif decide ((5 : Int) < (x0.length : Int)) then (
        j5 true)
      else (
        (m_digits_Text n r1.1).bind fun r8 =>
        j5 (!decide (r8 = x0))))) (fun (s7 : Bool) =>
    bif s7 then (
      some (-1 : Int))
    else (
      (m_nat_Small n r1.1).bind fun r10 =>
      some (wrap64 (r10.1 : Int))))
end Go.Proofs.YtiobbiamnjapgaaDoor
