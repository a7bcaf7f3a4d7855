import Derived.Test.YtcmhibdigkdjiaaGreatDoorLibM
set_option maxRecDepth 100000
set_option maxHeartbeats 4000000
namespace Go.Proofs.YtcmhibdigkdjiaaGreatDoor
open Go Go.RowKit
structure M_gauge_Count where
  Seen : Int
  Peak : Int
structure M_gauge_Gauge where
  Count : M_gauge_Count
  limit : Int
structure M_whole_Whole where
  Neg : Bool
  Abs : (List Nat)
structure M_frac_Frac where
  Num : M_whole_Whole
  Den : (List Nat)
structure M_tape_Inst where
  Op : Int
  A : Int
  B : Int
  N : M_frac_Frac
structure M_tape_Tape where
  Code : (List M_tape_Inst)
  Outs : (List Int)
  Dim : Int
  Par : Int
structure M_scheme_Scheme where
  Name : (List UInt8)
  C : (List M_frac_Frac)
  A : (List (List M_frac_Frac))
  B : (List M_frac_Frac)
  E : (List M_frac_Frac)
structure M_step_Problem where
  Tape : M_tape_Tape
  Scheme : M_scheme_Scheme
  P : (List M_frac_Frac)
  Bits : Int
structure M_api_Fault where
  Kind : Int
  Step : Int
  Stage : Int
  At : Int
def eqb_api_Fault (x y : M_api_Fault) : Bool := ((x.Kind == y.Kind) && ((x.Step == y.Step) && ((x.Stage == y.Stage) && ((x.At == y.At) && true))))
structure M_eval_Point where
  T : M_frac_Frac
  Y : (List M_frac_Frac)
  P : (List M_frac_Frac)
structure M_run_Inputs_frac_Frac_ where
  T : M_frac_Frac
  Y : (List M_frac_Frac)
  P : (List M_frac_Frac)
structure M_tape_numbers where
  op : Int
  a : Int
  b : Int
def eqb_tape_numbers (x y : M_tape_numbers) : Bool := ((x.op == y.op) && ((x.a == y.a) && ((x.b == y.b) && true)))
structure M_lex_Word where
  Kind : Int
  Text : (List UInt8)
  At : Int
structure M_A9_u8 where
  a0 : Nat
  a1 : Nat
  a2 : Nat
  a3 : Nat
  a4 : Nat
  a5 : Nat
  a6 : Nat
  a7 : Nat
  a8 : Nat
def ofl_A9_u8 : List Nat → M_A9_u8
  | [a0, a1, a2, a3, a4, a5, a6, a7, a8] => ⟨a0, a1, a2, a3, a4, a5, a6, a7, a8⟩
  | _ => (⟨0, 0, 0, 0, 0, 0, 0, 0, 0⟩ : M_A9_u8)
structure M_past_Try where
  T : M_frac_Frac
  Want : M_frac_Frac
  H : M_frac_Frac
  Err : M_frac_Frac
  Y : (List M_frac_Frac)
  Ok : Bool
structure M_past_History where
  Tries : (List M_past_Try)
  T : M_frac_Frac
  Y : (List M_frac_Frac)
structure M_step_Made where
  Ys : (List (List M_frac_Frac))
  Ks : (List (List M_frac_Frac))
  Next : (List M_frac_Frac)
  Err : (List M_frac_Frac)
structure M_retrospectref09_Frac where
  Neg : Bool
  N : (List Nat)
  D : (List Nat)
structure M_retrospectref17_Node where
  Op : Int
  I : Int
  N : (List Nat)
structure M_tree_Node where
  Op : Int
  I : Int
  N : (List Nat)
structure M_retrospectref17_Let where
  Name : (List UInt8)
  Code : (List M_retrospectref17_Node)
structure M_retrospectref17_Field where
  Lets : (List M_retrospectref17_Let)
  Outs : (List (List M_retrospectref17_Node))
structure M_tree_Let where
  Name : (List UInt8)
  Code : (List M_tree_Node)
structure M_tree_Field where
  Lets : (List M_tree_Let)
  Outs : (List (List M_tree_Node))
structure M_retrospectref24_Inst where
  Op : Int
  A : Int
  B : Int
  N : M_retrospectref09_Frac
structure M_retrospectref24_Tape where
  Code : (List M_retrospectref24_Inst)
  Outs : (List Int)
  Dim : Int
  Par : Int
structure M_retrospectref30_Scheme where
  Name : (List UInt8)
  C : (List M_retrospectref09_Frac)
  A : (List (List M_retrospectref09_Frac))
  B : (List M_retrospectref09_Frac)
  E : (List M_retrospectref09_Frac)
structure M_retrospectlaw33_From where
  T : M_retrospectref09_Frac
  H : M_retrospectref09_Frac
  Y : (List M_retrospectref09_Frac)
structure M_retrospectref33_Problem where
  Tape : M_retrospectref24_Tape
  Scheme : M_retrospectref30_Scheme
  P : (List M_retrospectref09_Frac)
  Bits : Int
structure M_A6_string where
  a0 : (List UInt8)
  a1 : (List UInt8)
  a2 : (List UInt8)
  a3 : (List UInt8)
  a4 : (List UInt8)
  a5 : (List UInt8)
structure M_scheme_reader where
  rest : (List UInt8)
  at_ : Int
  over : Bool
def B_S_u32 (xs : List Nat) : Prop := xs.length ≤ maxLen ∧ ∀ x ∈ xs, (x < 4294967296)
def B_retrospectref17_Node (x : M_retrospectref17_Node) : Prop := (-9223372036854775808 ≤ x.Op ∧ x.Op ≤ 9223372036854775807) ∧ (-9223372036854775808 ≤ x.I ∧ x.I ≤ 9223372036854775807) ∧ B_S_u32 x.N ∧ True
def B_S_retrospectref17_Node (xs : List M_retrospectref17_Node) : Prop := xs.length ≤ maxLen ∧ ∀ x ∈ xs, B_retrospectref17_Node x
def B_retrospectref17_Let (x : M_retrospectref17_Let) : Prop := (x.Name.length ≤ maxLen) ∧ B_S_retrospectref17_Node x.Code ∧ True
def B_S_retrospectref17_Let (xs : List M_retrospectref17_Let) : Prop := xs.length ≤ maxLen ∧ ∀ x ∈ xs, B_retrospectref17_Let x
def B_S_S_retrospectref17_Node (xs : List (List M_retrospectref17_Node)) : Prop := xs.length ≤ maxLen ∧ ∀ x ∈ xs, B_S_retrospectref17_Node x
def B_retrospectref17_Field (x : M_retrospectref17_Field) : Prop := B_S_retrospectref17_Let x.Lets ∧ B_S_S_retrospectref17_Node x.Outs ∧ True
def B_retrospectref09_Frac (x : M_retrospectref09_Frac) : Prop := True ∧ B_S_u32 x.N ∧ B_S_u32 x.D ∧ True
def B_retrospectref24_Inst (x : M_retrospectref24_Inst) : Prop := (-9223372036854775808 ≤ x.Op ∧ x.Op ≤ 9223372036854775807) ∧ (-9223372036854775808 ≤ x.A ∧ x.A ≤ 9223372036854775807) ∧ (-9223372036854775808 ≤ x.B ∧ x.B ≤ 9223372036854775807) ∧ B_retrospectref09_Frac x.N ∧ True
def B_S_retrospectref24_Inst (xs : List M_retrospectref24_Inst) : Prop := xs.length ≤ maxLen ∧ ∀ x ∈ xs, B_retrospectref24_Inst x
def B_S_i64 (xs : List Int) : Prop := xs.length ≤ maxLen ∧ ∀ x ∈ xs, (-9223372036854775808 ≤ x ∧ x ≤ 9223372036854775807)
def B_retrospectref24_Tape (x : M_retrospectref24_Tape) : Prop := B_S_retrospectref24_Inst x.Code ∧ B_S_i64 x.Outs ∧ (-9223372036854775808 ≤ x.Dim ∧ x.Dim ≤ 9223372036854775807) ∧ (-9223372036854775808 ≤ x.Par ∧ x.Par ≤ 9223372036854775807) ∧ True
def B_S_retrospectref09_Frac (xs : List M_retrospectref09_Frac) : Prop := xs.length ≤ maxLen ∧ ∀ x ∈ xs, B_retrospectref09_Frac x
def B_S_S_retrospectref09_Frac (xs : List (List M_retrospectref09_Frac)) : Prop := xs.length ≤ maxLen ∧ ∀ x ∈ xs, B_S_retrospectref09_Frac x
def B_retrospectref30_Scheme (x : M_retrospectref30_Scheme) : Prop := (x.Name.length ≤ maxLen) ∧ B_S_retrospectref09_Frac x.C ∧ B_S_S_retrospectref09_Frac x.A ∧ B_S_retrospectref09_Frac x.B ∧ B_S_retrospectref09_Frac x.E ∧ True
def B_retrospectref33_Problem (x : M_retrospectref33_Problem) : Prop := B_retrospectref24_Tape x.Tape ∧ B_retrospectref30_Scheme x.Scheme ∧ B_S_retrospectref09_Frac x.P ∧ (-9223372036854775808 ≤ x.Bits ∧ x.Bits ≤ 9223372036854775807) ∧ True
def B_retrospectlaw33_From (x : M_retrospectlaw33_From) : Prop := B_retrospectref09_Frac x.T ∧ B_retrospectref09_Frac x.H ∧ B_S_retrospectref09_Frac x.Y ∧ True
def m___gauge_Count__note (x0 : M_gauge_Gauge) (x1 : Int) : Option (M_gauge_Gauge) :=
  some (⟨(⟨wrap64 (x0.Count.Seen + (1 : Int)), max x0.Count.Peak x1⟩ : M_gauge_Count), x0.limit⟩ : M_gauge_Gauge)
def m_nat_trim (n : Nat) (x0 : (List Nat)) : Option ((List Nat)) :=
  (loopM (fun (s19 : Int) =>
    jn (fun (j22 : (Bool) → Option _) =>
      bif decide ((0 : Int) < s19) then (
        (getI x0 (wrap64 (s19 - (1 : Int)))).bind fun y25 =>
        j22 (decide (y25 = 0)))
      else (
        j22 false)) (fun (s24 : Bool) =>
      bif s24 then (
        some (Lp.go (wrap64 (s19 - (1 : Int)))))
      else (
        some (Lp.out s19)))) n (x0.length : Int)).bind fun (t17 : Int) =>
  (sub x0 (0 : Int) t17).bind fun y27 =>
  some y27
def m_nat_fresh (x0 : (List Nat)) (x1 : Int) : Option ((List Nat)) :=
  (mkM 4 (0 : Nat) (wrap64 ((x0.length : Int) + x1))).bind fun y1 =>
  some (cpyL y1 x0)
def m_nat_Norm (n : Nat) (x0 : (List Nat)) : Option ((List Nat)) :=
  (m_nat_trim n x0).bind fun r1 =>
  (m_nat_fresh r1 (0 : Int)).bind fun r3 =>
  some r3
def m_limb_Len (n : Nat) (x0 : Nat) : Option (Int) :=
  (loopM (fun (s15 : Nat × Int × Int) =>
    bif decide ((0 : Int) < s15.2.2) then (
      jn (fun (j18 : (Nat × Int) → Option _) =>
        (grd (decide (0 ≤ s15.2.2))).bind fun _ =>
        bif !decide ((s15.1 / 2 ^ (min (Int.toNat s15.2.2) 32)) = 0) then (
          (grd (decide (0 ≤ s15.2.2))).bind fun _ =>
          j18 ((s15.1 / 2 ^ (min (Int.toNat s15.2.2) 32)), wrap64 (s15.2.1 + s15.2.2)))
        else (
          j18 (s15.1, s15.2.1))) (fun (s20 : Nat × Int) =>
        some (Lp.go (s20.1, s20.2, wrap64 (Int.tdiv s15.2.2 (2 : Int))))))
    else (
      some (Lp.out (s15.1, s15.2.1)))) n (x0, (0 : Int), (16 : Int))).bind fun (t13 : Nat × Int) =>
  some (wrap64 (t13.2 + (t13.1 : Int)))
def m_twos_Len (n : Nat) (x0 : (List Nat)) : Option (Int) :=
  (m_nat_Norm n x0).bind fun r1 =>
  bif decide ((r1.length : Int) = (0 : Int)) then (
    some (0 : Int))
  else (
    (getI r1 (wrap64 ((r1.length : Int) - (1 : Int)))).bind fun y3 =>
    (m_limb_Len n y3).bind fun r5 =>
    (some (wrap64 ((wrap64 ((32 : Int) * (wrap64 ((r1.length : Int) - (1 : Int))))) + r5))).bind fun z7 =>
    some z7)
def m_frac_Size (n : Nat) (x0 : M_frac_Frac) : Option (Int) :=
  (m_twos_Len n x0.Num.Abs).bind fun r1 =>
  (m_twos_Len n x0.Den).bind fun r3 =>
  some (wrap64 (r1 + r3))
def m___gauge_Gauge__Take (n : Nat) (x0 : M_gauge_Gauge) (x1 : M_frac_Frac) : Option (Bool × M_gauge_Gauge) :=
  (m_frac_Size n x1).bind fun r1 =>
  (m___gauge_Count__note x0 r1).bind fun r3 =>
  some (decide (r1 ≤ r3.limit), r3)
def m___gauge_Gauge__Row (n : Nat) (x0 : M_gauge_Gauge) (x1 : (List M_frac_Frac)) : Option (Int × Bool × M_gauge_Gauge) :=
  (rangeL (fun (i15 : Nat) (x16 : M_frac_Frac) (s14 : M_gauge_Gauge) =>
    (m___gauge_Gauge__Take n s14 x16).bind fun r18 =>
    bif !r18.1 then (
      some (Lp.out (((i15 : Int), false, r18.2))))
    else (
      some (Lp.go r18.2))) x1 0 x0).bind (lpK fun (s20 : M_gauge_Gauge) =>
  some ((x1.length : Int), true, s20))
def m_nat_Of (n : Nat) (x0 : Nat) : Option ((List Nat)) :=
  (m_nat_trim n ([(x0 % 4294967296), ((x0 / 2 ^ 32) % 4294967296)] : List Nat)).bind fun r1 =>
  some r1
def m_whole_signed (x0 : Bool) (x1 : (List Nat)) : Option (M_whole_Whole) :=
  jn (fun (j1 : (M_whole_Whole) → Option _) =>
    bif x0 then (
      j1 (⟨decide ((0 : Int) < (x1.length : Int)), x1⟩ : M_whole_Whole))
    else (
      j1 (⟨false, x1⟩ : M_whole_Whole))) (fun (s3 : M_whole_Whole) =>
    some s3)
def m_whole_Of (n : Nat) (x0 : Int) : Option (M_whole_Whole) :=
  bif decide (x0 < (0 : Int)) then (
    (some (((18446744073709551616 - (Int.toNat (x0 % 18446744073709551616))) % 18446744073709551616))).bind fun z1 =>
    (m_nat_Of n z1).bind fun r2 =>
    (m_whole_signed true r2).bind fun r4 =>
    some r4)
  else (
    (m_nat_Of n (Int.toNat (x0 % 18446744073709551616))).bind fun r6 =>
    (m_whole_signed false r6).bind fun r8 =>
    some r8)
def m_frac_Of (n : Nat) (x0 : Int) : Option (M_frac_Frac) :=
  (m_whole_Of n x0).bind fun r1 =>
  (m_nat_Of n 1).bind fun r3 =>
  some (⟨r1, r3⟩ : M_frac_Frac)
def m_row_Zero (n : Nat) (x0 : Int) : Option ((List M_frac_Frac)) :=
  (mkM 56 ((⟨(⟨false, []⟩ : M_whole_Whole), []⟩ : M_frac_Frac) : M_frac_Frac) (min (max x0 (0 : Int)) (300 : Int))).bind fun y1 =>
  (loopM (fun (s15 : (List M_frac_Frac) × Int) =>
    bif decide (s15.2 < (min (max x0 (0 : Int)) (300 : Int))) then (
      (m_frac_Of n (0 : Int)).bind fun r16 =>
      (getI s15.1 s15.2).bind fun _ =>
      some (Lp.go ((List.set s15.1 (Int.toNat s15.2) r16), wrap64 (s15.2 + (1 : Int)))))
    else (
      some (Lp.out s15.1))) n (y1, (0 : Int))).bind fun (t13 : (List M_frac_Frac)) =>
  some t13
def m_nat_Zero (n : Nat) (x0 : (List Nat)) : Option (Bool) :=
  (m_nat_trim n x0).bind fun r1 =>
  some (decide ((r1.length : Int) = (0 : Int)))
def m_frac_parts (n : Nat) (x0 : M_frac_Frac) : Option (M_whole_Whole × (List Nat)) :=
  (m_nat_Zero n x0.Den).bind fun r1 =>
  bif r1 then (
    (m_nat_Of n 1).bind fun r3 =>
    some ((⟨false, []⟩ : M_whole_Whole), r3))
  else (
    some (x0.Num, x0.Den))
def m_whole_Sign (n : Nat) (x0 : M_whole_Whole) : Option (Int) :=
  (m_nat_Zero n x0.Abs).bind fun r1 =>
  bif r1 then (
    some (0 : Int))
  else (
    bif x0.Neg then (
      some (-1 : Int))
    else (
      some (1 : Int)))
def m_frac_Sign (n : Nat) (x0 : M_frac_Frac) : Option (Int) :=
  (m_frac_parts n x0).bind fun r1 =>
  (m_whole_Sign n r1.1).bind fun r3 =>
  some r3
def m_limb_Mul (x0 : Nat) (x1 : Nat) (x2 : Nat) (x3 : Nat) : Option (Nat × Nat) :=
  (some (((((((x0 * x1) % 18446744073709551616) + x2) % 18446744073709551616) + x3) % 18446744073709551616))).bind fun z1 =>
  some (((z1 / 2 ^ 32) % 4294967296), (z1 % 4294967296))
def m_prod_row (x0 : (List Nat)) (x1 : Int) (x2 : (List Nat)) (x3 : Nat) (x4 : Nat) : Option ((List Nat)) :=
  (rangeL (fun (i23 : Nat) (x24 : Nat) (s22 : (List Nat) × Nat) =>
    (getI s22.1 (wrap64 (x1 + (i23 : Int)))).bind fun y26 =>
    (m_limb_Mul x3 x24 y26 s22.2).bind fun r28 =>
    (getI s22.1 (wrap64 (x1 + (i23 : Int)))).bind fun _ =>
    some (Lp.go ((List.set s22.1 (Int.toNat (wrap64 (x1 + (i23 : Int)))) r28.2), r28.1))) x2 0 (x0, x4)).bind (lpK fun (s32 : (List Nat) × Nat) =>
  (getI s32.1 (wrap64 (x1 + (x2.length : Int)))).bind fun _ =>
  some (List.set s32.1 (Int.toNat (wrap64 (x1 + (x2.length : Int)))) s32.2))
def m_prod_Mul (n : Nat) (x0 : (List Nat)) (x1 : (List Nat)) : Option ((List Nat)) :=
  (mkM 4 (0 : Nat) (wrap64 ((wrap64 ((x0.length : Int) + (x1.length : Int))) + (1 : Int)))).bind fun y1 =>
  (rangeL (fun (i17 : Nat) (x18 : Nat) (s16 : (List Nat)) =>
    (m_prod_row s16 (i17 : Int) x0 x18 0).bind fun r20 =>
    some (Lp.go r20)) x1 0 y1).bind (lpK fun (s22 : (List Nat)) =>
  (m_nat_Norm n s22).bind fun r23 =>
  some r23)
def m_whole_Mul (n : Nat) (x0 : M_whole_Whole) (x1 : M_whole_Whole) : Option (M_whole_Whole) :=
  (m_prod_Mul n x0.Abs x1.Abs).bind fun r1 =>
  (m_whole_signed (x0.Neg != x1.Neg) r1).bind fun r3 =>
  some r3
def m_nat_Cmp (n : Nat) (x0 : (List Nat)) (x1 : (List Nat)) : Option (Int) :=
  (m_nat_trim n x0).bind fun r1 =>
  (m_nat_trim n x1).bind fun r3 =>
  bif decide ((r1.length : Int) < (r3.length : Int)) then (
    some (-1 : Int))
  else (
    bif decide ((r3.length : Int) < (r1.length : Int)) then (
      some (1 : Int))
    else (
      (loopM (fun (s25 : Int) =>
        bif decide ((0 : Int) ≤ s25) then (
          (getI r1 s25).bind fun y26 =>
          (getI r3 s25).bind fun y28 =>
          bif decide (y26 < y28) then (
            some (Lp.out (Lp.out ((-1 : Int)))))
          else (
            (getI r1 s25).bind fun y30 =>
            (getI r3 s25).bind fun y32 =>
            bif decide (y32 < y30) then (
              some (Lp.out (Lp.out ((1 : Int)))))
            else (
              some (Lp.go (wrap64 (s25 - (1 : Int)))))))
        else (
          some (Lp.out (Lp.go ())))) n (wrap64 ((r1.length : Int) - (1 : Int)))).bind (lpK fun (_ : Unit) =>
      some (0 : Int))))
def m_limb_Div (x0 : Nat) (x1 : Nat) (x2 : Nat) : Option (Nat × Nat × Bool) :=
  bif decide (x2 ≤ x0) then (
    some (0, 0, false))
  else (
    (grd (x2 != 0)).bind fun _ =>
    (grd (x2 != 0)).bind fun _ =>
    some ((((((x0 * 2 ^ 32) % 18446744073709551616) ||| x1) / x2) % 4294967296), (((((x0 * 2 ^ 32) % 18446744073709551616) ||| x1) % x2) % 4294967296), true))
def m_quot_Word (n : Nat) (x0 : (List Nat)) (x1 : Nat) : Option ((List Nat) × Nat × Bool) :=
  bif decide (x1 = 0) then (
    some (([] : List Nat), 0, false))
  else (
    (mkM 4 (0 : Nat) (x0.length : Int)).bind fun y1 =>
    (loopM (fun (s20 : (List Nat) × Nat × Int) =>
      bif decide ((0 : Int) ≤ s20.2.2) then (
        (getI x0 s20.2.2).bind fun y21 =>
        (m_limb_Div s20.2.1 y21 x1).bind fun r23 =>
        (getI s20.1 s20.2.2).bind fun _ =>
        some (Lp.go ((List.set s20.1 (Int.toNat s20.2.2) r23.1), r23.2.1, wrap64 (s20.2.2 - (1 : Int)))))
      else (
        some (Lp.out (s20.1, s20.2.1)))) n (y1, 0, wrap64 ((x0.length : Int) - (1 : Int)))).bind fun (t18 : (List Nat) × Nat) =>
    (m_nat_Norm n t18.1).bind fun r27 =>
    some (r27, t18.2, true))
def m_twos_Up (n : Nat) (x0 : (List Nat)) (x1 : Int) : Option ((List Nat)) :=
  (some (wrap64 ((wrap64 (Int.tdiv (min (max x1 (0 : Int)) (4096 : Int)) (32 : Int))) + (x0.length : Int)))).bind fun z1 =>
  (mkM 4 (0 : Nat) (wrap64 (z1 + (1 : Int)))).bind fun y2 =>
  (rangeL (fun (i36 : Nat) (x37 : Nat) (s35 : (List Nat)) =>
    (grd (decide (0 ≤ Int.tmod (min (max x1 (0 : Int)) (4096 : Int)) (32 : Int)))).bind fun _ =>
    (some (((x37 * 2 ^ (min (Int.toNat (Int.tmod (min (max x1 (0 : Int)) (4096 : Int)) (32 : Int))) 64)) % 18446744073709551616))).bind fun z40 =>
    (some (wrap64 ((wrap64 (Int.tdiv (min (max x1 (0 : Int)) (4096 : Int)) (32 : Int))) + (i36 : Int)))).bind fun z41 =>
    (getI s35 z41).bind fun y42 =>
    (getI s35 z41).bind fun _ =>
    (some (wrap64 ((wrap64 (Int.tdiv (min (max x1 (0 : Int)) (4096 : Int)) (32 : Int))) + (i36 : Int)))).bind fun z46 =>
    (getI (List.set s35 (Int.toNat z41) (y42 ||| (z40 % 4294967296))) (wrap64 (z46 + (1 : Int)))).bind fun _ =>
    (some ((List.set (List.set s35 (Int.toNat z41) (y42 ||| (z40 % 4294967296))) (Int.toNat (wrap64 (z46 + (1 : Int)))) ((z40 / 2 ^ 32) % 4294967296)))).bind fun z49 =>
    some (Lp.go z49)) x0 0 y2).bind (lpK fun (s50 : (List Nat)) =>
  (m_nat_Norm n s50).bind fun r51 =>
  some r51)
def m_limb_Add (x0 : Nat) (x1 : Nat) (x2 : Nat) : Option (Nat × Nat) :=
  jn (fun (j1 : (Nat) → Option _) =>
    bif decide (((x0 + x1) % 4294967296) < x0) then (
      j1 ((0 + 1) % 4294967296))
    else (
      j1 0)) (fun (s3 : Nat) =>
    jn (fun (j4 : (Nat) → Option _) =>
      bif decide (((((x0 + x1) % 4294967296) + x2) % 4294967296) < x2) then (
        j4 ((s3 + 1) % 4294967296))
      else (
        j4 s3)) (fun (s6 : Nat) =>
      some (((((x0 + x1) % 4294967296) + x2) % 4294967296), s6)))
def m_quot_guess (n : Nat) (x0 : Nat) (x1 : Nat) (x2 : Nat) (x3 : Nat) (x4 : Nat) : Option (Nat) :=
  (m_limb_Div x0 x1 x3).bind fun r1 =>
  jn (fun (j8 : (Nat × Nat) → Option _) =>
    bif !r1.2.2 then (
      (m_limb_Add x1 x3 0).bind fun r11 =>
      jn (fun (j13 : (Bool) → Option _) =>
        bif decide (x3 < x0) then (
          j13 true)
        else (
          j13 (decide (0 < r11.2)))) (fun (s15 : Bool) =>
        bif s15 then (
          some 4294967295)
        else (
          j8 (4294967295, r11.1))))
    else (
      j8 (r1.1, r1.2.1))) (fun (s10 : Nat × Nat) =>
    (loopM (fun (s34 : Nat × Nat) =>
      (m_limb_Mul s34.1 x4 0 0).bind fun r35 =>
      jn (fun (j37 : (Bool) → Option _) =>
        bif decide (r35.1 < s34.2) then (
          j37 true)
        else (
          bif decide (r35.1 = s34.2) then (
            j37 (decide (r35.2 ≤ x2)))
          else (
            j37 false))) (fun (s39 : Bool) =>
        bif s39 then (
          some (Lp.out s34.1))
        else (
          (m_limb_Add s34.2 x3 0).bind fun r40 =>
          bif decide (0 < r40.2) then (
            some (Lp.out ((s34.1 + 4294967296 - 1) % 4294967296)))
          else (
            some (Lp.go (((s34.1 + 4294967296 - 1) % 4294967296), r40.1)))))) n (s10.1, s10.2)).bind fun (t32 : Nat) =>
    some t32)
def m_limb_Sub (x0 : Nat) (x1 : Nat) (x2 : Nat) : Option (Nat × Nat) :=
  jn (fun (j1 : (Nat) → Option _) =>
    bif decide (x0 < x1) then (
      j1 ((0 + 1) % 4294967296))
    else (
      j1 0)) (fun (s3 : Nat) =>
    jn (fun (j4 : (Nat) → Option _) =>
      bif decide (((x0 + 4294967296 - x1) % 4294967296) < x2) then (
        j4 ((s3 + 1) % 4294967296))
      else (
        j4 s3)) (fun (s6 : Nat) =>
      (some (((((x0 + 4294967296 - x1) % 4294967296) + 4294967296 - x2) % 4294967296))).bind fun z7 =>
      some (z7, s6)))
def m_quot_take (x0 : (List Nat)) (x1 : Int) (x2 : (List Nat)) (x3 : Nat) : Option (Bool × (List Nat)) :=
  (rangeL (fun (i27 : Nat) (x28 : Nat) (s26 : (List Nat) × Nat × Nat) =>
    (m_limb_Mul x3 x28 s26.2.1 0).bind fun r30 =>
    (getI s26.1 (wrap64 (x1 + (i27 : Int)))).bind fun y32 =>
    (m_limb_Sub y32 r30.2 s26.2.2).bind fun r34 =>
    (getI s26.1 (wrap64 (x1 + (i27 : Int)))).bind fun _ =>
    some (Lp.go ((List.set s26.1 (Int.toNat (wrap64 (x1 + (i27 : Int)))) r34.1), r30.1, r34.2))) x2 0 (x0, 0, 0)).bind (lpK fun (s38 : (List Nat) × Nat × Nat) =>
  (getI s38.1 (wrap64 (x1 + (x2.length : Int)))).bind fun y39 =>
  (m_limb_Sub y39 s38.2.1 s38.2.2).bind fun r41 =>
  (getI s38.1 (wrap64 (x1 + (x2.length : Int)))).bind fun _ =>
  some (decide (0 < r41.2), (List.set s38.1 (Int.toNat (wrap64 (x1 + (x2.length : Int)))) r41.1)))
def m_quot_give (x0 : (List Nat)) (x1 : Int) (x2 : (List Nat)) : Option ((List Nat)) :=
  (rangeL (fun (i23 : Nat) (x24 : Nat) (s22 : (List Nat) × Nat) =>
    (getI s22.1 (wrap64 (x1 + (i23 : Int)))).bind fun y26 =>
    (m_limb_Add y26 x24 s22.2).bind fun r28 =>
    (getI s22.1 (wrap64 (x1 + (i23 : Int)))).bind fun _ =>
    some (Lp.go ((List.set s22.1 (Int.toNat (wrap64 (x1 + (i23 : Int)))) r28.1), r28.2))) x2 0 (x0, 0)).bind (lpK fun (s32 : (List Nat) × Nat) =>
  (getI s32.1 (wrap64 (x1 + (x2.length : Int)))).bind fun y33 =>
  (getI s32.1 (wrap64 (x1 + (x2.length : Int)))).bind fun _ =>
  (some ((List.set s32.1 (Int.toNat (wrap64 (x1 + (x2.length : Int)))) ((y33 + s32.2) % 4294967296)))).bind fun z37 =>
  some z37)
def m_quot_long (n : Nat) (x0 : (List Nat)) (x1 : (List Nat)) : Option ((List Nat) × (List Nat)) :=
  (mkM 4 (0 : Nat) (wrap64 ((x0.length : Int) - (x1.length : Int)))).bind fun y1 =>
  (loopM (fun (s60 : (List Nat) × (List Nat) × Int) =>
    bif decide ((0 : Int) ≤ s60.2.2) then (
      (getI s60.1 (wrap64 (s60.2.2 + (x1.length : Int)))).bind fun y61 =>
      (getI s60.1 (wrap64 ((wrap64 (s60.2.2 + (x1.length : Int))) - (1 : Int)))).bind fun y63 =>
      (getI s60.1 (wrap64 ((wrap64 (s60.2.2 + (x1.length : Int))) - (2 : Int)))).bind fun y65 =>
      (getI x1 (wrap64 ((x1.length : Int) - (1 : Int)))).bind fun y67 =>
      (getI x1 (wrap64 ((x1.length : Int) - (2 : Int)))).bind fun y69 =>
      (m_quot_guess n y61 y63 y65 y67 y69).bind fun r71 =>
      jn (fun (j77 : ((List Nat) × Nat) → Option _) =>
        (m_quot_take s60.1 s60.2.2 x1 r71).bind fun r80 =>
        bif r80.1 then (
          (m_quot_give r80.2 s60.2.2 x1).bind fun r82 =>
          j77 (r82, ((r71 + 4294967296 - 1) % 4294967296)))
        else (
          j77 (r80.2, r71))) (fun (s79 : (List Nat) × Nat) =>
        (getI s60.2.1 s60.2.2).bind fun _ =>
        some (Lp.go (s79.1, (List.set s60.2.1 (Int.toNat s60.2.2) s79.2), wrap64 (s60.2.2 - (1 : Int))))))
    else (
      some (Lp.out (s60.1, s60.2.1)))) n (x0, y1, wrap64 ((y1.length : Int) - (1 : Int)))).bind fun (t58 : (List Nat) × (List Nat)) =>
  some (t58.2, t58.1)
def m_twos_Down (n : Nat) (x0 : (List Nat)) (x1 : Int) : Option ((List Nat)) :=
  (some (decide ((x0.length : Int) ≤ (wrap64 (Int.tdiv (max x1 (0 : Int)) (32 : Int)))))).bind fun z1 =>
  bif z1 then (
    some ([] : List Nat))
  else (
    (some (wrap64 ((x0.length : Int) - (wrap64 (Int.tdiv (max x1 (0 : Int)) (32 : Int)))))).bind fun z2 =>
    (mkM 4 (0 : Nat) z2).bind fun y3 =>
    (rangeL (fun (i49 : Nat) (_ : Nat) (s48 : (List Nat)) =>
      (some (wrap64 ((wrap64 (Int.tdiv (max x1 (0 : Int)) (32 : Int))) + (i49 : Int)))).bind fun z52 =>
      (getI x0 z52).bind fun y53 =>
      jn (fun (j59 : (Nat) → Option _) =>
        (some (wrap64 ((wrap64 (Int.tdiv (max x1 (0 : Int)) (32 : Int))) + (i49 : Int)))).bind fun z62 =>
        bif decide ((wrap64 (z62 + (1 : Int))) < (x0.length : Int)) then (
          (some (wrap64 ((wrap64 (Int.tdiv (max x1 (0 : Int)) (32 : Int))) + (i49 : Int)))).bind fun z63 =>
          (getI x0 (wrap64 (z63 + (1 : Int)))).bind fun y64 =>
          j59 (y53 ||| ((y64 * 2 ^ 32) % 18446744073709551616)))
        else (
          j59 y53)) (fun (s61 : Nat) =>
        (grd (decide (0 ≤ Int.tmod (max x1 (0 : Int)) (32 : Int)))).bind fun _ =>
        (some ((s61 / 2 ^ (min (Int.toNat (Int.tmod (max x1 (0 : Int)) (32 : Int))) 64)))).bind fun z67 =>
        (getI s48 (i49 : Int)).bind fun _ =>
        some (Lp.go (List.set s48 (Int.toNat (i49 : Int)) (z67 % 4294967296))))) y3 0 y3).bind (lpK fun (s70 : (List Nat)) =>
    (m_nat_Norm n s70).bind fun r71 =>
    some r71))
def m_quot_Div (n : Nat) (x0 : (List Nat)) (x1 : (List Nat)) : Option ((List Nat) × (List Nat) × Bool) :=
  (m_nat_Norm n x1).bind fun r1 =>
  bif decide ((r1.length : Int) = (0 : Int)) then (
    some (([] : List Nat), ([] : List Nat), false))
  else (
    (m_nat_Cmp n x0 r1).bind fun r3 =>
    bif decide (r3 < (0 : Int)) then (
      (m_nat_Norm n x0).bind fun r5 =>
      some (([] : List Nat), r5, true))
    else (
      bif decide ((r1.length : Int) = (1 : Int)) then (
        (getI r1 (0 : Int)).bind fun y7 =>
        (m_quot_Word n x0 y7).bind fun r9 =>
        (m_nat_Of n r9.2.1).bind fun r11 =>
        some (r9.1, r11, true))
      else (
        (getI r1 (wrap64 ((r1.length : Int) - (1 : Int)))).bind fun y13 =>
        (m_limb_Len n y13).bind fun r15 =>
        (m_twos_Up n x0 (wrap64 ((32 : Int) - r15))).bind fun r17 =>
        (appM 4 r17 ([0] : List Nat)).bind fun y19 =>
        (m_twos_Up n r1 (wrap64 ((32 : Int) - r15))).bind fun r21 =>
        (m_quot_long n y19 r21).bind fun r23 =>
        (m_nat_Norm n r23.1).bind fun r25 =>
        (m_twos_Down n r23.2 (wrap64 ((32 : Int) - r15))).bind fun r27 =>
        some (r25, r27, true))))
def m_nat_Small (n : Nat) (x0 : (List Nat)) : Option (Nat × Bool) :=
  (m_nat_trim n x0).bind fun r1 =>
  bif decide ((2 : Int) < (r1.length : Int)) then (
    some (0, false))
  else (
    (rangeL (fun (i17 : Nat) (x18 : Nat) (s16 : Nat) =>
      (grd (decide (0 ≤ wrap64 ((32 : Int) * (i17 : Int))))).bind fun _ =>
      (some (((x18 * 2 ^ (min (Int.toNat (wrap64 ((32 : Int) * (i17 : Int)))) 64)) % 18446744073709551616))).bind fun z21 =>
      some (Lp.go (s16 ||| z21))) r1 0 0).bind (lpK fun (s22 : Nat) =>
    some (s22, true)))
def m_common_small (n : Nat) (x0 : Nat) (x1 : Nat) : Option (Nat) :=
  (loopM (fun (s7 : Nat × Nat) =>
    bif !decide (s7.2 = 0) then (
      (grd (s7.2 != 0)).bind fun _ =>
      some (Lp.go (s7.2, (s7.1 % s7.2))))
    else (
      some (Lp.out s7.1))) n (x0, x1)).bind fun (t5 : Nat) =>
  some t5
def m_common_Gcd (n : Nat) (x0 : (List Nat)) (x1 : (List Nat)) : Option ((List Nat)) :=
  (m_nat_Norm n x0).bind fun r1 =>
  (m_nat_Norm n x1).bind fun r3 =>
  (loopM (fun (s19 : (List Nat) × (List Nat)) =>
    bif decide ((2 : Int) < (s19.2.length : Int)) then (
      (m_quot_Div n s19.1 s19.2).bind fun r20 =>
      some (Lp.go (s19.2, r20.2.1)))
    else (
      some (Lp.out (s19.1, s19.2)))) n (r1, r3)).bind fun (t17 : (List Nat) × (List Nat)) =>
  bif decide ((t17.2.length : Int) = (0 : Int)) then (
    some t17.1)
  else (
    (m_quot_Div n t17.1 t17.2).bind fun r22 =>
    (m_nat_Small n t17.2).bind fun r24 =>
    (m_nat_Small n r22.2.1).bind fun r26 =>
    (m_common_small n r24.1 r26.1).bind fun r28 =>
    (m_nat_Of n r28).bind fun r30 =>
    some r30)
def m_common_one (x0 : (List Nat)) : Option (Bool) :=
  jn (fun (j3 : (Bool) → Option _) =>
    bif decide ((x0.length : Int) = (1 : Int)) then (
      (getI x0 (0 : Int)).bind fun y6 =>
      j3 (decide (y6 = 1)))
    else (
      j3 false)) (fun (s5 : Bool) =>
    some s5)
def m_common_Cancel (n : Nat) (x0 : (List Nat)) (x1 : (List Nat)) : Option ((List Nat) × (List Nat)) :=
  (m_common_Gcd n x0 x1).bind fun r1 =>
  bif decide ((r1.length : Int) = (0 : Int)) then (
    some (([] : List Nat), ([] : List Nat)))
  else (
    (m_common_one r1).bind fun r3 =>
    bif r3 then (
      (m_nat_Norm n x0).bind fun r5 =>
      (m_nat_Norm n x1).bind fun r7 =>
      some (r5, r7))
    else (
      (m_quot_Div n x0 r1).bind fun r9 =>
      (m_quot_Div n x1 r1).bind fun r11 =>
      some (r9.1, r11.1)))
def m_whole_Norm (n : Nat) (x0 : M_whole_Whole) : Option (M_whole_Whole) :=
  (m_nat_Norm n x0.Abs).bind fun r3 =>
  (m_whole_signed x0.Neg r3).bind fun r5 =>
  some r5
def m_frac_cancel (n : Nat) (x0 : M_whole_Whole) (x1 : (List Nat)) : Option (M_frac_Frac) :=
  (m_common_Cancel n x0.Abs x1).bind fun r1 =>
  (m_whole_Norm n (⟨x0.Neg, r1.1⟩ : M_whole_Whole)).bind fun r3 =>
  some (⟨r3, r1.2⟩ : M_frac_Frac)
def m_frac_Mul (n : Nat) (x0 : M_frac_Frac) (x1 : M_frac_Frac) : Option (M_frac_Frac) :=
  (m_frac_parts n x0).bind fun r1 =>
  (m_frac_parts n x1).bind fun r3 =>
  (m_whole_Mul n r1.1 r3.1).bind fun r5 =>
  (m_prod_Mul n r1.2 r3.2).bind fun r7 =>
  (m_frac_cancel n r5 r7).bind fun r9 =>
  some r9
def m_frac_cross (n : Nat) (x0 : M_whole_Whole) (x1 : (List Nat)) : Option (M_whole_Whole) :=
  (m_whole_Mul n x0 (⟨false, x1⟩ : M_whole_Whole)).bind fun r1 =>
  some r1
def m_nat_plus (n : Nat) (x0 : (List Nat)) (x1 : (List Nat)) : Option ((List Nat)) :=
  jn (fun (j1 : ((List Nat) × (List Nat)) → Option _) =>
    bif decide ((x0.length : Int) < (x1.length : Int)) then (
      j1 (x1, x0))
    else (
      j1 (x0, x1))) (fun (s3 : (List Nat) × (List Nat)) =>
    (m_nat_fresh s3.1 (1 : Int)).bind fun r4 =>
    (rangeL (fun (i38 : Nat) (x39 : Nat) (s37 : (List Nat) × Nat) =>
      jn (fun (j43 : (Nat) → Option _) =>
        bif decide ((i38 : Int) < (s3.2.length : Int)) then (
          (getI s3.2 (i38 : Int)).bind fun y46 =>
          j43 y46)
        else (
          j43 0)) (fun (s45 : Nat) =>
        (m_limb_Add x39 s45 s37.2).bind fun r48 =>
        (getI s37.1 (i38 : Int)).bind fun _ =>
        some (Lp.go ((List.set s37.1 (Int.toNat (i38 : Int)) r48.1), r48.2)))) s3.1 0 (r4, 0)).bind (lpK fun (s52 : (List Nat) × Nat) =>
    (getI s52.1 (s3.1.length : Int)).bind fun _ =>
    (m_nat_trim n (List.set s52.1 (Int.toNat (s3.1.length : Int)) s52.2)).bind fun r55 =>
    some r55))
def m_nat_Add (n : Nat) (x0 : (List (List Nat))) : Option ((List Nat)) :=
  (rangeL (fun (_ : Nat) (x20 : (List Nat)) (s18 : (List Nat)) =>
    (m_nat_trim n x20).bind fun r22 =>
    (m_nat_plus n s18 r22).bind fun r24 =>
    some (Lp.go r24)) x0 0 ([] : List Nat)).bind (lpK fun (s26 : (List Nat)) =>
  some s26)
def m_nat_Sub (n : Nat) (x0 : (List Nat)) (x1 : (List Nat)) : Option ((List Nat) × Bool) :=
  (m_nat_trim n x0).bind fun r1 =>
  (m_nat_trim n x1).bind fun r3 =>
  (m_nat_Cmp n r1 r3).bind fun r5 =>
  bif decide (r5 < (0 : Int)) then (
    some (([] : List Nat), false))
  else (
    (m_nat_fresh r1 (0 : Int)).bind fun r7 =>
    (rangeL (fun (i41 : Nat) (x42 : Nat) (s40 : (List Nat) × Nat) =>
      jn (fun (j46 : (Nat) → Option _) =>
        bif decide ((i41 : Int) < (r3.length : Int)) then (
          (getI r3 (i41 : Int)).bind fun y49 =>
          j46 y49)
        else (
          j46 0)) (fun (s48 : Nat) =>
        (m_limb_Sub x42 s48 s40.2).bind fun r51 =>
        (getI s40.1 (i41 : Int)).bind fun _ =>
        some (Lp.go ((List.set s40.1 (Int.toNat (i41 : Int)) r51.1), r51.2)))) r1 0 (r7, 0)).bind (lpK fun (s55 : (List Nat) × Nat) =>
    (m_nat_trim n s55.1).bind fun r56 =>
    some (r56, true)))
def m_nat_Gap (n : Nat) (x0 : (List Nat)) (x1 : (List Nat)) : Option ((List Nat) × Int) :=
  (m_nat_Cmp n x0 x1).bind fun r1 =>
  jn (fun (j3 : ((List Nat) × (List Nat)) → Option _) =>
    bif decide (r1 < (0 : Int)) then (
      j3 (x1, x0))
    else (
      j3 (x0, x1))) (fun (s5 : (List Nat) × (List Nat)) =>
    (m_nat_Sub n s5.1 s5.2).bind fun r6 =>
    some (r6.1, r1))
def m_whole_Add (n : Nat) (x0 : M_whole_Whole) (x1 : M_whole_Whole) : Option (M_whole_Whole) :=
  bif (x0.Neg == x1.Neg) then (
    (m_nat_Add n ([x0.Abs, x1.Abs] : List (List Nat))).bind fun r1 =>
    (m_whole_signed x0.Neg r1).bind fun r3 =>
    some r3)
  else (
    (m_nat_Gap n x0.Abs x1.Abs).bind fun r5 =>
    bif decide (r5.2 < (0 : Int)) then (
      (m_whole_signed x1.Neg r5.1).bind fun r7 =>
      some r7)
    else (
      (m_whole_signed x0.Neg r5.1).bind fun r9 =>
      some r9))
def m_frac_Add (n : Nat) (x0 : M_frac_Frac) (x1 : M_frac_Frac) : Option (M_frac_Frac) :=
  (m_frac_parts n x0).bind fun r1 =>
  (m_frac_parts n x1).bind fun r3 =>
  (m_frac_cross n r1.1 r3.2).bind fun r5 =>
  (m_frac_cross n r3.1 r1.2).bind fun r7 =>
  (m_whole_Add n r5 r7).bind fun r9 =>
  (m_prod_Mul n r1.2 r3.2).bind fun r11 =>
  (m_frac_cancel n r9 r11).bind fun r13 =>
  some r13
def m_row_Mix_o1 (n : Nat) (x0 : (List M_frac_Frac)) (x1 : (List (List M_frac_Frac))) (x2 : Int) : Option ((List M_frac_Frac) × Bool) :=
  jn (fun (j1 : (Bool) → Option _) =>
    bif !decide ((x0.length : Int) = (x1.length : Int)) then (
      j1 true)
    else (
      bif decide (x2 < (0 : Int)) then (
        j1 true)
      else (
        j1 (decide ((300 : Int) < x2))))) (fun (s3 : Bool) =>
    bif s3 then (
      some (([] : List M_frac_Frac), false))
    else (
      (rangeL (fun (_ : Nat) (x11 : (List M_frac_Frac)) (_ : Unit) =>
        bif !decide ((x11.length : Int) = x2) then (
          some (Lp.out ((([] : List M_frac_Frac), false))))
        else (
          some (Lp.go ()))) x1 0 ()).bind (lpK fun (_ : Unit) =>
      (m_row_Zero n x2).bind fun r14 =>
      (rangeL (fun (i108 : Nat) (x109 : (List M_frac_Frac)) (s107 : (List M_frac_Frac)) =>
        (getI x0 (i108 : Int)).bind fun y111 =>
        (m_frac_Sign n y111).bind fun r113 =>
        bif decide (r113 = (0 : Int)) then (
          some (Lp.go s107))
        else (
          (rangeL (fun (i131 : Nat) (x132 : M_frac_Frac) (s130 : (List M_frac_Frac)) =>
            (getI s130 (i131 : Int)).bind fun y134 =>
            (getI x0 (i108 : Int)).bind fun y136 =>
            (m_frac_Mul n y136 x132).bind fun r138 =>
            (m_frac_Add n y134 r138).bind fun r140 =>
            (getI s130 (i131 : Int)).bind fun _ =>
            some (Lp.go (List.set s130 (Int.toNat (i131 : Int)) r140))) x109 0 s107).bind (lpK fun (s144 : (List M_frac_Frac)) =>
          some (Lp.go s144)))) x1 0 r14).bind (lpK fun (s145 : (List M_frac_Frac)) =>
      some (s145, true)))))
def m_row_Scale (n : Nat) (x0 : M_frac_Frac) (x1 : (List M_frac_Frac)) : Option ((List M_frac_Frac)) :=
  (rangeL (fun (_ : Nat) (x20 : M_frac_Frac) (s18 : (List M_frac_Frac)) =>
    (m_frac_Mul n x0 x20).bind fun r22 =>
    (appM 56 s18 ([r22] : List M_frac_Frac)).bind fun y24 =>
    some (Lp.go y24)) x1 0 ([] : List M_frac_Frac)).bind (lpK fun (s26 : (List M_frac_Frac)) =>
  some s26)
def m___step_maker__toward (n : Nat) (x0_p : M_step_Problem) (x0_t : M_frac_Frac) (x0_h : M_frac_Frac) (x0_y : (List M_frac_Frac)) (x0_g : M_gauge_Gauge) (x0_out_Ys : (List (List M_frac_Frac))) (x0_out_Ks : (List (List M_frac_Frac))) (x0_out_Next : (List M_frac_Frac)) (x0_out_Err : (List M_frac_Frac)) (x1 : (List M_frac_Frac)) : Option ((List M_frac_Frac)) :=
  (m_row_Mix_o1 n x1 x0_out_Ks (x0_y.length : Int)).bind fun r1 =>
  (m_row_Scale n x0_h r1.1).bind fun r3 =>
  some r3
def m_frac_Norm (n : Nat) (x0 : M_frac_Frac) : Option (M_frac_Frac) :=
  (m_frac_parts n x0).bind fun r1 =>
  (m_frac_cancel n r1.1 r1.2).bind fun r3 =>
  some r3
def m_row_norm (n : Nat) (x0 : (List M_frac_Frac)) : Option ((List M_frac_Frac)) :=
  (rangeL (fun (_ : Nat) (x20 : M_frac_Frac) (s18 : (List M_frac_Frac)) =>
    (m_frac_Norm n x20).bind fun r22 =>
    (appM 56 s18 ([r22] : List M_frac_Frac)).bind fun y24 =>
    some (Lp.go y24)) x0 0 ([] : List M_frac_Frac)).bind (lpK fun (s26 : (List M_frac_Frac)) =>
  some s26)
def m_row_Add (n : Nat) (x0 : (List (List M_frac_Frac))) : Option ((List M_frac_Frac) × Bool) :=
  bif decide ((x0.length : Int) = (0 : Int)) then (
    some (([] : List M_frac_Frac), true))
  else (
    (getI x0 (0 : Int)).bind fun y1 =>
    (m_row_norm n y1).bind fun r3 =>
    (sub x0 (1 : Int) (x0.length : Int)).bind fun y5 =>
    (rangeL (fun (_ : Nat) (x72 : (List M_frac_Frac)) (s70 : (List M_frac_Frac)) =>
      bif !decide ((x72.length : Int) = (s70.length : Int)) then (
        some (Lp.out ((([] : List M_frac_Frac), false))))
      else (
        (rangeL (fun (i86 : Nat) (x87 : M_frac_Frac) (s85 : (List M_frac_Frac)) =>
          (getI s85 (i86 : Int)).bind fun y89 =>
          (m_frac_Add n y89 x87).bind fun r91 =>
          (getI s85 (i86 : Int)).bind fun _ =>
          some (Lp.go (List.set s85 (Int.toNat (i86 : Int)) r91))) x72 0 s70).bind (lpK fun (s95 : (List M_frac_Frac)) =>
        some (Lp.go s95)))) y5 0 r3).bind (lpK fun (s96 : (List M_frac_Frac)) =>
    some (s96, true)))
def m___step_maker__from (n : Nat) (x0_p : M_step_Problem) (x0_t : M_frac_Frac) (x0_h : M_frac_Frac) (x0_y : (List M_frac_Frac)) (x0_g : M_gauge_Gauge) (x0_out_Ys : (List (List M_frac_Frac))) (x0_out_Ks : (List (List M_frac_Frac))) (x0_out_Next : (List M_frac_Frac)) (x0_out_Err : (List M_frac_Frac)) (x1 : (List M_frac_Frac)) : Option ((List M_frac_Frac)) :=
  (m___step_maker__toward n x0_p x0_t x0_h x0_y x0_g x0_out_Ys x0_out_Ks x0_out_Next x0_out_Err x1).bind fun r3 =>
  (m_row_Add n ([x0_y, r3] : List (List M_frac_Frac))).bind fun r5 =>
  some r5.1
def m___step_maker__fits (n : Nat) (x0_p : M_step_Problem) (x0_t : M_frac_Frac) (x0_h : M_frac_Frac) (x0_y : (List M_frac_Frac)) (x0_g : M_gauge_Gauge) (x0_out_Ys : (List (List M_frac_Frac))) (x0_out_Ks : (List (List M_frac_Frac))) (x0_out_Next : (List M_frac_Frac)) (x0_out_Err : (List M_frac_Frac)) (x1 : (List M_frac_Frac)) (x2 : Int) : Option (M_api_Fault × M_gauge_Gauge) :=
  (m___gauge_Gauge__Row n x0_g x1).bind fun r1 =>
  bif !r1.2.1 then (
    some ((⟨(6 : Int), 0, x2, wrap64 ((300 : Int) + r1.1)⟩ : M_api_Fault), r1.2.2))
  else (
    some ((⟨0, 0, 0, 0⟩ : M_api_Fault), r1.2.2))
def m_step_Moment (n : Nat) (x0 : M_step_Problem) (x1 : M_frac_Frac) (x2 : M_frac_Frac) (x3 : Int) : Option (M_frac_Frac) :=
  jn (fun (j1 : (Bool) → Option _) =>
    bif decide (x3 < (0 : Int)) then (
      j1 true)
    else (
      j1 (decide ((x0.Scheme.C.length : Int) ≤ x3)))) (fun (s3 : Bool) =>
    bif s3 then (
      (m_frac_Norm n x1).bind fun r4 =>
      some r4)
    else (
      (getI x0.Scheme.C x3).bind fun y6 =>
      (m_frac_Mul n x2 y6).bind fun r8 =>
      (m_frac_Add n x1 r8).bind fun r10 =>
      some r10))
def m_step_at (x0 : M_step_Problem) (x1 : M_frac_Frac) (x2 : (List M_frac_Frac)) : Option (M_eval_Point) :=
  some (⟨x1, x2, x0.P⟩ : M_eval_Point)
def m_eval_norms (n : Nat) (x0 : (List M_frac_Frac)) : Option ((List M_frac_Frac)) :=
  (rangeL (fun (_ : Nat) (x20 : M_frac_Frac) (s18 : (List M_frac_Frac)) =>
    (m_frac_Norm n x20).bind fun r22 =>
    (appM 56 s18 ([r22] : List M_frac_Frac)).bind fun y24 =>
    some (Lp.go y24)) x0 0 ([] : List M_frac_Frac)).bind (lpK fun (s26 : (List M_frac_Frac)) =>
  some s26)
def m_eval_Norm (n : Nat) (x0 : M_eval_Point) : Option (M_eval_Point) :=
  (m_frac_Norm n x0.T).bind fun r1 =>
  (m_eval_norms n x0.Y).bind fun r3 =>
  (m_eval_norms n x0.P).bind fun r5 =>
  some (⟨r1, r3, r5⟩ : M_eval_Point)
def m_gauge_New (x0 : Int) : Option (M_gauge_Gauge) :=
  some (⟨(⟨0, 0⟩ : M_gauge_Count), min (max x0 (0 : Int)) (4096 : Int)⟩ : M_gauge_Gauge)
def m_tape_below (x0 : Int) (x1 : Int) : Option (Bool) :=
  jn (fun (j1 : (Bool) → Option _) =>
    bif decide ((0 : Int) ≤ x0) then (
      j1 (decide (x0 < x1)))
    else (
      j1 false)) (fun (s3 : Bool) =>
    some s3)
def m_tape_whole (x0 : M_tape_Tape) : Option (Bool) :=
  jn (fun (j5 : (Bool) → Option _) =>
    (m_tape_below (wrap64 (x0.Dim - (1 : Int))) (6 : Int)).bind fun r8 =>
    bif r8 then (
      (m_tape_below x0.Par (7 : Int)).bind fun r10 =>
      bif r10 then (
        bif decide ((x0.Outs.length : Int) = x0.Dim) then (
          j5 (decide ((x0.Code.length : Int) ≤ (300 : Int))))
        else (
          j5 false))
      else (
        j5 false))
    else (
      j5 false)) (fun (s7 : Bool) =>
    some s7)
def m_tape_of (x0 : M_tape_Inst) : Option (M_tape_numbers) :=
  some (⟨x0.Op, x0.A, x0.B⟩ : M_tape_numbers)
def m_frac_Right (n : Nat) (x0 : M_frac_Frac) : Option (Bool) :=
  (m_frac_Norm n x0).bind fun r1 =>
  jn (fun (j7 : (Bool) → Option _) =>
    bif (x0.Num.Neg == r1.Num.Neg) then (
      bif decide ((x0.Num.Abs.length : Int) = (r1.Num.Abs.length : Int)) then (
        bif decide ((x0.Den.length : Int) = (r1.Den.length : Int)) then (
          (m_nat_Cmp n x0.Num.Abs r1.Num.Abs).bind fun r10 =>
          bif decide (r10 = (0 : Int)) then (
            (m_nat_Cmp n x0.Den r1.Den).bind fun r12 =>
            j7 (decide (r12 = (0 : Int))))
          else (
            j7 false))
        else (
          j7 false))
      else (
        j7 false))
    else (
      j7 false)) (fun (s9 : Bool) =>
    some s9)
def m_tape_blank (x0 : M_frac_Frac) : Option (Bool) :=
  jn (fun (j1 : (Bool) → Option _) =>
    bif !x0.Num.Neg then (
      bif decide ((x0.Num.Abs.length : Int) = (0 : Int)) then (
        j1 (decide ((x0.Den.length : Int) = (0 : Int))))
      else (
        j1 false))
    else (
      j1 false)) (fun (s3 : Bool) =>
    some s3)
def m_tape_Reads (x0 : M_tape_Inst) : Option ((List Int)) :=
  jn (fun (j1 : (Bool) → Option _) =>
    bif decide (x0.Op = (6 : Int)) then (
      j1 (decide (x0.Op = (6 : Int))))
    else (
      j1 (decide (x0.Op = (11 : Int))))) (fun (s3 : Bool) =>
    bif s3 then (
      some ([x0.A] : List Int))
    else (
      jn (fun (j4 : (Bool) → Option _) =>
        bif decide (x0.Op = (7 : Int)) then (
          j4 (decide (x0.Op = (7 : Int))))
        else (
          bif decide (x0.Op = (8 : Int)) then (
            j4 (decide (x0.Op = (8 : Int))))
          else (
            bif decide (x0.Op = (9 : Int)) then (
              j4 (decide (x0.Op = (9 : Int))))
            else (
              j4 (decide (x0.Op = (10 : Int))))))) (fun (s6 : Bool) =>
        bif s6 then (
          some ([x0.A, x0.B] : List Int))
        else (
          some ([] : List Int)))))
def m_tape_may (n : Nat) (x0 : M_tape_Tape) (x1 : Int) : Option (Bool) :=
  (getI x0.Code x1).bind fun y1 =>
  bif decide (y1.Op = (1 : Int)) then (
    jn (fun (j7 : (Bool) → Option _) =>
      (m_tape_of y1).bind fun r10 =>
      bif (eqb_tape_numbers r10 (⟨(1 : Int), 0, 0⟩ : M_tape_numbers)) then (
        (m_frac_Right n y1.N).bind fun r12 =>
        j7 r12)
      else (
        j7 false)) (fun (s9 : Bool) =>
      some s9))
  else (
    (m_tape_blank y1.N).bind fun r14 =>
    bif !r14 then (
      some false)
    else (
      (m_tape_Reads y1).bind fun r16 =>
      (rangeL (fun (_ : Nat) (x27 : Int) (_ : Unit) =>
        (m_tape_below x27 x1).bind fun r29 =>
        bif !r29 then (
          some (Lp.out (false)))
        else (
          some (Lp.go ()))) r16 0 ()).bind (lpK fun (_ : Unit) =>
      bif decide (y1.Op = (2 : Int)) then (
        (m_tape_of y1).bind fun r32 =>
        some (eqb_tape_numbers r32 (⟨(2 : Int), 0, 0⟩ : M_tape_numbers)))
      else (
        bif decide (y1.Op = (3 : Int)) then (
          jn (fun (j36 : (Bool) → Option _) =>
            (m_tape_below y1.A x0.Dim).bind fun r39 =>
            bif r39 then (
              j36 (decide (y1.B = (0 : Int))))
            else (
              j36 false)) (fun (s38 : Bool) =>
            some s38))
        else (
          bif decide (y1.Op = (4 : Int)) then (
            jn (fun (j43 : (Bool) → Option _) =>
              (m_tape_below y1.A x0.Par).bind fun r46 =>
              bif r46 then (
                j43 (decide (y1.B = (0 : Int))))
              else (
                j43 false)) (fun (s45 : Bool) =>
              some s45))
          else (
            bif decide (y1.Op = (6 : Int)) then (
              some (decide (y1.B = (0 : Int))))
            else (
              bif decide (y1.Op = (11 : Int)) then (
                jn (fun (j48 : (Bool) → Option _) =>
                  bif decide ((-8 : Int) ≤ y1.B) then (
                    j48 (decide (y1.B ≤ (8 : Int))))
                  else (
                    j48 false)) (fun (s50 : Bool) =>
                  some s50))
              else (
                (m_tape_Reads y1).bind fun r51 =>
                some (decide ((r51.length : Int) = (2 : Int)))))))))))
def m_tape_Wrong (n : Nat) (x0 : M_tape_Tape) : Option (Int) :=
  (m_tape_whole x0).bind fun r1 =>
  bif !r1 then (
    some (-2 : Int))
  else (
    (rangeL (fun (i11 : Nat) (_ : M_tape_Inst) (_ : Unit) =>
      (m_tape_may n x0 (i11 : Int)).bind fun r14 =>
      bif !r14 then (
        some (Lp.out ((i11 : Int))))
      else (
        some (Lp.go ()))) x0.Code 0 ()).bind (lpK fun (_ : Unit) =>
    (rangeL (fun (_ : Nat) (x26 : Int) (_ : Unit) =>
      (m_tape_below x26 (x0.Code.length : Int)).bind fun r28 =>
      bif !r28 then (
        some (Lp.out ((x0.Code.length : Int))))
      else (
        some (Lp.go ()))) x0.Outs 0 ()).bind (lpK fun (_ : Unit) =>
    some (-1 : Int))))
def m_tape_Right (n : Nat) (x0 : M_tape_Tape) : Option (Bool) :=
  (m_tape_Wrong n x0).bind fun r1 =>
  some (decide (r1 = (-1 : Int)))
def m_whole_Neg (n : Nat) (x0 : M_whole_Whole) : Option (M_whole_Whole) :=
  (m_nat_Norm n x0.Abs).bind fun r3 =>
  (m_whole_signed (!x0.Neg) r3).bind fun r5 =>
  some r5
def m_frac_Neg (n : Nat) (x0 : M_frac_Frac) : Option (M_frac_Frac) :=
  (m_frac_Norm n x0).bind fun r1 =>
  (m_whole_Neg n r1.Num).bind fun r3 =>
  some (⟨r3, r1.Den⟩ : M_frac_Frac)
def m__run_fracs__Neg (n : Nat) (x0_g : M_gauge_Gauge) (x1 : M_frac_Frac) : Option (M_frac_Frac) :=
  (m_frac_Neg n x1).bind fun r1 =>
  some r1
def m_frac_power (n : Nat) (x0 : (List Nat)) (x1 : Int) : Option ((List Nat)) :=
  (m_nat_Of n 1).bind fun r1 =>
  (loopM (fun (s11 : (List Nat) × Int) =>
    bif decide (s11.2 < x1) then (
      (m_prod_Mul n s11.1 x0).bind fun r12 =>
      some (Lp.go (r12, wrap64 (s11.2 + (1 : Int)))))
    else (
      some (Lp.out s11.1))) n (r1, (0 : Int))).bind fun (t9 : (List Nat)) =>
  some t9
def m_frac_Pow (n : Nat) (x0 : M_frac_Frac) (x1 : Int) : Option (M_frac_Frac × Bool) :=
  jn (fun (j3 : (Bool) → Option _) =>
    bif decide (x1 < (-8 : Int)) then (
      j3 true)
    else (
      bif decide ((8 : Int) < x1) then (
        j3 true)
      else (
        bif decide (x1 < (0 : Int)) then (
          (m_frac_Sign n x0).bind fun r6 =>
          j3 (decide (r6 = (0 : Int))))
        else (
          j3 false)))) (fun (s5 : Bool) =>
    bif s5 then (
      (m_frac_Of n (0 : Int)).bind fun r8 =>
      some (r8, false))
    else (
      (m_frac_Norm n x0).bind fun r10 =>
      (m_frac_power n r10.Num.Abs (max x1 (wrap64 (-x1)))).bind fun r12 =>
      (m_frac_power n r10.Den (max x1 (wrap64 (-x1)))).bind fun r14 =>
      jn (fun (j16 : ((List Nat) × (List Nat)) → Option _) =>
        bif decide (x1 < (0 : Int)) then (
          j16 (r14, r12))
        else (
          j16 (r12, r14))) (fun (s18 : (List Nat) × (List Nat)) =>
        jn (fun (j23 : (M_frac_Frac) → Option _) =>
          bif r10.Num.Neg then (
            (m_whole_Norm n (⟨decide ((Int.tmod (max x1 (wrap64 (-x1))) (2 : Int)) = (1 : Int)), s18.1⟩ : M_whole_Whole)).bind fun r26 =>
            j23 (⟨r26, s18.2⟩ : M_frac_Frac))
          else (
            (m_whole_Norm n (⟨false, s18.1⟩ : M_whole_Whole)).bind fun r28 =>
            j23 (⟨r28, s18.2⟩ : M_frac_Frac))) (fun (s25 : M_frac_Frac) =>
          some (s25, true)))))
def m__run_fracs__Pow (n : Nat) (x0_g : M_gauge_Gauge) (x1 : M_frac_Frac) (x2 : Int) : Option (M_frac_Frac × Bool) :=
  (m_frac_Pow n x1 x2).bind fun r1 =>
  some (r1.1, r1.2)
def m__run_fracs__Add (n : Nat) (x0_g : M_gauge_Gauge) (x1 : M_frac_Frac) (x2 : M_frac_Frac) : Option (M_frac_Frac) :=
  (m_frac_Add n x1 x2).bind fun r1 =>
  some r1
def m_whole_Sub (n : Nat) (x0 : M_whole_Whole) (x1 : M_whole_Whole) : Option (M_whole_Whole) :=
  (m_whole_Neg n x1).bind fun r1 =>
  (m_whole_Add n x0 r1).bind fun r3 =>
  some r3
def m_frac_Sub (n : Nat) (x0 : M_frac_Frac) (x1 : M_frac_Frac) : Option (M_frac_Frac) :=
  (m_frac_parts n x0).bind fun r1 =>
  (m_frac_parts n x1).bind fun r3 =>
  (m_frac_cross n r1.1 r3.2).bind fun r5 =>
  (m_frac_cross n r3.1 r1.2).bind fun r7 =>
  (m_whole_Sub n r5 r7).bind fun r9 =>
  (m_prod_Mul n r1.2 r3.2).bind fun r11 =>
  (m_frac_cancel n r9 r11).bind fun r13 =>
  some r13
def m__run_fracs__Sub (n : Nat) (x0_g : M_gauge_Gauge) (x1 : M_frac_Frac) (x2 : M_frac_Frac) : Option (M_frac_Frac) :=
  (m_frac_Sub n x1 x2).bind fun r1 =>
  some r1
def m__run_fracs__Mul (n : Nat) (x0_g : M_gauge_Gauge) (x1 : M_frac_Frac) (x2 : M_frac_Frac) : Option (M_frac_Frac) :=
  (m_frac_Mul n x1 x2).bind fun r1 =>
  some r1
def m_frac_Quo (n : Nat) (x0 : M_frac_Frac) (x1 : M_frac_Frac) : Option (M_frac_Frac × Bool) :=
  (m_frac_parts n x0).bind fun r1 =>
  (m_frac_parts n x1).bind fun r3 =>
  (m_whole_Sign n r3.1).bind fun r5 =>
  bif decide (r5 = (0 : Int)) then (
    (m_frac_Of n (0 : Int)).bind fun r7 =>
    some (r7, false))
  else (
    (m_frac_cross n r1.1 r3.2).bind fun r9 =>
    (m_prod_Mul n r1.2 r3.1.Abs).bind fun r11 =>
    (m_frac_cancel n (⟨(r9.Neg != r3.1.Neg), r9.Abs⟩ : M_whole_Whole) r11).bind fun r13 =>
    some (r13, true))
def m__run_fracs__Quo (n : Nat) (x0_g : M_gauge_Gauge) (x1 : M_frac_Frac) (x2 : M_frac_Frac) : Option (M_frac_Frac × Bool) :=
  (m_frac_Quo n x1 x2).bind fun r1 =>
  some (r1.1, r1.2)
def m__run_fracs__Of (n : Nat) (x0_g : M_gauge_Gauge) (x1 : M_frac_Frac) : Option (M_frac_Frac) :=
  (m_frac_Norm n x1).bind fun r1 =>
  some r1
def m__run_Machine_frac_Frac__run_fracs___leaf (n : Nat) (x0_Arith_g : M_gauge_Gauge) (x1 : M_tape_Inst) (x2 : M_run_Inputs_frac_Frac_) : Option (M_frac_Frac) :=
  bif decide (x1.Op = (1 : Int)) then (
    (m__run_fracs__Of n x0_Arith_g x1.N).bind fun r1 =>
    some r1)
  else (
    bif decide (x1.Op = (3 : Int)) then (
      (getI x2.Y x1.A).bind fun y3 =>
      some y3)
    else (
      bif decide (x1.Op = (4 : Int)) then (
        (getI x2.P x1.A).bind fun y5 =>
        some y5)
      else (
        some x2.T)))
def m__run_Machine_frac_Frac__run_fracs___step (n : Nat) (x0_Arith_g : M_gauge_Gauge) (x1 : M_tape_Inst) (x2 : M_run_Inputs_frac_Frac_) (x3 : (List M_frac_Frac)) : Option (M_frac_Frac × Bool) :=
  bif decide (x1.Op = (6 : Int)) then (
    (getI x3 x1.A).bind fun y1 =>
    (m__run_fracs__Neg n x0_Arith_g y1).bind fun r3 =>
    some (r3, true))
  else (
    bif decide (x1.Op = (11 : Int)) then (
      (getI x3 x1.A).bind fun y5 =>
      (m__run_fracs__Pow n x0_Arith_g y5 x1.B).bind fun r7 =>
      some (r7.1, r7.2))
    else (
      bif decide (x1.Op = (7 : Int)) then (
        (getI x3 x1.A).bind fun y9 =>
        (getI x3 x1.B).bind fun y11 =>
        (m__run_fracs__Add n x0_Arith_g y9 y11).bind fun r13 =>
        some (r13, true))
      else (
        bif decide (x1.Op = (8 : Int)) then (
          (getI x3 x1.A).bind fun y15 =>
          (getI x3 x1.B).bind fun y17 =>
          (m__run_fracs__Sub n x0_Arith_g y15 y17).bind fun r19 =>
          some (r19, true))
        else (
          bif decide (x1.Op = (9 : Int)) then (
            (getI x3 x1.A).bind fun y21 =>
            (getI x3 x1.B).bind fun y23 =>
            (m__run_fracs__Mul n x0_Arith_g y21 y23).bind fun r25 =>
            some (r25, true))
          else (
            bif decide (x1.Op = (10 : Int)) then (
              (getI x3 x1.A).bind fun y27 =>
              (getI x3 x1.B).bind fun y29 =>
              (m__run_fracs__Quo n x0_Arith_g y27 y29).bind fun r31 =>
              some (r31.1, r31.2))
            else (
              (m__run_Machine_frac_Frac__run_fracs___leaf n x0_Arith_g x1 x2).bind fun r33 =>
              some (r33, true)))))))
def m__run_fracs__Fits (n : Nat) (x0_g : M_gauge_Gauge) (x1 : M_frac_Frac) : Option (Bool × M_gauge_Gauge) :=
  (m___gauge_Gauge__Take n x0_g x1).bind fun r1 =>
  some (r1.1, r1.2)
def m__run_Machine_frac_Frac__run_fracs___Run (n : Nat) (x0_Arith_g : M_gauge_Gauge) (x1 : M_tape_Tape) (x2 : M_run_Inputs_frac_Frac_) : Option ((List M_frac_Frac) × M_api_Fault × M_gauge_Gauge) :=
  jn (fun (j3 : (Bool) → Option _) =>
    (m_tape_Right n x1).bind fun r6 =>
    bif !r6 then (
      j3 true)
    else (
      bif !decide ((x2.Y.length : Int) = x1.Dim) then (
        j3 true)
      else (
        j3 (!decide ((x2.P.length : Int) = x1.Par))))) (fun (s5 : Bool) =>
    bif s5 then (
      some (([] : List M_frac_Frac), (⟨(2 : Int), 0, 0, 0⟩ : M_api_Fault), x0_Arith_g))
    else (
      (rangeL (fun (i30 : Nat) (x31 : M_tape_Inst) (s29 : M_gauge_Gauge × (List M_frac_Frac)) =>
        (m__run_Machine_frac_Frac__run_fracs___step n s29.1 x31 x2 s29.2).bind fun r33 =>
        bif !r33.2 then (
          some (Lp.out ((([] : List M_frac_Frac), (⟨(3 : Int), 0, 0, (i30 : Int)⟩ : M_api_Fault), s29.1))))
        else (
          (m__run_fracs__Fits n s29.1 r33.1).bind fun r35 =>
          bif !r35.1 then (
            some (Lp.out ((([] : List M_frac_Frac), (⟨(6 : Int), 0, 0, (i30 : Int)⟩ : M_api_Fault), r35.2))))
          else (
            (appM 56 s29.2 ([r33.1] : List M_frac_Frac)).bind fun y37 =>
            some (Lp.go (r35.2, y37))))) x1.Code 0 (x0_Arith_g, ([] : List M_frac_Frac))).bind (lpK fun (s39 : M_gauge_Gauge × (List M_frac_Frac)) =>
      some (s39.2, (⟨0, 0, 0, 0⟩ : M_api_Fault), s39.1))))
def m_run_Tape (n : Nat) (x0 : M_tape_Tape) (x1 : M_eval_Point) (x2 : Int) : Option ((List M_frac_Frac) × M_api_Fault) :=
  (m_eval_Norm n x1).bind fun r1 =>
  (m_gauge_New x2).bind fun r3 =>
  (m__run_Machine_frac_Frac__run_fracs___Run n r3 x0 (⟨r1.T, r1.Y, r1.P⟩ : M_run_Inputs_frac_Frac_)).bind fun r5 =>
  some (r5.1, r5.2.1)
def m_run_Outs (n : Nat) (x0 : M_tape_Tape) (x1 : (List M_frac_Frac)) : Option ((List M_frac_Frac)) :=
  jn (fun (j3 : (Bool) → Option _) =>
    (m_tape_Right n x0).bind fun r6 =>
    bif !r6 then (
      j3 true)
    else (
      j3 (!decide ((x1.length : Int) = (x0.Code.length : Int))))) (fun (s5 : Bool) =>
    bif s5 then (
      some ([] : List M_frac_Frac))
    else (
      (rangeL (fun (_ : Nat) (x31 : Int) (s29 : (List M_frac_Frac)) =>
        (getI x1 x31).bind fun y33 =>
        (m_frac_Norm n y33).bind fun r35 =>
        (appM 56 s29 ([r35] : List M_frac_Frac)).bind fun y37 =>
        some (Lp.go y37)) x0.Outs 0 ([] : List M_frac_Frac)).bind (lpK fun (s39 : (List M_frac_Frac)) =>
      some s39)))
def m_run_Field (n : Nat) (x0 : M_tape_Tape) (x1 : M_eval_Point) (x2 : Int) : Option ((List M_frac_Frac) × M_api_Fault) :=
  (m_run_Tape n x0 x1 x2).bind fun r1 =>
  bif !(eqb_api_Fault r1.2 (⟨0, 0, 0, 0⟩ : M_api_Fault)) then (
    some (([] : List M_frac_Frac), r1.2))
  else (
    (m_run_Outs n x0 r1.1).bind fun r3 =>
    some (r3, r1.2))
def m___step_maker__stage (n : Nat) (x0_p : M_step_Problem) (x0_t : M_frac_Frac) (x0_h : M_frac_Frac) (x0_y : (List M_frac_Frac)) (x0_g : M_gauge_Gauge) (x0_out_Ys : (List (List M_frac_Frac))) (x0_out_Ks : (List (List M_frac_Frac))) (x0_out_Next : (List M_frac_Frac)) (x0_out_Err : (List M_frac_Frac)) (x1 : Int) : Option (M_api_Fault × M_step_Problem × M_frac_Frac × M_frac_Frac × (List M_frac_Frac) × (List M_frac_Frac) × (List M_frac_Frac) × M_gauge_Gauge × (List (List M_frac_Frac)) × (List (List M_frac_Frac))) :=
  (getI x0_p.Scheme.A x1).bind fun y1 =>
  (m___step_maker__from n x0_p x0_t x0_h x0_y x0_g x0_out_Ys x0_out_Ks x0_out_Next x0_out_Err y1).bind fun r3 =>
  (m___step_maker__fits n x0_p x0_t x0_h x0_y x0_g x0_out_Ys x0_out_Ks x0_out_Next x0_out_Err r3 x1).bind fun r5 =>
  bif !(eqb_api_Fault r5.1 (⟨0, 0, 0, 0⟩ : M_api_Fault)) then (
    some (r5.1, x0_p, x0_t, x0_h, x0_y, x0_out_Next, x0_out_Err, r5.2, x0_out_Ys, x0_out_Ks))
  else (
    (m_step_Moment n x0_p x0_t x0_h x1).bind fun r7 =>
    (m_step_at x0_p r7 r3).bind fun r9 =>
    (m_run_Field n x0_p.Tape r9 x0_p.Bits).bind fun r11 =>
    bif !(eqb_api_Fault r11.2 (⟨0, 0, 0, 0⟩ : M_api_Fault)) then (
      some ((⟨r11.2.Kind, r11.2.Step, x1, r11.2.At⟩ : M_api_Fault), x0_p, x0_t, x0_h, x0_y, x0_out_Next, x0_out_Err, r5.2, x0_out_Ys, x0_out_Ks))
    else (
      (appM 24 x0_out_Ys ([r3] : List (List M_frac_Frac))).bind fun y13 =>
      (appM 24 x0_out_Ks ([r11.1] : List (List M_frac_Frac))).bind fun y15 =>
      some (r11.2, x0_p, x0_t, x0_h, x0_y, x0_out_Next, x0_out_Err, r5.2, y13, y15)))
def m_lex_digit (x0 : Nat) : Option (Bool) :=
  jn (fun (j1 : (Bool) → Option _) =>
    bif decide (48 ≤ x0) then (
      j1 (decide (x0 ≤ 57)))
    else (
      j1 false)) (fun (s3 : Bool) =>
    some s3)
def m_lex_letter (x0 : Nat) : Option (Bool) :=
  jn (fun (j1 : (Bool) → Option _) =>
    bif decide (97 ≤ x0) then (
      bif decide (x0 ≤ 122) then (
        j1 true)
      else (
        bif decide (65 ≤ x0) then (
          bif decide (x0 ≤ 90) then (
            j1 true)
          else (
            j1 (decide (x0 = 95))))
        else (
          j1 (decide (x0 = 95)))))
    else (
      bif decide (65 ≤ x0) then (
        bif decide (x0 ≤ 90) then (
          j1 true)
        else (
          j1 (decide (x0 = 95))))
      else (
        j1 (decide (x0 = 95))))) (fun (s3 : Bool) =>
    some s3)
def m_lex_sign (n : Nat) (x0 : Nat) : Option (Bool) :=
  (loopM (fun (s9 : Nat) =>
    bif decide (s9 < ([43, 45, 42, 47, 94, 40, 41, 91, 93, 44, 59, 61] : List UInt8).length) then (
      (some (((decR ([43, 45, 42, 47, 94, 40, 41, 91, 93, 44, 59, 61] : List UInt8) s9 : Nat) : Int))).bind fun z11 =>
      bif decide ((Int.toNat (z11 % 256)) = x0) then (
        some (Lp.out (Lp.out (true))))
      else (
        some (Lp.go (s9 + decW ([43, 45, 42, 47, 94, 40, 41, 91, 93, 44, 59, 61] : List UInt8) s9))))
    else (
      some (Lp.out (Lp.go ())))) n 0).bind (lpK fun (_ : Unit) =>
  some false)
def m_lex_kind (n : Nat) (x0 : Nat) : Option (Int) :=
  (m_lex_digit x0).bind fun r1 =>
  bif r1 then (
    some (1 : Int))
  else (
    (m_lex_letter x0).bind fun r3 =>
    bif r3 then (
      some (2 : Int))
    else (
      (m_lex_sign n x0).bind fun r5 =>
      bif r5 then (
        some (3 : Int))
      else (
        some (0 : Int))))
def m_lex_goes (x0 : Int) (x1 : Nat) : Option (Bool) :=
  jn (fun (j11 : (Bool) → Option _) =>
    bif decide (x0 = (1 : Int)) then (
      (m_lex_digit x1).bind fun r14 =>
      bif r14 then (
        j11 true)
      else (
        bif decide (x0 = (2 : Int)) then (
          (m_lex_letter x1).bind fun r16 =>
          bif r16 then (
            j11 true)
          else (
            (m_lex_digit x1).bind fun r18 =>
            j11 r18))
        else (
          j11 false)))
    else (
      bif decide (x0 = (2 : Int)) then (
        (m_lex_letter x1).bind fun r20 =>
        bif r20 then (
          j11 true)
        else (
          (m_lex_digit x1).bind fun r22 =>
          j11 r22))
      else (
        j11 false))) (fun (s13 : Bool) =>
    some s13)
def m_lex_first (n : Nat) (x0 : (List UInt8)) (x1 : Int) : Option (Int) :=
  (loopM (fun (s27 : Int) =>
    jn (fun (j32 : (Bool) → Option _) =>
      bif decide (s27 < (x0.length : Int)) then (
        (getS x0 s27).bind fun y35 =>
        (m_lex_goes x1 y35).bind fun r37 =>
        j32 r37)
      else (
        j32 false)) (fun (s34 : Bool) =>
      bif s34 then (
        some (Lp.go (wrap64 (s27 + (1 : Int)))))
      else (
        some (Lp.out s27)))) n (1 : Int)).bind fun (t25 : Int) =>
  some t25
def m_lex_most (x0 : Int) : Option (Int) :=
  bif decide (x0 = (1 : Int)) then (
    some (60 : Int))
  else (
    bif decide (x0 = (2 : Int)) then (
      some (12 : Int))
    else (
      some (1 : Int)))
def m_lex_Right (n : Nat) (x0 : M_lex_Word) : Option (Bool) :=
  jn (fun (j7 : (Bool) → Option _) =>
    bif decide (x0.Text = ([] : List UInt8)) then (
      j7 true)
    else (
      bif decide (x0.Kind = (0 : Int)) then (
        j7 true)
      else (
        (getS x0.Text (0 : Int)).bind fun y12 =>
        (m_lex_kind n y12).bind fun r14 =>
        j7 (!decide (r14 = x0.Kind))))) (fun (s9 : Bool) =>
    bif s9 then (
      some false)
    else (
      jn (fun (j21 : (Bool) → Option _) =>
        (m_lex_first n x0.Text x0.Kind).bind fun r24 =>
        bif decide (r24 = (x0.Text.length : Int)) then (
          (m_lex_most x0.Kind).bind fun r27 =>
          j21 (decide ((x0.Text.length : Int) ≤ r27)))
        else (
          j21 false)) (fun (s23 : Bool) =>
        some s23)))
def m_scheme_shape (x0 : M_scheme_Scheme) : Option (Bool) :=
  jn (fun (j1 : (Bool) → Option _) =>
    bif decide ((x0.B.length : Int) < (1 : Int)) then (
      j1 true)
    else (
      bif decide ((8 : Int) < (x0.B.length : Int)) then (
        j1 true)
      else (
        bif !decide ((x0.C.length : Int) = (x0.B.length : Int)) then (
          j1 true)
        else (
          bif !decide ((x0.A.length : Int) = (x0.B.length : Int)) then (
            j1 true)
          else (
            bif !decide ((x0.E.length : Int) = (x0.B.length : Int)) then (
              j1 (!decide ((x0.E.length : Int) = (0 : Int))))
            else (
              j1 false)))))) (fun (s3 : Bool) =>
    bif s3 then (
      some false)
    else (
      (rangeL (fun (i10 : Nat) (x11 : (List M_frac_Frac)) (_ : Unit) =>
        bif !decide ((x11.length : Int) = (i10 : Int)) then (
          some (Lp.out (false)))
        else (
          some (Lp.go ()))) x0.A 0 ()).bind (lpK fun (_ : Unit) =>
      some true)))
def m_scheme_numbers (n : Nat) (x0 : (List (List M_frac_Frac))) : Option (Bool) :=
  (rangeL (fun (_ : Nat) (x40 : (List M_frac_Frac)) (_ : Unit) =>
    (rangeL (fun (_ : Nat) (x60 : M_frac_Frac) (_ : Unit) =>
      jn (fun (j66 : (Bool) → Option _) =>
        (m_frac_Right n x60).bind fun r69 =>
        bif !r69 then (
          j66 true)
        else (
          (m_frac_Size n x60).bind fun r71 =>
          j66 (decide ((190 : Int) < r71)))) (fun (s68 : Bool) =>
        bif s68 then (
          some (Lp.out (Lp.out (false))))
        else (
          some (Lp.go ())))) x40 0 ()).bind (lpK fun (_ : Unit) =>
    some (Lp.go ()))) x0 0 ()).bind (lpK fun (_ : Unit) =>
  some true)
def m_scheme_sum (n : Nat) (x0 : (List M_frac_Frac)) : Option (M_frac_Frac) :=
  (m_frac_Of n (0 : Int)).bind fun r1 =>
  (rangeL (fun (_ : Nat) (x18 : M_frac_Frac) (s16 : M_frac_Frac) =>
    (m_frac_Add n s16 x18).bind fun r20 =>
    some (Lp.go r20)) x0 0 r1).bind (lpK fun (s22 : M_frac_Frac) =>
  some s22)
def m_whole_Cmp (n : Nat) (x0 : M_whole_Whole) (x1 : M_whole_Whole) : Option (Int) :=
  (m_whole_Sub n x0 x1).bind fun r1 =>
  (m_whole_Sign n r1).bind fun r3 =>
  some r3
def m_frac_Cmp (n : Nat) (x0 : M_frac_Frac) (x1 : M_frac_Frac) : Option (Int) :=
  (m_frac_parts n x0).bind fun r1 =>
  (m_frac_parts n x1).bind fun r3 =>
  (m_frac_cross n r1.1 r3.2).bind fun r5 =>
  (m_frac_cross n r3.1 r1.2).bind fun r7 =>
  (m_whole_Cmp n r5 r7).bind fun r9 =>
  some r9
def m_frac_Same (n : Nat) (x0 : M_frac_Frac) (x1 : M_frac_Frac) : Option (Bool) :=
  (m_frac_Cmp n x0 x1).bind fun r1 =>
  some (decide (r1 = (0 : Int)))
def m_scheme_rows (n : Nat) (x0 : M_scheme_Scheme) : Option (Bool) :=
  (rangeL (fun (i13 : Nat) (x14 : (List M_frac_Frac)) (_ : Unit) =>
    (m_scheme_sum n x14).bind fun r16 =>
    (getI x0.C (i13 : Int)).bind fun y18 =>
    (m_frac_Same n r16 y18).bind fun r20 =>
    bif !r20 then (
      some (Lp.out (false)))
    else (
      some (Lp.go ()))) x0.A 0 ()).bind (lpK fun (_ : Unit) =>
  some true)
def m_scheme_Wrong (n : Nat) (x0 : M_scheme_Scheme) : Option (Int) :=
  (m_frac_Of n (1 : Int)).bind fun r1 =>
  (m_lex_Right n (⟨(2 : Int), x0.Name, 0⟩ : M_lex_Word)).bind fun r3 =>
  bif !r3 then (
    some (1 : Int))
  else (
    (m_scheme_shape x0).bind fun r5 =>
    bif !r5 then (
      some (2 : Int))
    else (
      jn (fun (j11 : (Bool) → Option _) =>
        (m_scheme_numbers n x0.A).bind fun r14 =>
        bif !r14 then (
          j11 true)
        else (
          (m_scheme_numbers n ([x0.B, x0.C, x0.E] : List (List M_frac_Frac))).bind fun r16 =>
          j11 (!r16))) (fun (s13 : Bool) =>
        bif s13 then (
          some (3 : Int))
        else (
          (m_scheme_rows n x0).bind fun r18 =>
          bif !r18 then (
            some (4 : Int))
          else (
            (m_scheme_sum n x0.B).bind fun r20 =>
            (m_frac_Same n r20 r1).bind fun r22 =>
            bif !r22 then (
              some (5 : Int))
            else (
              jn (fun (j29 : (Bool) → Option _) =>
                bif decide ((0 : Int) < (x0.E.length : Int)) then (
                  (m_scheme_sum n x0.E).bind fun r33 =>
                  (m_frac_Same n r33 r1).bind fun r35 =>
                  j29 (!r35))
                else (
                  j29 false)) (fun (s31 : Bool) =>
                bif s31 then (
                  some (6 : Int))
                else (
                  some (0 : Int)))))))))
def m_scheme_Right (n : Nat) (x0 : M_scheme_Scheme) : Option (Bool) :=
  (m_scheme_Wrong n x0).bind fun r1 =>
  some (decide (r1 = (0 : Int)))
def m_row_Sub (n : Nat) (x0 : (List M_frac_Frac)) (x1 : (List M_frac_Frac)) : Option ((List M_frac_Frac) × Bool) :=
  (m_frac_Of n (-1 : Int)).bind fun r1 =>
  (m_row_Scale n r1 x1).bind fun r3 =>
  (m_row_Add n ([x0, r3] : List (List M_frac_Frac))).bind fun r5 =>
  some (r5.1, r5.2)
def m_scheme_Gap (n : Nat) (x0 : M_scheme_Scheme) : Option ((List M_frac_Frac)) :=
  jn (fun (j3 : (Bool) → Option _) =>
    (m_scheme_Right n x0).bind fun r6 =>
    bif !r6 then (
      j3 true)
    else (
      j3 (decide ((x0.E.length : Int) = (0 : Int))))) (fun (s5 : Bool) =>
    bif s5 then (
      some ([] : List M_frac_Frac))
    else (
      (m_row_Sub n x0.B x0.E).bind fun r8 =>
      some r8.1))
def m___step_maker__all (n : Nat) (x0_p : M_step_Problem) (x0_t : M_frac_Frac) (x0_h : M_frac_Frac) (x0_y : (List M_frac_Frac)) (x0_g : M_gauge_Gauge) (x0_out_Ys : (List (List M_frac_Frac))) (x0_out_Ks : (List (List M_frac_Frac))) (x0_out_Next : (List M_frac_Frac)) (x0_out_Err : (List M_frac_Frac)) : Option (M_api_Fault × M_step_Problem × M_frac_Frac × M_frac_Frac × (List M_frac_Frac) × (List M_frac_Frac) × (List M_frac_Frac) × M_gauge_Gauge × (List (List M_frac_Frac)) × (List (List M_frac_Frac))) :=
  (rangeL (fun (i15 : Nat) (_ : M_frac_Frac) (s14 : M_step_Problem × M_frac_Frac × M_frac_Frac × (List M_frac_Frac) × M_gauge_Gauge × (List (List M_frac_Frac)) × (List (List M_frac_Frac)) × (List M_frac_Frac) × (List M_frac_Frac)) =>
    (m___step_maker__stage n s14.1 s14.2.1 s14.2.2.1 s14.2.2.2.1 s14.2.2.2.2.1 s14.2.2.2.2.2.1 s14.2.2.2.2.2.2.1 s14.2.2.2.2.2.2.2.1 s14.2.2.2.2.2.2.2.2 (i15 : Int)).bind fun r18 =>
    bif !(eqb_api_Fault r18.1 (⟨0, 0, 0, 0⟩ : M_api_Fault)) then (
      some (Lp.out ((r18.1, r18.2.1, r18.2.2.1, r18.2.2.2.1, r18.2.2.2.2.1, r18.2.2.2.2.2.1, r18.2.2.2.2.2.2.1, r18.2.2.2.2.2.2.2.1, r18.2.2.2.2.2.2.2.2.1, r18.2.2.2.2.2.2.2.2.2))))
    else (
      some (Lp.go (r18.2.1, r18.2.2.1, r18.2.2.2.1, r18.2.2.2.2.1, r18.2.2.2.2.2.2.2.1, r18.2.2.2.2.2.2.2.2.1, r18.2.2.2.2.2.2.2.2.2, r18.2.2.2.2.2.1, r18.2.2.2.2.2.2.1)))) x0_p.Scheme.B 0 (x0_p, x0_t, x0_h, x0_y, x0_g, x0_out_Ys, x0_out_Ks, x0_out_Next, x0_out_Err)).bind (lpK fun (s20 : M_step_Problem × M_frac_Frac × M_frac_Frac × (List M_frac_Frac) × M_gauge_Gauge × (List (List M_frac_Frac)) × (List (List M_frac_Frac)) × (List M_frac_Frac) × (List M_frac_Frac)) =>
  (m___step_maker__from n s20.1 s20.2.1 s20.2.2.1 s20.2.2.2.1 s20.2.2.2.2.1 s20.2.2.2.2.2.1 s20.2.2.2.2.2.2.1 s20.2.2.2.2.2.2.2.1 s20.2.2.2.2.2.2.2.2 x0_p.Scheme.B).bind fun r21 =>
  (m___step_maker__fits n s20.1 s20.2.1 s20.2.2.1 s20.2.2.2.1 s20.2.2.2.2.1 s20.2.2.2.2.2.1 s20.2.2.2.2.2.2.1 r21 s20.2.2.2.2.2.2.2.2 r21 (x0_p.Scheme.B.length : Int)).bind fun r23 =>
  bif !(eqb_api_Fault r23.1 (⟨0, 0, 0, 0⟩ : M_api_Fault)) then (
    some (r23.1, s20.1, s20.2.1, s20.2.2.1, s20.2.2.2.1, r21, s20.2.2.2.2.2.2.2.2, r23.2, s20.2.2.2.2.2.1, s20.2.2.2.2.2.2.1))
  else (
    jn (fun (j29 : ((List M_frac_Frac)) → Option _) =>
      (m_scheme_Gap n x0_p.Scheme).bind fun r32 =>
      bif decide ((0 : Int) < (r32.length : Int)) then (
        (m___step_maker__toward n s20.1 s20.2.1 s20.2.2.1 s20.2.2.2.1 r23.2 s20.2.2.2.2.2.1 s20.2.2.2.2.2.2.1 r21 s20.2.2.2.2.2.2.2.2 r32).bind fun r34 =>
        j29 r34)
      else (
        j29 s20.2.2.2.2.2.2.2.2)) (fun (s31 : (List M_frac_Frac)) =>
      (m___step_maker__fits n s20.1 s20.2.1 s20.2.2.1 s20.2.2.2.1 r23.2 s20.2.2.2.2.2.1 s20.2.2.2.2.2.2.1 r21 s31 s31 (wrap64 ((x0_p.Scheme.B.length : Int) + (1 : Int)))).bind fun r36 =>
      some (r36.1, s20.1, s20.2.1, s20.2.2.1, s20.2.2.2.1, r21, s31, r36.2, s20.2.2.2.2.2.1, s20.2.2.2.2.2.2.1))))
def m_digits_wrong (n : Nat) (x0 : (List UInt8)) : Option (Int) :=
  (loopM (fun (s27 : Int) =>
    bif decide (s27 < (x0.length : Int)) then (
      jn (fun (j32 : (Bool) → Option _) =>
        (getS x0 s27).bind fun y35 =>
        bif decide (y35 < 48) then (
          j32 true)
        else (
          (getS x0 s27).bind fun y37 =>
          bif decide (57 < y37) then (
            j32 true)
          else (
            j32 (decide (s27 = (60 : Int)))))) (fun (s34 : Bool) =>
        bif s34 then (
          some (Lp.out (Lp.out (s27))))
        else (
          some (Lp.go (wrap64 (s27 + (1 : Int)))))))
    else (
      some (Lp.out (Lp.go ())))) n (0 : Int)).bind (lpK fun (_ : Unit) =>
  bif decide (x0 = ([] : List UInt8)) then (
    some (0 : Int))
  else (
    some (-1 : Int)))
def m_prod_Word (n : Nat) (x0 : (List Nat)) (x1 : Nat) (x2 : Nat) : Option ((List Nat)) :=
  (mkM 4 (0 : Nat) (wrap64 ((x0.length : Int) + (1 : Int)))).bind fun y1 =>
  (m_prod_row y1 (0 : Int) x0 x1 x2).bind fun r3 =>
  (m_nat_Norm n r3).bind fun r5 =>
  some r5
def m_digits_Read (n : Nat) (x0 : (List UInt8)) : Option ((List Nat) × M_api_Fault) :=
  (m_digits_wrong n x0).bind fun r1 =>
  bif decide ((0 : Int) ≤ r1) then (
    some (([] : List Nat), (⟨(1 : Int), 0, 0, r1⟩ : M_api_Fault)))
  else (
    (loopM (fun (s49 : (List Nat) × Int) =>
      bif decide (s49.2 < (x0.length : Int)) then (
        (loopM (fun (s59 : Int × Nat × Nat × Int) =>
          jn (fun (j60 : (Bool) → Option _) =>
            bif decide (s59.2.2.2 < (9 : Int)) then (
              j60 (decide (s59.1 < (x0.length : Int))))
            else (
              j60 false)) (fun (s62 : Bool) =>
            bif s62 then (
              (getS x0 s59.1).bind fun y63 =>
              (some (((((s59.2.1 * 10) % 4294967296) + ((y63 + 256 - 48) % 256)) % 4294967296))).bind fun z65 =>
              some (Lp.go (wrap64 (s59.1 + (1 : Int)), z65, ((s59.2.2.1 * 10) % 4294967296), wrap64 (s59.2.2.2 + (1 : Int)))))
            else (
              some (Lp.out (s59.1, s59.2.1, s59.2.2.1))))) n (s49.2, 0, 1, (0 : Int))).bind fun (t57 : Int × Nat × Nat) =>
        (m_prod_Word n s49.1 t57.2.2 t57.2.1).bind fun r66 =>
        some (Lp.go (r66, t57.1)))
      else (
        some (Lp.out s49.1))) n (([] : List Nat), (0 : Int))).bind fun (t47 : (List Nat)) =>
    some (t47, (⟨0, 0, 0, 0⟩ : M_api_Fault)))
def m_digits_nine (n : Nat) (x0 : Nat) : Option ((List UInt8)) :=
  (loopM (fun (s7 : Nat × M_A9_u8 × Int) =>
    bif decide ((0 : Int) ≤ s7.2.2) then (
      (getI ([s7.2.1.a0, s7.2.1.a1, s7.2.1.a2, s7.2.1.a3, s7.2.1.a4, s7.2.1.a5, s7.2.1.a6, s7.2.1.a7, s7.2.1.a8] : List Nat) s7.2.2).bind fun _ =>
      some (Lp.go ((s7.1 / 10), (ofl_A9_u8 (List.set ([s7.2.1.a0, s7.2.1.a1, s7.2.1.a2, s7.2.1.a3, s7.2.1.a4, s7.2.1.a5, s7.2.1.a6, s7.2.1.a7, s7.2.1.a8] : List Nat) (Int.toNat s7.2.2) (((48 + (s7.1 % 10)) % 4294967296) % 256))), wrap64 (s7.2.2 - (1 : Int)))))
    else (
      some (Lp.out s7.2.1))) n (x0, (⟨0, 0, 0, 0, 0, 0, 0, 0, 0⟩ : M_A9_u8), (8 : Int))).bind fun (t5 : M_A9_u8) =>
  (some (([t5.a0, t5.a1, t5.a2, t5.a3, t5.a4, t5.a5, t5.a6, t5.a7, t5.a8] : List Nat))).bind fun z10 =>
  some (bS z10)
def m_digits_Text (n : Nat) (x0 : (List Nat)) : Option ((List UInt8)) :=
  (m_nat_Zero n x0).bind fun r1 =>
  bif r1 then (
    some ([48] : List UInt8))
  else (
    (loopM (fun (s23 : (List Nat) × (List (List UInt8))) =>
      (m_nat_Zero n s23.1).bind fun r24 =>
      bif !r24 then (
        (m_quot_Word n s23.1 1000000000).bind fun r26 =>
        (m_digits_nine n r26.2.1).bind fun r28 =>
        (appM 16 s23.2 ([r28] : List (List UInt8))).bind fun y30 =>
        some (Lp.go (r26.1, y30)))
      else (
        some (Lp.out s23.2))) n (x0, ([] : List (List UInt8)))).bind fun (t21 : (List (List UInt8))) =>
    (loopM (fun (s44 : (List UInt8) × Int) =>
      bif decide ((0 : Int) ≤ s44.2) then (
        (getI t21 s44.2).bind fun y45 =>
        (appM 1 s44.1 y45).bind fun y47 =>
        some (Lp.go (y47, wrap64 (s44.2 - (1 : Int)))))
      else (
        some (Lp.out s44.1))) n (([] : List UInt8), wrap64 ((t21.length : Int) - (1 : Int)))).bind fun (t42 : (List UInt8)) =>
    (m_strings_TrimLeft t42 ([48] : List UInt8)).bind fun r49 =>
    some r49)
def m_frac_Abs (n : Nat) (x0 : M_frac_Frac) : Option (M_frac_Frac) :=
  (m_frac_Norm n x0).bind fun r1 =>
  some (⟨(⟨false, r1.Num.Abs⟩ : M_whole_Whole), r1.Den⟩ : M_frac_Frac)
def m_frac_Max (n : Nat) (x0 : (List M_frac_Frac)) : Option (M_frac_Frac) :=
  (m_frac_Of n (0 : Int)).bind fun r1 =>
  (rangeL (fun (i31 : Nat) (x32 : M_frac_Frac) (s30 : M_frac_Frac) =>
    jn (fun (j36 : (Bool) → Option _) =>
      bif decide ((i31 : Int) = (0 : Int)) then (
        j36 true)
      else (
        (m_frac_Cmp n x32 s30).bind fun r39 =>
        j36 (decide ((0 : Int) < r39)))) (fun (s38 : Bool) =>
      bif s38 then (
        (m_frac_Norm n x32).bind fun r41 =>
        some (Lp.go r41))
      else (
        some (Lp.go s30)))) x0 0 r1).bind (lpK fun (s43 : M_frac_Frac) =>
  some s43)
def m_step_Right (n : Nat) (x0 : M_step_Problem) : Option (Bool) :=
  jn (fun (j5 : (Bool) → Option _) =>
    (m_tape_Right n x0.Tape).bind fun r8 =>
    bif r8 then (
      (m_scheme_Right n x0.Scheme).bind fun r10 =>
      bif r10 then (
        j5 (decide ((x0.P.length : Int) = x0.Tape.Par)))
      else (
        j5 false))
    else (
      j5 false)) (fun (s7 : Bool) =>
    some s7)
def m_march_may (n : Nat) (x0 : (List M_frac_Frac)) : Option (Bool) :=
  (rangeL (fun (_ : Nat) (x10 : M_frac_Frac) (_ : Unit) =>
    (m_frac_Sign n x10).bind fun r12 =>
    bif decide (r12 ≤ (0 : Int)) then (
      some (Lp.out (false)))
    else (
      some (Lp.go ()))) x0 0 ()).bind (lpK fun (_ : Unit) =>
  some (decide ((x0.length : Int) ≤ (200 : Int))))
def m_step_Do (n : Nat) (x0 : M_step_Problem) (x1 : M_frac_Frac) (x2 : M_frac_Frac) (x3 : (List M_frac_Frac)) : Option (M_step_Made × M_api_Fault) :=
  jn (fun (j3 : (Bool) → Option _) =>
    (m_step_Right n x0).bind fun r6 =>
    bif !r6 then (
      j3 true)
    else (
      j3 (!decide ((x3.length : Int) = x0.Tape.Dim)))) (fun (s5 : Bool) =>
    bif s5 then (
      some ((⟨[], [], [], []⟩ : M_step_Made), (⟨(2 : Int), 0, 0, 0⟩ : M_api_Fault)))
    else (
      (m_gauge_New x0.Bits).bind fun r8 =>
      (m___step_maker__all n x0 x1 x2 x3 r8 ([] : List (List M_frac_Frac)) ([] : List (List M_frac_Frac)) [] []).bind fun r10 =>
      bif !(eqb_api_Fault r10.1 (⟨0, 0, 0, 0⟩ : M_api_Fault)) then (
        some ((⟨[], [], [], []⟩ : M_step_Made), r10.1))
      else (
        some ((⟨r10.2.2.2.2.2.2.2.2.1, r10.2.2.2.2.2.2.2.2.2, r10.2.2.2.2.2.1, r10.2.2.2.2.2.2.1⟩ : M_step_Made), (⟨0, 0, 0, 0⟩ : M_api_Fault)))))
def m_row_Norm (n : Nat) (x0 : (List M_frac_Frac)) : Option (M_frac_Frac) :=
  (m_frac_Of n (0 : Int)).bind fun r1 =>
  (rangeL (fun (_ : Nat) (x24 : M_frac_Frac) (s22 : M_frac_Frac) =>
    (m_frac_Abs n x24).bind fun r26 =>
    (m_frac_Max n ([s22, r26] : List M_frac_Frac)).bind fun r28 =>
    some (Lp.go r28)) x0 0 r1).bind (lpK fun (s30 : M_frac_Frac) =>
  some s30)
def m_march_Fixed (n : Nat) (x0 : M_step_Problem) (x1 : M_frac_Frac) (x2 : (List M_frac_Frac)) (x3 : (List M_frac_Frac)) : Option (M_past_History × M_api_Fault) :=
  jn (fun (j5 : (Bool) → Option _) =>
    (m_step_Right n x0).bind fun r8 =>
    bif !r8 then (
      j5 true)
    else (
      bif !decide ((x2.length : Int) = x0.Tape.Dim) then (
        j5 true)
      else (
        (m_march_may n x3).bind fun r10 =>
        j5 (!r10)))) (fun (s7 : Bool) =>
    bif s7 then (
      some ((⟨[], (⟨(⟨false, []⟩ : M_whole_Whole), []⟩ : M_frac_Frac), []⟩ : M_past_History), (⟨(2 : Int), 0, 0, 0⟩ : M_api_Fault)))
    else (
      (m_frac_Norm n x1).bind fun r12 =>
      (m_frac_Of n (1 : Int)).bind fun r14 =>
      (m_row_Scale n r14 x2).bind fun r16 =>
      (rangeL (fun (i48 : Nat) (x49 : M_frac_Frac) (s47 : (List M_past_Try) × M_frac_Frac × (List M_frac_Frac)) =>
        (m_frac_Norm n x49).bind fun r51 =>
        (m_step_Do n x0 s47.2.1 r51 s47.2.2).bind fun r53 =>
        bif !(eqb_api_Fault r53.2 (⟨0, 0, 0, 0⟩ : M_api_Fault)) then (
          some (Lp.out (((⟨[], (⟨(⟨false, []⟩ : M_whole_Whole), []⟩ : M_frac_Frac), []⟩ : M_past_History), (⟨r53.2.Kind, wrap64 ((i48 : Int) + (1 : Int)), r53.2.Stage, r53.2.At⟩ : M_api_Fault)))))
        else (
          (m_row_Norm n r53.1.Err).bind fun r55 =>
          (appM 256 s47.1 ([(⟨s47.2.1, r51, r51, r55, s47.2.2, true⟩ : M_past_Try)] : List M_past_Try)).bind fun y57 =>
          (m_frac_Add n s47.2.1 r51).bind fun r59 =>
          some (Lp.go (y57, r59, r53.1.Next)))) x3 0 (([] : List M_past_Try), r12, r16)).bind (lpK fun (s61 : (List M_past_Try) × M_frac_Frac × (List M_frac_Frac)) =>
      some ((⟨s61.1, s61.2.1, s61.2.2⟩ : M_past_History), (⟨0, 0, 0, 0⟩ : M_api_Fault)))))
def m_retrospectlaw09_To (x0 : M_retrospectref09_Frac) : Option (M_frac_Frac) :=
  some (⟨(⟨x0.Neg, x0.N⟩ : M_whole_Whole), x0.D⟩ : M_frac_Frac)
def m_retrospectlaw11_To (n : Nat) (x0 : (List M_retrospectref09_Frac)) : Option ((List M_frac_Frac)) :=
  (loopM (fun (s17 : (List M_frac_Frac) × Int) =>
    bif decide (s17.2 < (x0.length : Int)) then (
      (getI x0 s17.2).bind fun y18 =>
      (m_retrospectlaw09_To y18).bind fun r20 =>
      (appM 56 s17.1 ([r20] : List M_frac_Frac)).bind fun y22 =>
      some (Lp.go (y22, wrap64 (s17.2 + (1 : Int)))))
    else (
      some (Lp.out s17.1))) n (([] : List M_frac_Frac), (0 : Int))).bind fun (t15 : (List M_frac_Frac)) =>
  some t15
def m_retrospectlaw12_To (n : Nat) (x0 : (List (List M_retrospectref09_Frac))) : Option ((List (List M_frac_Frac))) :=
  (loopM (fun (s17 : (List (List M_frac_Frac)) × Int) =>
    bif decide (s17.2 < (x0.length : Int)) then (
      (getI x0 s17.2).bind fun y18 =>
      (m_retrospectlaw11_To n y18).bind fun r20 =>
      (appM 24 s17.1 ([r20] : List (List M_frac_Frac))).bind fun y22 =>
      some (Lp.go (y22, wrap64 (s17.2 + (1 : Int)))))
    else (
      some (Lp.out s17.1))) n (([] : List (List M_frac_Frac)), (0 : Int))).bind fun (t15 : (List (List M_frac_Frac))) =>
  some t15
def m_retrospectlaw17_To (n : Nat) (x0 : (List M_retrospectref17_Node)) : Option ((List M_tree_Node)) :=
  (loopM (fun (s21 : (List M_tree_Node) × Int) =>
    bif decide (s21.2 < (x0.length : Int)) then (
      (getI x0 s21.2).bind fun y22 =>
      (getI x0 s21.2).bind fun y24 =>
      (getI x0 s21.2).bind fun y26 =>
      (appM 40 s21.1 ([(⟨y22.Op, y24.I, y26.N⟩ : M_tree_Node)] : List M_tree_Node)).bind fun y28 =>
      some (Lp.go (y28, wrap64 (s21.2 + (1 : Int)))))
    else (
      some (Lp.out s21.1))) n (([] : List M_tree_Node), (0 : Int))).bind fun (t19 : (List M_tree_Node)) =>
  some t19
def m_retrospectlaw17_ToField (n : Nat) (x0 : M_retrospectref17_Field) : Option (M_tree_Field) :=
  (loopM (fun (s12 : (List M_tree_Let) × Int) =>
    bif decide (s12.2 < (x0.Lets.length : Int)) then (
      (getI x0.Lets s12.2).bind fun y13 =>
      (getI x0.Lets s12.2).bind fun y15 =>
      (m_retrospectlaw17_To n y15.Code).bind fun r17 =>
      (appM 40 s12.1 ([(⟨y13.Name, r17⟩ : M_tree_Let)] : List M_tree_Let)).bind fun y19 =>
      some (Lp.go (y19, wrap64 (s12.2 + (1 : Int)))))
    else (
      some (Lp.out s12.1))) n (([] : List M_tree_Let), (0 : Int))).bind fun (t10 : (List M_tree_Let)) =>
  (loopM (fun (s37 : (List (List M_tree_Node)) × Int) =>
    bif decide (s37.2 < (x0.Outs.length : Int)) then (
      (getI x0.Outs s37.2).bind fun y38 =>
      (m_retrospectlaw17_To n y38).bind fun r40 =>
      (appM 24 s37.1 ([r40] : List (List M_tree_Node))).bind fun y42 =>
      some (Lp.go (y42, wrap64 (s37.2 + (1 : Int)))))
    else (
      some (Lp.out s37.1))) n (([] : List (List M_tree_Node)), (0 : Int))).bind fun (t35 : (List (List M_tree_Node))) =>
  some (⟨t10, t35⟩ : M_tree_Field)
def m_retrospectlaw24_To (n : Nat) (x0 : M_retrospectref24_Tape) : Option (M_tape_Tape) :=
  (appM 8 ([] : List Int) x0.Outs).bind fun y1 =>
  (loopM (fun (s19 : (List M_tape_Inst) × Int) =>
    bif decide (s19.2 < (x0.Code.length : Int)) then (
      (getI x0.Code s19.2).bind fun y20 =>
      (m_retrospectlaw09_To y20.N).bind fun r22 =>
      (appM 80 s19.1 ([(⟨y20.Op, y20.A, y20.B, r22⟩ : M_tape_Inst)] : List M_tape_Inst)).bind fun y24 =>
      some (Lp.go (y24, wrap64 (s19.2 + (1 : Int)))))
    else (
      some (Lp.out s19.1))) n (([] : List M_tape_Inst), (0 : Int))).bind fun (t17 : (List M_tape_Inst)) =>
  some (⟨t17, y1, x0.Dim, x0.Par⟩ : M_tape_Tape)
def m_retrospectlaw30_To (n : Nat) (x0 : M_retrospectref30_Scheme) : Option (M_scheme_Scheme) :=
  (m_retrospectlaw11_To n x0.C).bind fun r1 =>
  (m_retrospectlaw12_To n x0.A).bind fun r3 =>
  (m_retrospectlaw11_To n x0.B).bind fun r5 =>
  (m_retrospectlaw11_To n x0.E).bind fun r7 =>
  some (⟨x0.Name, r1, r3, r5, r7⟩ : M_scheme_Scheme)
def m_retrospectref09_Long (x0 : M_retrospectref09_Frac) (x1 : Int) : Option (Bool) :=
  jn (fun (j1 : (Bool) → Option _) =>
    bif decide (x1 < (x0.N.length : Int)) then (
      j1 true)
    else (
      j1 (decide (x1 < (x0.D.length : Int))))) (fun (s3 : Bool) =>
    some s3)
def m_retrospectref11_Long (n : Nat) (x0 : (List M_retrospectref09_Frac)) (x1 : Int) (x2 : Int) : Option (Bool) :=
  (loopM (fun (s19 : Int) =>
    jn (fun (j20 : (Bool) → Option _) =>
      bif decide (s19 < (x0.length : Int)) then (
        j20 (decide (s19 < x1)))
      else (
        j20 false)) (fun (s22 : Bool) =>
      bif s22 then (
        (getI x0 s19).bind fun y23 =>
        (m_retrospectref09_Long y23 x2).bind fun r25 =>
        bif r25 then (
          some (Lp.out (Lp.out (true))))
        else (
          some (Lp.go (wrap64 (s19 + (1 : Int))))))
      else (
        some (Lp.out (Lp.go ()))))) n (0 : Int)).bind (lpK fun (_ : Unit) =>
  some (decide (x1 < (x0.length : Int))))
def m_retrospectlaw33_Long (n : Nat) (x0 : M_retrospectlaw33_From) : Option (Bool) :=
  jn (fun (j7 : (Bool) → Option _) =>
    (m_retrospectref09_Long x0.T (2 : Int)).bind fun r10 =>
    bif r10 then (
      j7 true)
    else (
      (m_retrospectref09_Long x0.H (2 : Int)).bind fun r12 =>
      bif r12 then (
        j7 true)
      else (
        (m_retrospectref11_Long n x0.Y (4 : Int) (2 : Int)).bind fun r14 =>
        j7 r14))) (fun (s9 : Bool) =>
    some s9)
def m_retrospectref24_Long (n : Nat) (x0 : M_retrospectref24_Tape) (x1 : Int) (x2 : Int) : Option (Bool) :=
  (loopM (fun (s19 : Int) =>
    jn (fun (j20 : (Bool) → Option _) =>
      bif decide (s19 < (x0.Code.length : Int)) then (
        j20 (decide (s19 < x1)))
      else (
        j20 false)) (fun (s22 : Bool) =>
      bif s22 then (
        (getI x0.Code s19).bind fun y23 =>
        (m_retrospectref09_Long y23.N x2).bind fun r25 =>
        bif r25 then (
          some (Lp.out (Lp.out (true))))
        else (
          some (Lp.go (wrap64 (s19 + (1 : Int))))))
      else (
        some (Lp.out (Lp.go ()))))) n (0 : Int)).bind (lpK fun (_ : Unit) =>
  jn (fun (j27 : (Bool) → Option _) =>
    bif decide (x1 < (x0.Code.length : Int)) then (
      j27 true)
    else (
      j27 (decide (x1 < (x0.Outs.length : Int))))) (fun (s29 : Bool) =>
    some s29))
def m_retrospectref30_Long (n : Nat) (x0 : M_retrospectref30_Scheme) (x1 : Int) (x2 : Int) : Option (Bool) :=
  jn (fun (j7 : (Bool) → Option _) =>
    bif decide ((50 : Int) < (x0.Name.length : Int)) then (
      j7 true)
    else (
      bif decide (x1 < (x0.A.length : Int)) then (
        j7 true)
      else (
        (m_retrospectref11_Long n x0.B x1 x2).bind fun r10 =>
        bif r10 then (
          j7 true)
        else (
          (m_retrospectref11_Long n x0.C x1 x2).bind fun r12 =>
          bif r12 then (
            j7 true)
          else (
            (m_retrospectref11_Long n x0.E x1 x2).bind fun r14 =>
            j7 r14))))) (fun (s9 : Bool) =>
    bif s9 then (
      some true)
    else (
      (loopM (fun (s28 : Int) =>
        bif decide (s28 < (x0.A.length : Int)) then (
          (getI x0.A s28).bind fun y29 =>
          (m_retrospectref11_Long n y29 x1 x2).bind fun r31 =>
          bif r31 then (
            some (Lp.out (Lp.out (true))))
          else (
            some (Lp.go (wrap64 (s28 + (1 : Int))))))
        else (
          some (Lp.out (Lp.go ())))) n (0 : Int)).bind (lpK fun (_ : Unit) =>
      some false)))
def m_retrospectref33_Long (n : Nat) (x0 : M_retrospectref33_Problem) (x1 : Int) (x2 : Int) (x3 : Int) : Option (Bool) :=
  jn (fun (j7 : (Bool) → Option _) =>
    (m_retrospectref24_Long n x0.Tape x1 x3).bind fun r10 =>
    bif r10 then (
      j7 true)
    else (
      (m_retrospectref30_Long n x0.Scheme x2 (4 : Int)).bind fun r12 =>
      bif r12 then (
        j7 true)
      else (
        (m_retrospectref11_Long n x0.P (6 : Int) x3).bind fun r14 =>
        j7 r14))) (fun (s9 : Bool) =>
    some s9)
def m_stock_texts  : Option (M_A6_string) :=
  some (⟨([101, 117, 108, 101, 114, 10, 48, 124, 10, 98, 32, 49] : List UInt8), ([104, 101, 117, 110, 10, 48, 124, 10, 49, 124, 49, 10, 98, 32, 49, 47, 50, 44, 49, 47, 50, 10, 101, 32, 49, 44, 48] : List UInt8), ([109, 105, 100, 112, 111, 105, 110, 116, 10, 48, 124, 10, 49, 47, 50, 124, 49, 47, 50, 10, 98, 32, 48, 44, 49, 10, 101, 32, 49, 44, 48] : List UInt8), ([114, 107, 52, 10, 48, 124, 10, 49, 47, 50, 124, 49, 47, 50, 10, 49, 47, 50, 124, 48, 44, 49, 47, 50, 10, 49, 124, 48, 44, 48, 44, 49, 10, 98, 32, 49, 47, 54, 44, 49, 47, 51, 44, 49, 47, 51, 44, 49, 47, 54] : List UInt8), ([98, 115, 50, 51, 10, 48, 124, 10, 49, 47, 50, 124, 49, 47, 50, 10, 51, 47, 52, 124, 48, 44, 51, 47, 52, 10, 49, 124, 50, 47, 57, 44, 49, 47, 51, 44, 52, 47, 57, 10, 98, 32, 50, 47, 57, 44, 49, 47, 51, 44, 52, 47, 57, 44, 48, 10, 101, 32, 55, 47, 50, 52, 44, 49, 47, 52, 44, 49, 47, 51, 44, 49, 47, 56] : List UInt8), ([100, 112, 52, 53, 10, 48, 124, 10, 49, 47, 53, 124, 49, 47, 53, 10, 51, 47, 49, 48, 124, 51, 47, 52, 48, 44, 57, 47, 52, 48, 10, 52, 47, 53, 124, 52, 52, 47, 52, 53, 44, 45, 53, 54, 47, 49, 53, 44, 51, 50, 47, 57, 10, 56, 47, 57, 124, 49, 57, 51, 55, 50, 47, 54, 53, 54, 49, 44, 45, 50, 53, 51, 54, 48, 47, 50, 49, 56, 55, 44, 54, 52, 52, 52, 56, 47, 54, 53, 54, 49, 44, 45, 50, 49, 50, 47, 55, 50, 57, 10, 49, 124, 57, 48, 49, 55, 47, 51, 49, 54, 56, 44, 45, 51, 53, 53, 47, 51, 51, 44, 52, 54, 55, 51, 50, 47, 53, 50, 52, 55, 44, 52, 57, 47, 49, 55, 54, 44, 45, 53, 49, 48, 51, 47, 49, 56, 54, 53, 54, 10, 49, 124, 51, 53, 47, 51, 56, 52, 44, 48, 44, 53, 48, 48, 47, 49, 49, 49, 51, 44, 49, 50, 53, 47, 49, 57, 50, 44, 45, 50, 49, 56, 55, 47, 54, 55, 56, 52, 44, 49, 49, 47, 56, 52, 10, 98, 32, 51, 53, 47, 51, 56, 52, 44, 48, 44, 53, 48, 48, 47, 49, 49, 49, 51, 44, 49, 50, 53, 47, 49, 57, 50, 44, 45, 50, 49, 56, 55, 47, 54, 55, 56, 52, 44, 49, 49, 47, 56, 52, 44, 48, 10, 101, 32, 53, 49, 55, 57, 47, 53, 55, 54, 48, 48, 44, 48, 44, 55, 53, 55, 49, 47, 49, 54, 54, 57, 53, 44, 51, 57, 51, 47, 54, 52, 48, 44, 45, 57, 50, 48, 57, 55, 47, 51, 51, 57, 50, 48, 48, 44, 49, 56, 55, 47, 50, 49, 48, 48, 44, 49, 47, 52, 48] : List UInt8)⟩ : M_A6_string)
def m_stock_name (x0 : (List UInt8)) : Option ((List UInt8)) :=
  (m_strings_Cut x0 ([10] : List UInt8)).bind fun r1 =>
  some r1.1
def m___scheme_reader__line (x0 : M_scheme_reader) : Option ((List UInt8) × Int × Bool × M_scheme_reader) :=
  bif x0.over then (
    some (([] : List UInt8), x0.at_, false, x0))
  else (
    (m_strings_Cut x0.rest ([10] : List UInt8)).bind fun r1 =>
    jn (fun (j3 : (M_scheme_reader) → Option _) =>
      bif r1.2.2 then (
        j3 (⟨r1.2.1, wrap64 ((wrap64 (x0.at_ + (r1.1.length : Int))) + (1 : Int)), !r1.2.2⟩ : M_scheme_reader))
      else (
        j3 (⟨r1.2.1, wrap64 (x0.at_ + (r1.1.length : Int)), !r1.2.2⟩ : M_scheme_reader))) (fun (s5 : M_scheme_reader) =>
      some (r1.1, x0.at_, true, s5)))
def m___scheme_reader__back (x0 : M_scheme_reader) (x1 : (List UInt8)) (x2 : Int) : Option (M_scheme_reader) :=
  (sub x1 x2 (x1.length : Int)).bind fun y1 =>
  some (⟨y1, x2, false⟩ : M_scheme_reader)
def m_internal_stringslite_HasPrefix (x0 : (List UInt8)) (x1 : (List UInt8)) : Option (Bool) :=
  jn (fun (j3 : (Bool) → Option _) =>
    bif decide ((x1.length : Int) ≤ (x0.length : Int)) then (
      (sub x0 (0 : Int) (x1.length : Int)).bind fun y6 =>
      j3 (decide (y6 = x1)))
    else (
      j3 false)) (fun (s5 : Bool) =>
    some s5)
def m_internal_stringslite_CutPrefix (x0 : (List UInt8)) (x1 : (List UInt8)) : Option ((List UInt8) × Bool) :=
  (m_internal_stringslite_HasPrefix x0 x1).bind fun r1 =>
  bif !r1 then (
    some (x0, false))
  else (
    (sub x0 (x1.length : Int) (x0.length : Int)).bind fun y3 =>
    some (y3, true))
def m_strings_CutPrefix (x0 : (List UInt8)) (x1 : (List UInt8)) : Option ((List UInt8) × Bool) :=
  (m_internal_stringslite_CutPrefix x0 x1).bind fun r1 =>
  some (r1.1, r1.2)
def m_whole_Read (n : Nat) (x0 : (List UInt8)) : Option (M_whole_Whole × M_api_Fault) :=
  (m_strings_CutPrefix x0 ([45] : List UInt8)).bind fun r1 =>
  (m_digits_Read n r1.1).bind fun r3 =>
  bif !(eqb_api_Fault r3.2 (⟨0, 0, 0, 0⟩ : M_api_Fault)) then (
    some ((⟨false, []⟩ : M_whole_Whole), (⟨r3.2.Kind, r3.2.Step, r3.2.Stage, wrap64 (r3.2.At + (wrap64 ((x0.length : Int) - (r1.1.length : Int))))⟩ : M_api_Fault)))
  else (
    (m_whole_signed r1.2 r3.1).bind fun r5 =>
    some (r5, (⟨0, 0, 0, 0⟩ : M_api_Fault)))
def m_frac_New (n : Nat) (x0 : M_whole_Whole) (x1 : (List Nat)) : Option (M_frac_Frac × Bool) :=
  (m_nat_Zero n x1).bind fun r1 =>
  bif r1 then (
    (m_frac_Of n (0 : Int)).bind fun r3 =>
    some (r3, false))
  else (
    (m_frac_cancel n x0 x1).bind fun r5 =>
    some (r5, true))
def m_figure_digitsBehind (n : Nat) (x0 : (List UInt8)) (x1 : Int) : Option ((List Nat) × M_api_Fault) :=
  (sub x0 x1 (x0.length : Int)).bind fun y1 =>
  (m_digits_Read n y1).bind fun r3 =>
  jn (fun (j5 : (M_api_Fault) → Option _) =>
    bif !(eqb_api_Fault r3.2 (⟨0, 0, 0, 0⟩ : M_api_Fault)) then (
      j5 (⟨r3.2.Kind, r3.2.Step, r3.2.Stage, wrap64 (r3.2.At + x1)⟩ : M_api_Fault))
    else (
      j5 r3.2)) (fun (s7 : M_api_Fault) =>
    some (r3.1, s7))
def m_figure_over (n : Nat) (x0 : M_whole_Whole) (x1 : (List UInt8)) (x2 : Int) : Option (M_frac_Frac × M_api_Fault) :=
  (m_figure_digitsBehind n x1 x2).bind fun r1 =>
  bif !(eqb_api_Fault r1.2 (⟨0, 0, 0, 0⟩ : M_api_Fault)) then (
    (m_frac_Of n (0 : Int)).bind fun r3 =>
    some (r3, r1.2))
  else (
    (m_frac_New n x0 r1.1).bind fun r5 =>
    bif !r5.2 then (
      some (r5.1, (⟨(2 : Int), 0, 0, x2⟩ : M_api_Fault)))
    else (
      some (r5.1, (⟨0, 0, 0, 0⟩ : M_api_Fault))))
def m_strings_HasPrefix (x0 : (List UInt8)) (x1 : (List UInt8)) : Option (Bool) :=
  (m_internal_stringslite_HasPrefix x0 x1).bind fun r1 =>
  some r1
def m_prod_Square (n : Nat) (x0 : (List Nat)) : Option ((List Nat)) :=
  (mkM 4 (0 : Nat) (wrap64 ((wrap64 ((2 : Int) * (x0.length : Int))) + (1 : Int)))).bind fun y1 =>
  (rangeL (fun (i21 : Nat) (x22 : Nat) (s20 : (List Nat)) =>
    (sub x0 (wrap64 ((i21 : Int) + (1 : Int))) (x0.length : Int)).bind fun y24 =>
    (m_prod_row s20 (wrap64 ((wrap64 ((2 : Int) * (i21 : Int))) + (1 : Int))) y24 x22 0).bind fun r26 =>
    some (Lp.go r26)) x0 0 y1).bind (lpK fun (s28 : (List Nat)) =>
  (m_twos_Up n s28 (1 : Int)).bind fun r29 =>
  (mkM 4 (0 : Nat) (wrap64 ((2 : Int) * (x0.length : Int)))).bind fun y31 =>
  (rangeL (fun (i57 : Nat) (x58 : Nat) (s56 : (List Nat)) =>
    (m_limb_Mul x58 x58 0 0).bind fun r60 =>
    (getI s56 (wrap64 ((wrap64 ((2 : Int) * (i57 : Int))) + (1 : Int)))).bind fun _ =>
    (some ((List.set s56 (Int.toNat (wrap64 ((wrap64 ((2 : Int) * (i57 : Int))) + (1 : Int)))) r60.1))).bind fun z64 =>
    (getI z64 (wrap64 ((2 : Int) * (i57 : Int)))).bind fun _ =>
    some (Lp.go (List.set z64 (Int.toNat (wrap64 ((2 : Int) * (i57 : Int)))) r60.2))) x0 0 y31).bind (lpK fun (s67 : (List Nat)) =>
  (m_nat_Add n ([r29, s67] : List (List Nat))).bind fun r68 =>
  some r68))
def m_prod_Pow (n : Nat) (x0 : (List Nat)) (x1 : Int) : Option ((List Nat) × Bool) :=
  (m_twos_Len n x0).bind fun r1 =>
  jn (fun (j4 : (Bool) → Option _) =>
    bif decide (x1 < (0 : Int)) then (
      j4 true)
    else (
      bif decide ((1 : Int) < r1) then (
        (grd (r1 != 0)).bind fun _ =>
        j4 (decide ((wrap64 (Int.tdiv (65536 : Int) r1)) < x1)))
      else (
        j4 false))) (fun (s6 : Bool) =>
    bif s6 then (
      some (([] : List Nat), false))
    else (
      (m_nat_Of n 1).bind fun r8 =>
      bif decide (r1 < (2 : Int)) then (
        jn (fun (j14 : ((List Nat)) → Option _) =>
          bif decide ((0 : Int) < x1) then (
            (m_nat_Norm n x0).bind fun r17 =>
            j14 r17)
          else (
            j14 r8)) (fun (s16 : (List Nat)) =>
          some (s16, true)))
      else (
        (m_nat_Of n (Int.toNat (x1 % 18446744073709551616))).bind fun r19 =>
        (m_twos_Len n r19).bind fun r21 =>
        (loopM (fun (s57 : (List Nat) × Int) =>
          bif decide ((0 : Int) ≤ s57.2) then (
            jn (fun (j64 : ((List Nat)) → Option _) =>
              (m_prod_Square n s57.1).bind fun r67 =>
              (grd (decide (0 ≤ s57.2))).bind fun _ =>
              (some (decide ((wrap64 (andZ (Int.fdiv x1 (2 ^ (min (Int.toNat s57.2) 64))) (1 : Int))) = (1 : Int)))).bind fun z70 =>
              bif z70 then (
                (m_prod_Mul n r67 x0).bind fun r71 =>
                j64 r71)
              else (
                j64 r67)) (fun (s66 : (List Nat)) =>
              some (Lp.go (s66, wrap64 (s57.2 - (1 : Int))))))
          else (
            some (Lp.out s57.1))) n (r8, wrap64 (r21 - (1 : Int)))).bind fun (t55 : (List Nat)) =>
        some (t55, true))))
def m_figure_tens (n : Nat) (x0 : Int) : Option ((List Nat)) :=
  (m_nat_Of n 10).bind fun r1 =>
  (m_prod_Pow n r1 x0).bind fun r3 =>
  some r3.1
def m_figure_places (n : Nat) (x0 : M_whole_Whole) (x1 : Bool) (x2 : (List UInt8)) (x3 : Int) : Option (M_frac_Frac × M_api_Fault) :=
  (m_figure_digitsBehind n x2 x3).bind fun r1 =>
  bif !(eqb_api_Fault r1.2 (⟨0, 0, 0, 0⟩ : M_api_Fault)) then (
    (m_frac_Of n (0 : Int)).bind fun r3 =>
    some (r3, r1.2))
  else (
    (m_figure_tens n (wrap64 ((x2.length : Int) - x3))).bind fun r5 =>
    (m_prod_Mul n x0.Abs r5).bind fun r7 =>
    (m_nat_Add n ([r7, r1.1] : List (List Nat))).bind fun r9 =>
    (m_frac_New n (⟨x1, r9⟩ : M_whole_Whole) r5).bind fun r11 =>
    some (r11.1, (⟨0, 0, 0, 0⟩ : M_api_Fault)))
def m_figure_Read (n : Nat) (x0 : (List UInt8)) : Option (M_frac_Frac × M_api_Fault) :=
  (m_strings_IndexAny x0 ([47, 46] : List UInt8)).bind fun r1 =>
  jn (fun (j5 : ((List UInt8)) → Option _) =>
    bif decide ((0 : Int) ≤ r1) then (
      (sub x0 (0 : Int) r1).bind fun y8 =>
      j5 y8)
    else (
      j5 x0)) (fun (s7 : (List UInt8)) =>
    (m_whole_Read n s7).bind fun r10 =>
    bif !(eqb_api_Fault r10.2 (⟨0, 0, 0, 0⟩ : M_api_Fault)) then (
      (m_frac_Of n (0 : Int)).bind fun r12 =>
      some (r12, r10.2))
    else (
      bif decide (r1 < (0 : Int)) then (
        (m_nat_Of n 1).bind fun r14 =>
        (m_frac_New n r10.1 r14).bind fun r16 =>
        some (r16.1, (⟨0, 0, 0, 0⟩ : M_api_Fault)))
      else (
        (getS x0 r1).bind fun y18 =>
        bif decide (y18 = 47) then (
          (m_figure_over n r10.1 x0 (wrap64 (r1 + (1 : Int)))).bind fun r20 =>
          some (r20.1, r20.2))
        else (
          (m_strings_HasPrefix x0 ([45] : List UInt8)).bind fun r22 =>
          (m_figure_places n r10.1 r22 x0 (wrap64 (r1 + (1 : Int)))).bind fun r24 =>
          some (r24.1, r24.2)))))
def m_scheme_shift (x0 : M_api_Fault) (x1 : Int) : Option (M_api_Fault) :=
  jn (fun (j1 : (M_api_Fault) → Option _) =>
    bif !(eqb_api_Fault x0 (⟨0, 0, 0, 0⟩ : M_api_Fault)) then (
      j1 (⟨x0.Kind, x0.Step, x0.Stage, wrap64 (x0.At + x1)⟩ : M_api_Fault))
    else (
      j1 x0)) (fun (s3 : M_api_Fault) =>
    some s3)
def m_row_Read (n : Nat) (x0 : (List UInt8)) : Option ((List M_frac_Frac) × M_api_Fault) :=
  bif decide (x0 = ([] : List UInt8)) then (
    some (([] : List M_frac_Frac), (⟨0, 0, 0, 0⟩ : M_api_Fault)))
  else (
    (m_strings_Split x0 ([44] : List UInt8)).bind fun r1 =>
    (rangeL (fun (_ : Nat) (x22 : (List UInt8)) (s20 : (List M_frac_Frac) × Int) =>
      (m_figure_Read n x22).bind fun r24 =>
      bif !(eqb_api_Fault r24.2 (⟨0, 0, 0, 0⟩ : M_api_Fault)) then (
        some (Lp.out ((([] : List M_frac_Frac), (⟨r24.2.Kind, r24.2.Step, r24.2.Stage, wrap64 (r24.2.At + s20.2)⟩ : M_api_Fault)))))
      else (
        (appM 56 s20.1 ([r24.1] : List M_frac_Frac)).bind fun y26 =>
        some (Lp.go (y26, wrap64 (s20.2 + (wrap64 ((x22.length : Int) + (1 : Int)))))))) r1 0 (([] : List M_frac_Frac), (0 : Int))).bind (lpK fun (s28 : (List M_frac_Frac) × Int) =>
    some (s28.1, (⟨0, 0, 0, 0⟩ : M_api_Fault))))
def m_scheme_stage (n : Nat) (x0 : (List UInt8)) (x1 : Int) : Option (M_frac_Frac × (List M_frac_Frac) × M_api_Fault) :=
  (m_strings_Cut x0 ([124] : List UInt8)).bind fun r1 =>
  (m_figure_Read n r1.1).bind fun r3 =>
  bif !(eqb_api_Fault r3.2 (⟨0, 0, 0, 0⟩ : M_api_Fault)) then (
    (m_scheme_shift r3.2 x1).bind fun r5 =>
    some (r3.1, ([] : List M_frac_Frac), r5))
  else (
    (m_row_Read n r1.2.1).bind fun r7 =>
    (m_scheme_shift r7.2 (wrap64 ((wrap64 (x1 + (r1.1.length : Int))) + (1 : Int)))).bind fun r9 =>
    some (r3.1, r7.1, r9))
def m___scheme_reader__stages (n : Nat) (x0 : M_scheme_reader) (x1 : (List UInt8)) (x2_Name : (List UInt8)) (x2_C : (List M_frac_Frac)) (x2_A : (List (List M_frac_Frac))) (x2_B : (List M_frac_Frac)) (x2_E : (List M_frac_Frac)) : Option (M_api_Fault × M_scheme_reader × (List UInt8) × (List M_frac_Frac) × (List M_frac_Frac) × (List M_frac_Frac) × (List (List M_frac_Frac))) :=
  loopM (fun (s29 : M_scheme_reader × (List M_frac_Frac) × (List (List M_frac_Frac))) =>
    (m___scheme_reader__line s29.1).bind fun r30 =>
    bif !r30.2.2.1 then (
      some (Lp.out (((⟨0, 0, 0, 0⟩ : M_api_Fault), r30.2.2.2, x2_Name, x2_B, x2_E, s29.2.1, s29.2.2))))
    else (
      (m_strings_Contains r30.1 ([124] : List UInt8)).bind fun r32 =>
      bif !r32 then (
        (m___scheme_reader__back r30.2.2.2 x1 r30.2.1).bind fun r34 =>
        some (Lp.out (((⟨0, 0, 0, 0⟩ : M_api_Fault), r34, x2_Name, x2_B, x2_E, s29.2.1, s29.2.2))))
      else (
        (m_scheme_stage n r30.1 r30.2.1).bind fun r36 =>
        bif !(eqb_api_Fault r36.2.2 (⟨0, 0, 0, 0⟩ : M_api_Fault)) then (
          some (Lp.out ((r36.2.2, r30.2.2.2, x2_Name, x2_B, x2_E, s29.2.1, s29.2.2))))
        else (
          (appM 56 s29.2.1 ([r36.1] : List M_frac_Frac)).bind fun y38 =>
          (appM 24 s29.2.2 ([r36.2.1] : List (List M_frac_Frac))).bind fun y40 =>
          some (Lp.go (r30.2.2.2, y38, y40)))))) n (x0, x2_C, x2_A)
def m___scheme_reader__weights (n : Nat) (x0 : M_scheme_reader) (x1 : (List UInt8)) : Option ((List M_frac_Frac) × M_api_Fault × M_scheme_reader) :=
  (m___scheme_reader__line x0).bind fun r1 =>
  (catS x1 ([32] : List UInt8)).bind fun y3 =>
  (m_strings_CutPrefix r1.1 y3).bind fun r5 =>
  bif !r5.2 then (
    some (([] : List M_frac_Frac), (⟨(1 : Int), 0, 0, r1.2.1⟩ : M_api_Fault), r1.2.2.2))
  else (
    (m_row_Read n r5.1).bind fun r7 =>
    (m_scheme_shift r7.2 (wrap64 ((wrap64 (r1.2.1 + (x1.length : Int))) + (1 : Int)))).bind fun r9 =>
    some (r7.1, r9, r1.2.2.2))
def m_scheme_read (n : Nat) (x0 : (List UInt8)) : Option (M_scheme_Scheme × M_api_Fault) :=
  (m___scheme_reader__line (⟨x0, 0, false⟩ : M_scheme_reader)).bind fun r1 =>
  (m_lex_Right n (⟨(2 : Int), r1.1, 0⟩ : M_lex_Word)).bind fun r3 =>
  bif !r3 then (
    some ((⟨r1.1, ([] : List M_frac_Frac), ([] : List (List M_frac_Frac)), [], []⟩ : M_scheme_Scheme), (⟨(1 : Int), 0, 0, 0⟩ : M_api_Fault)))
  else (
    (m___scheme_reader__stages n r1.2.2.2 x0 r1.1 ([] : List M_frac_Frac) ([] : List (List M_frac_Frac)) [] []).bind fun r5 =>
    bif !(eqb_api_Fault r5.1 (⟨0, 0, 0, 0⟩ : M_api_Fault)) then (
      some ((⟨r5.2.2.1, r5.2.2.2.2.2.1, r5.2.2.2.2.2.2, r5.2.2.2.1, r5.2.2.2.2.1⟩ : M_scheme_Scheme), r5.1))
    else (
      (m___scheme_reader__weights n r5.2.1 ([98] : List UInt8)).bind fun r7 =>
      jn (fun (j9 : (Bool) → Option _) =>
        bif !(eqb_api_Fault r7.2.1 (⟨0, 0, 0, 0⟩ : M_api_Fault)) then (
          j9 true)
        else (
          j9 r7.2.2.over)) (fun (s11 : Bool) =>
        bif s11 then (
          some ((⟨r5.2.2.1, r5.2.2.2.2.2.1, r5.2.2.2.2.2.2, r7.1, r5.2.2.2.2.1⟩ : M_scheme_Scheme), r7.2.1))
        else (
          (m___scheme_reader__weights n r7.2.2 ([101] : List UInt8)).bind fun r12 =>
          jn (fun (j14 : (Bool) → Option _) =>
            bif !(eqb_api_Fault r12.2.1 (⟨0, 0, 0, 0⟩ : M_api_Fault)) then (
              j14 true)
            else (
              j14 r12.2.2.over)) (fun (s16 : Bool) =>
            bif s16 then (
              some ((⟨r5.2.2.1, r5.2.2.2.2.2.1, r5.2.2.2.2.2.2, r7.1, r12.1⟩ : M_scheme_Scheme), r12.2.1))
            else (
              some ((⟨r5.2.2.1, r5.2.2.2.2.2.1, r5.2.2.2.2.2.2, r7.1, r12.1⟩ : M_scheme_Scheme), (⟨(1 : Int), 0, 0, r12.2.2.at_⟩ : M_api_Fault))))))))
def m_scheme_Parse (n : Nat) (x0 : (List UInt8)) : Option (M_scheme_Scheme × M_api_Fault) :=
  bif decide ((4000 : Int) < (x0.length : Int)) then (
    some ((⟨[], [], [], [], []⟩ : M_scheme_Scheme), (⟨(1 : Int), 0, 0, (4000 : Int)⟩ : M_api_Fault)))
  else (
    (m_scheme_read n x0).bind fun r1 =>
    bif !(eqb_api_Fault r1.2 (⟨0, 0, 0, 0⟩ : M_api_Fault)) then (
      some ((⟨[], [], [], [], []⟩ : M_scheme_Scheme), r1.2))
    else (
      (m_scheme_Wrong n r1.1).bind fun r3 =>
      bif !decide (r3 = (0 : Int)) then (
        some ((⟨[], [], [], [], []⟩ : M_scheme_Scheme), (⟨(2 : Int), 0, 0, r3⟩ : M_api_Fault)))
      else (
        some (r1.1, r1.2))))
def m_stock_Get (n : Nat) (x0 : (List UInt8)) : Option (M_scheme_Scheme × Bool) :=
  (m_stock_texts ).bind fun r1 =>
  (loopM (fun (s17 : Int) =>
    bif decide (s17 < (6 : Int)) then (
      (getI ([r1.a0, r1.a1, r1.a2, r1.a3, r1.a4, r1.a5] : List (List UInt8)) s17).bind fun y18 =>
      (m_stock_name y18).bind fun r20 =>
      bif decide (r20 = x0) then (
        (m_scheme_Parse n y18).bind fun r22 =>
        some (Lp.out (Lp.out ((r22.1, true)))))
      else (
        some (Lp.go (wrap64 (s17 + (1 : Int))))))
    else (
      some (Lp.out (Lp.go ())))) n (0 : Int)).bind (lpK fun (_ : Unit) =>
  some ((⟨[], [], [], [], []⟩ : M_scheme_Scheme), false))
def m_frac_Ratio (n : Nat) (x0 : Int) (x1 : Int) : Option (M_frac_Frac × Bool) :=
  (m_frac_Of n x0).bind fun r1 =>
  (m_frac_Of n x1).bind fun r3 =>
  (m_frac_Quo n r1 r3).bind fun r5 =>
  some (r5.1, r5.2)
def m_retrospectlaw33_grows  : Option (M_tape_Tape) :=
  (some (([(⟨(4 : Int), 0, 0, (⟨(⟨false, []⟩ : M_whole_Whole), []⟩ : M_frac_Frac)⟩ : M_tape_Inst), (⟨(3 : Int), 0, 0, (⟨(⟨false, []⟩ : M_whole_Whole), []⟩ : M_frac_Frac)⟩ : M_tape_Inst), (⟨(9 : Int), 0, (1 : Int), (⟨(⟨false, []⟩ : M_whole_Whole), []⟩ : M_frac_Frac)⟩ : M_tape_Inst)] : List M_tape_Inst))).bind fun z1 =>
  some (⟨z1, ([(2 : Int)] : List Int), (1 : Int), (1 : Int)⟩ : M_tape_Tape)
def m_whole_Text (n : Nat) (x0 : M_whole_Whole) : Option ((List UInt8)) :=
  (m_digits_Text n x0.Abs).bind fun r1 =>
  (m_whole_Sign n x0).bind fun r3 =>
  bif decide (r3 < (0 : Int)) then (
    (catS ([45] : List UInt8) r1).bind fun y5 =>
    some y5)
  else (
    some r1)
def m_figure_Text (n : Nat) (x0 : M_frac_Frac) : Option ((List UInt8)) :=
  (m_frac_Norm n x0).bind fun r1 =>
  (m_whole_Text n r1.Num).bind fun r3 =>
  jn (fun (j15 : ((List UInt8)) → Option _) =>
    (m_nat_Of n 1).bind fun r18 =>
    (m_nat_Cmp n r1.Den r18).bind fun r20 =>
    bif !decide (r20 = (0 : Int)) then (
      (m_digits_Text n r1.Den).bind fun r22 =>
      (catS ([47] : List UInt8) r22).bind fun y24 =>
      (catS r3 y24).bind fun y26 =>
      j15 y26)
    else (
      j15 r3)) (fun (s17 : (List UInt8)) =>
    some s17)
def m_row_Text (n : Nat) (x0 : (List M_frac_Frac)) : Option ((List UInt8)) :=
  (rangeL (fun (_ : Nat) (x20 : M_frac_Frac) (s18 : (List (List UInt8))) =>
    (m_figure_Text n x20).bind fun r22 =>
    (appM 16 s18 ([r22] : List (List UInt8))).bind fun y24 =>
    some (Lp.go y24)) x0 0 ([] : List (List UInt8))).bind (lpK fun (s26 : (List (List UInt8))) =>
  (m_strings_Join s26 ([44] : List UInt8)).bind fun r27 =>
  some r27)
def m_retrospectlaw33_works (n : Nat)  : Option (Bool) :=
  (m_stock_Get n ([104, 101, 117, 110] : List UInt8)).bind fun r1 =>
  (m_frac_Of n (1 : Int)).bind fun r3 =>
  (m_frac_Ratio n (1 : Int) (2 : Int)).bind fun r5 =>
  (m_retrospectlaw33_grows ).bind fun r9 =>
  (m_frac_Of n (0 : Int)).bind fun r11 =>
  (m_step_Do n (⟨r9, r1.1, ([r3] : List M_frac_Frac), (100 : Int)⟩ : M_step_Problem) r11 r5.1 ([r3] : List M_frac_Frac)).bind fun r13 =>
  jn (fun (j23 : (Bool) → Option _) =>
    bif r1.2 then (
      bif (eqb_api_Fault r13.2 (⟨0, 0, 0, 0⟩ : M_api_Fault)) then (
        bif decide ((r13.1.Ks.length : Int) = (2 : Int)) then (
          (getI r13.1.Ks (1 : Int)).bind fun y26 =>
          (m_row_Text n y26).bind fun r28 =>
          bif decide (r28 = ([51, 47, 50] : List UInt8)) then (
            (m_row_Text n r13.1.Next).bind fun r30 =>
            bif decide (r30 = ([49, 51, 47, 56] : List UInt8)) then (
              (m_row_Text n r13.1.Err).bind fun r32 =>
              j23 (decide (r32 = ([49, 47, 56] : List UInt8))))
            else (
              j23 false))
          else (
            j23 false))
        else (
          j23 false))
      else (
        j23 false))
    else (
      j23 false)) (fun (s25 : Bool) =>
    some s25)
def m_retrospectlaw33_To (n : Nat) (x0 : M_retrospectref33_Problem) : Option (M_step_Problem) :=
  (m_retrospectlaw24_To n x0.Tape).bind fun r1 =>
  (m_retrospectlaw30_To n x0.Scheme).bind fun r3 =>
  (m_retrospectlaw11_To n x0.P).bind fun r5 =>
  some (⟨r1, r3, r5, x0.Bits⟩ : M_step_Problem)
def m_row_Same (n : Nat) (x0 : (List M_frac_Frac)) (x1 : (List M_frac_Frac)) : Option (Bool) :=
  bif !decide ((x0.length : Int) = (x1.length : Int)) then (
    some false)
  else (
    (rangeL (fun (i11 : Nat) (x12 : M_frac_Frac) (_ : Unit) =>
      (getI x1 (i11 : Int)).bind fun y14 =>
      (m_frac_Same n x12 y14).bind fun r16 =>
      bif !r16 then (
        some (Lp.out (false)))
      else (
        some (Lp.go ()))) x0 0 ()).bind (lpK fun (_ : Unit) =>
    some true))
def m_step_Slopes (n : Nat) (x0 : M_step_Problem) (x1 : M_frac_Frac) (x2 : (List M_frac_Frac)) : Option ((List M_frac_Frac) × M_api_Fault) :=
  (m_step_Right n x0).bind fun r1 =>
  bif !r1 then (
    some (([] : List M_frac_Frac), (⟨(2 : Int), 0, 0, 0⟩ : M_api_Fault)))
  else (
    (m_step_at x0 x1 x2).bind fun r3 =>
    (m_run_Field n x0.Tape r3 x0.Bits).bind fun r5 =>
    some (r5.1, r5.2))
def m_retrospectlaw33_StepStands (n : Nat) (x0 : M_retrospectref33_Problem) (x1 : M_retrospectlaw33_From) : Option (Bool) :=
  jn (fun (j5 : (Bool) → Option _) =>
    (m_retrospectref33_Long n x0 (10 : Int) (4 : Int) (2 : Int)).bind fun r8 =>
    bif r8 then (
      j5 true)
    else (
      (m_retrospectlaw33_Long n x1).bind fun r10 =>
      j5 r10)) (fun (s7 : Bool) =>
    bif s7 then (
      (m_retrospectlaw33_works n ).bind fun r12 =>
      some r12)
    else (
      (m_retrospectlaw33_To n x0).bind fun r14 =>
      (m_retrospectlaw11_To n x1.Y).bind fun r16 =>
      (m_retrospectlaw09_To x1.T).bind fun r18 =>
      (m_retrospectlaw09_To x1.H).bind fun r20 =>
      (m_step_Do n (⟨r14.Tape, r14.Scheme, r14.P, (1500 : Int)⟩ : M_step_Problem) r18 r20 r16).bind fun r22 =>
      (m_frac_Of n (0 : Int)).bind fun r24 =>
      (m_step_Do n (⟨r14.Tape, r14.Scheme, r14.P, (1500 : Int)⟩ : M_step_Problem) r18 r24 r16).bind fun r26 =>
      jn (fun (j43 : (Unit) → Option _) =>
        bif (eqb_api_Fault r26.2 (⟨0, 0, 0, 0⟩ : M_api_Fault)) then (
          jn (fun (j52 : (Bool) → Option _) =>
            (m_row_Same n r26.1.Next r16).bind fun r55 =>
            bif !r55 then (
              j52 true)
            else (
              (m_row_Norm n r26.1.Err).bind fun r57 =>
              (m_frac_Sign n r57).bind fun r59 =>
              j52 (!decide (r59 = (0 : Int))))) (fun (s54 : Bool) =>
            bif s54 then (
              some false)
            else (
              j43 ())))
        else (
          j43 ())) (fun (_ : Unit) =>
        bif !(eqb_api_Fault r22.2 (⟨0, 0, 0, 0⟩ : M_api_Fault)) then (
          (m_retrospectlaw33_works n ).bind fun r61 =>
          some r61)
        else (
          (m_step_Slopes n (⟨r14.Tape, r14.Scheme, r14.P, (1500 : Int)⟩ : M_step_Problem) r18 r16).bind fun r63 =>
          jn (fun (j75 : (Bool) → Option _) =>
            bif (eqb_api_Fault r63.2 (⟨0, 0, 0, 0⟩ : M_api_Fault)) then (
              bif decide ((r22.1.Ys.length : Int) = (x0.Scheme.B.length : Int)) then (
                bif decide ((r22.1.Ks.length : Int) = (r22.1.Ys.length : Int)) then (
                  bif decide ((0 : Int) < (r22.1.Ys.length : Int)) then (
                    (getI r22.1.Ys (0 : Int)).bind fun y78 =>
                    (m_row_Same n y78 r16).bind fun r80 =>
                    bif r80 then (
                      (getI r22.1.Ks (0 : Int)).bind fun y82 =>
                      (m_row_Same n y82 r63.1).bind fun r84 =>
                      bif r84 then (
                        (m_retrospectlaw33_works n ).bind fun r86 =>
                        j75 r86)
                      else (
                        j75 false))
                    else (
                      j75 false))
                  else (
                    j75 false))
                else (
                  j75 false))
              else (
                j75 false))
            else (
              j75 false)) (fun (s77 : Bool) =>
            some s77)))))
def m_retrospectlaw38_works (n : Nat)  : Option (Bool) :=
  (some (([(⟨(3 : Int), 0, 0, (⟨(⟨false, []⟩ : M_whole_Whole), []⟩ : M_frac_Frac)⟩ : M_tape_Inst)] : List M_tape_Inst))).bind fun z1 =>
  (m_stock_Get n ([101, 117, 108, 101, 114] : List UInt8)).bind fun r2 =>
  (m_frac_Ratio n (1 : Int) (2 : Int)).bind fun r4 =>
  (m_frac_Of n (0 : Int)).bind fun r14 =>
  (m_frac_Of n (1 : Int)).bind fun r16 =>
  (m_march_Fixed n (⟨(⟨z1, ([(0 : Int)] : List Int), (1 : Int), 0⟩ : M_tape_Tape), r2.1, [], (100 : Int)⟩ : M_step_Problem) r14 ([r16] : List M_frac_Frac) ([r4.1, r4.1] : List M_frac_Frac)).bind fun r18 =>
  jn (fun (j30 : (Bool) → Option _) =>
    bif r2.2 then (
      bif (eqb_api_Fault r18.2 (⟨0, 0, 0, 0⟩ : M_api_Fault)) then (
        bif decide ((r18.1.Tries.length : Int) = (2 : Int)) then (
          (m_frac_Of n (1 : Int)).bind fun r36 =>
          (m_frac_Same n r18.1.T r36).bind fun r38 =>
          bif r38 then (
            (m_row_Text n r18.1.Y).bind fun r41 =>
            j30 (decide (r41 = ([57, 47, 52] : List UInt8))))
          else (
            j30 false))
        else (
          j30 false))
      else (
        j30 false))
    else (
      j30 false)) (fun (s32 : Bool) =>
    some s32)
def m_retrospectlaw38_MarchOn (n : Nat) (x0 : M_retrospectref33_Problem) (x1 : M_retrospectlaw33_From) (x2 : (List M_retrospectref09_Frac)) (x3 : Int) : Option (Bool) :=
  jn (fun (j7 : (Bool) → Option _) =>
    (m_retrospectref33_Long n x0 (10 : Int) (4 : Int) (2 : Int)).bind fun r10 =>
    bif r10 then (
      j7 true)
    else (
      (m_retrospectlaw33_Long n x1).bind fun r12 =>
      bif r12 then (
        j7 true)
      else (
        (m_retrospectref11_Long n x2 (3 : Int) (2 : Int)).bind fun r14 =>
        bif r14 then (
          j7 true)
        else (
          bif decide (x3 < (0 : Int)) then (
            j7 true)
          else (
            j7 (decide ((x2.length : Int) < x3))))))) (fun (s9 : Bool) =>
    bif s9 then (
      (m_retrospectlaw38_works n ).bind fun r16 =>
      some r16)
    else (
      (m_retrospectlaw33_To n x0).bind fun r18 =>
      (m_retrospectlaw11_To n x2).bind fun r20 =>
      (m_retrospectlaw09_To x1.T).bind fun r22 =>
      (m_retrospectlaw11_To n x1.Y).bind fun r24 =>
      (m_march_Fixed n (⟨r18.Tape, r18.Scheme, r18.P, (1500 : Int)⟩ : M_step_Problem) r22 r24 r20).bind fun r26 =>
      (m_retrospectlaw09_To x1.T).bind fun r28 =>
      (m_retrospectlaw11_To n x1.Y).bind fun r30 =>
      (sub r20 (0 : Int) x3).bind fun y32 =>
      (m_march_Fixed n (⟨r18.Tape, r18.Scheme, r18.P, (1500 : Int)⟩ : M_step_Problem) r28 r30 y32).bind fun r34 =>
      bif decide (r26.2.Kind = (2 : Int)) then (
        (m_retrospectlaw38_works n ).bind fun r36 =>
        some r36)
      else (
        bif !(eqb_api_Fault r34.2 (⟨0, 0, 0, 0⟩ : M_api_Fault)) then (
          jn (fun (j40 : (Bool) → Option _) =>
            bif (eqb_api_Fault r26.2 r34.2) then (
              (m_retrospectlaw38_works n ).bind fun r43 =>
              j40 r43)
            else (
              j40 false)) (fun (s42 : Bool) =>
            some s42))
        else (
          (sub r20 x3 (r20.length : Int)).bind fun y45 =>
          (m_march_Fixed n (⟨r18.Tape, r18.Scheme, r18.P, (1500 : Int)⟩ : M_step_Problem) r34.1.T r34.1.Y y45).bind fun r47 =>
          bif !(eqb_api_Fault r47.2 (⟨0, 0, 0, 0⟩ : M_api_Fault)) then (
            jn (fun (j52 : (Bool) → Option _) =>
              (some ((eqb_api_Fault r26.2 (⟨r47.2.Kind, wrap64 (r47.2.Step + x3), r47.2.Stage, r47.2.At⟩ : M_api_Fault)))).bind fun z55 =>
              bif z55 then (
                (m_retrospectlaw38_works n ).bind fun r56 =>
                j52 r56)
              else (
                j52 false)) (fun (s54 : Bool) =>
              some s54))
          else (
            jn (fun (j65 : (Bool) → Option _) =>
              bif (eqb_api_Fault r26.2 (⟨0, 0, 0, 0⟩ : M_api_Fault)) then (
                (m_frac_Same n r47.1.T r26.1.T).bind fun r68 =>
                bif r68 then (
                  (m_row_Same n r47.1.Y r26.1.Y).bind fun r70 =>
                  bif r70 then (
                    (some (decide ((wrap64 ((r34.1.Tries.length : Int) + (r47.1.Tries.length : Int))) = (r26.1.Tries.length : Int)))).bind fun z72 =>
                    bif z72 then (
                      (m_retrospectlaw38_works n ).bind fun r73 =>
                      j65 r73)
                    else (
                      j65 false))
                  else (
                    j65 false))
                else (
                  j65 false))
              else (
                j65 false)) (fun (s67 : Bool) =>
              some s67))))))
def m_retrospectref02_At (x0 : (List Nat)) (x1 : Int) : Option (Nat) :=
  bif decide (x1 < (x0.length : Int)) then (
    (getI x0 x1).bind fun y1 =>
    some y1)
  else (
    some 0)
def m_retrospectref02_Norm (n : Nat) (x0 : (List Nat)) : Option ((List Nat)) :=
  (loopM (fun (s19 : Int) =>
    jn (fun (j22 : (Bool) → Option _) =>
      bif decide ((0 : Int) < s19) then (
        (getI x0 (wrap64 (s19 - (1 : Int)))).bind fun y25 =>
        j22 (decide (y25 = 0)))
      else (
        j22 false)) (fun (s24 : Bool) =>
      bif s24 then (
        some (Lp.go (wrap64 (s19 - (1 : Int)))))
      else (
        some (Lp.out s19)))) n (x0.length : Int)).bind fun (t17 : Int) =>
  (sub x0 (0 : Int) t17).bind fun y27 =>
  (appM 4 ([] : List Nat) y27).bind fun y29 =>
  some y29
def m_retrospectref02_Add (n : Nat) (x0 : (List Nat)) (x1 : (List Nat)) : Option ((List Nat)) :=
  (mkM 4 (0 : Nat) (wrap64 ((max (x0.length : Int) (x1.length : Int)) + (1 : Int)))).bind fun y1 =>
  (loopM (fun (s24 : (List Nat) × Nat × Int) =>
    (some (decide (s24.2.2 < (wrap64 ((max (x0.length : Int) (x1.length : Int)) + (1 : Int)))))).bind fun z25 =>
    bif z25 then (
      (m_retrospectref02_At x0 s24.2.2).bind fun r26 =>
      (m_retrospectref02_At x1 s24.2.2).bind fun r28 =>
      (some (((s24.2.1 + ((r26 + r28) % 18446744073709551616)) % 18446744073709551616))).bind fun z30 =>
      (getI s24.1 s24.2.2).bind fun _ =>
      some (Lp.go ((List.set s24.1 (Int.toNat s24.2.2) ((z30 % 4294967296) % 4294967296)), (z30 / 4294967296), wrap64 (s24.2.2 + (1 : Int)))))
    else (
      some (Lp.out s24.1))) n (y1, 0, (0 : Int))).bind fun (t22 : (List Nat)) =>
  (m_retrospectref02_Norm n t22).bind fun r33 =>
  some r33
def m_retrospectref02_Same (n : Nat) (x0 : (List Nat)) (x1 : (List Nat)) : Option (Bool) :=
  bif !decide ((x0.length : Int) = (x1.length : Int)) then (
    some false)
  else (
    (loopM (fun (s13 : Int) =>
      bif decide (s13 < (x0.length : Int)) then (
        (getI x0 s13).bind fun y14 =>
        (getI x1 s13).bind fun y16 =>
        bif !decide (y14 = y16) then (
          some (Lp.out (Lp.out (false))))
        else (
          some (Lp.go (wrap64 (s13 + (1 : Int))))))
      else (
        some (Lp.out (Lp.go ())))) n (0 : Int)).bind (lpK fun (_ : Unit) =>
    some true))
def m_retrospectref04_Mul (n : Nat) (x0 : (List Nat)) (x1 : (List Nat)) : Option ((List Nat)) :=
  (mkM 4 (0 : Nat) (wrap64 ((x0.length : Int) + (x1.length : Int)))).bind fun y1 =>
  (loopM (fun (s77 : (List Nat) × Int) =>
    bif decide (s77.2 < (x0.length : Int)) then (
      (loopM (fun (s92 : (List Nat) × Nat × Int) =>
        bif decide (s92.2.2 < (x1.length : Int)) then (
          (getI x0 s77.2).bind fun y93 =>
          (getI x1 s92.2.2).bind fun y95 =>
          (getI s92.1 (wrap64 (s77.2 + s92.2.2))).bind fun y97 =>
          (some (((s92.2.1 + ((((y93 * y95) % 18446744073709551616) + y97) % 18446744073709551616)) % 18446744073709551616))).bind fun z99 =>
          (some (((s92.2.1 + ((((y93 * y95) % 18446744073709551616) + y97) % 18446744073709551616)) % 18446744073709551616))).bind fun _ =>
          (getI s92.1 (wrap64 (s77.2 + s92.2.2))).bind fun _ =>
          (some ((List.set s92.1 (Int.toNat (wrap64 (s77.2 + s92.2.2))) ((z99 % 4294967296) % 4294967296)))).bind fun z103 =>
          some (Lp.go (z103, (z99 / 4294967296), wrap64 (s92.2.2 + (1 : Int)))))
        else (
          some (Lp.out (s92.1, s92.2.1)))) n (s77.1, 0, (0 : Int))).bind fun (t90 : (List Nat) × Nat) =>
      (getI t90.1 (wrap64 (s77.2 + (x1.length : Int)))).bind fun _ =>
      (some ((List.set t90.1 (Int.toNat (wrap64 (s77.2 + (x1.length : Int)))) (t90.2 % 4294967296)))).bind fun z106 =>
      some (Lp.go (z106, wrap64 (s77.2 + (1 : Int)))))
    else (
      some (Lp.out s77.1))) n (y1, (0 : Int))).bind fun (t75 : (List Nat)) =>
  (m_retrospectref02_Norm n t75).bind fun r107 =>
  some r107
def m_retrospectref07_Read (n : Nat) (x0 : (List UInt8)) : Option ((List Nat)) :=
  (loopM (fun (s28 : (List Nat) × Int) =>
    bif decide (s28.2 < (x0.length : Int)) then (
      (m_retrospectref04_Mul n s28.1 ([10] : List Nat)).bind fun r29 =>
      (getS x0 s28.2).bind fun y31 =>
      (m_retrospectref02_Add n r29 ([((y31 + 4294967296 - 48) % 4294967296)] : List Nat)).bind fun r33 =>
      some (Lp.go (r33, wrap64 (s28.2 + (1 : Int)))))
    else (
      some (Lp.out s28.1))) n (([] : List Nat), (0 : Int))).bind fun (t26 : (List Nat)) =>
  some t26
def m_retrospectref07_ten (n : Nat) (x0 : (List Nat)) : Option (Nat × (List Nat)) :=
  (loopM (fun (s16 : (List Nat) × Nat × Int) =>
    bif decide ((0 : Int) ≤ s16.2.2) then (
      (getI s16.1 s16.2.2).bind fun y17 =>
      (some (((((s16.2.1 * 4294967296) % 18446744073709551616) + y17) % 18446744073709551616))).bind fun z19 =>
      (getI s16.1 s16.2.2).bind fun _ =>
      some (Lp.go ((List.set s16.1 (Int.toNat s16.2.2) ((z19 / 10) % 4294967296)), (z19 % 10), wrap64 (s16.2.2 - (1 : Int)))))
    else (
      some (Lp.out (s16.1, s16.2.1)))) n (x0, 0, wrap64 ((x0.length : Int) - (1 : Int)))).bind fun (t14 : (List Nat) × Nat) =>
  some (t14.2, t14.1)
def m_retrospectref07_Text (n : Nat) (x0 : (List Nat)) : Option ((List UInt8)) :=
  (m_retrospectref02_Norm n x0).bind fun r1 =>
  (loopM (fun (s29 : (List Nat) × (List UInt8)) =>
    jn (fun (j30 : (Bool) → Option _) =>
      bif decide ((0 : Int) < (s29.1.length : Int)) then (
        j30 true)
      else (
        j30 (decide (s29.2 = ([] : List UInt8))))) (fun (s32 : Bool) =>
      bif s32 then (
        (m_retrospectref07_ten n s29.1).bind fun r33 =>
        (sub ([48, 49, 50, 51, 52, 53, 54, 55, 56, 57] : List UInt8) (r33.1 : Int) (((r33.1 + 1) % 18446744073709551616) : Int)).bind fun y35 =>
        (catS y35 s29.2).bind fun y37 =>
        (m_retrospectref02_Norm n r33.2).bind fun r39 =>
        some (Lp.go (r39, y37)))
      else (
        some (Lp.out s29.2)))) n (r1, ([] : List UInt8))).bind fun (t27 : (List UInt8)) =>
  some t27
def m_retrospectref07_Trim (n : Nat) (x0 : (List UInt8)) : Option ((List UInt8)) :=
  (loopM (fun (s23 : (List UInt8)) =>
    jn (fun (j26 : (Bool) → Option _) =>
      bif decide ((1 : Int) < (s23.length : Int)) then (
        (getS s23 (0 : Int)).bind fun y29 =>
        j26 (decide (y29 = 48)))
      else (
        j26 false)) (fun (s28 : Bool) =>
      bif s28 then (
        (sub s23 (1 : Int) (s23.length : Int)).bind fun y31 =>
        some (Lp.go y31))
      else (
        some (Lp.out s23)))) n x0).bind fun (t21 : (List UInt8)) =>
  some t21
def m_retrospectref07_Wrong (n : Nat) (x0 : (List UInt8)) : Option (Int) :=
  bif decide (x0 = ([] : List UInt8)) then (
    some (0 : Int))
  else (
    (loopM (fun (s27 : Int) =>
      bif decide (s27 < (x0.length : Int)) then (
        jn (fun (j32 : (Bool) → Option _) =>
          (getS x0 s27).bind fun y35 =>
          bif decide (y35 < 48) then (
            j32 true)
          else (
            (getS x0 s27).bind fun y37 =>
            bif decide (57 < y37) then (
              j32 true)
            else (
              j32 (decide ((60 : Int) ≤ s27))))) (fun (s34 : Bool) =>
          bif s34 then (
            some (Lp.out (Lp.out (s27))))
          else (
            some (Lp.go (wrap64 (s27 + (1 : Int)))))))
      else (
        some (Lp.out (Lp.go ())))) n (0 : Int)).bind (lpK fun (_ : Unit) =>
    some (-1 : Int)))
def m_retrospectref16_digit (x0 : Nat) : Option (Bool) :=
  jn (fun (j1 : (Bool) → Option _) =>
    bif decide (48 ≤ x0) then (
      j1 (decide (x0 ≤ 57)))
    else (
      j1 false)) (fun (s3 : Bool) =>
    some s3)
def m_retrospectref16_letter (x0 : Nat) : Option (Bool) :=
  jn (fun (j1 : (Bool) → Option _) =>
    bif decide (97 ≤ x0) then (
      bif decide (x0 ≤ 122) then (
        j1 true)
      else (
        bif decide (65 ≤ x0) then (
          bif decide (x0 ≤ 90) then (
            j1 true)
          else (
            j1 (decide (x0 = 95))))
        else (
          j1 (decide (x0 = 95)))))
    else (
      bif decide (65 ≤ x0) then (
        bif decide (x0 ≤ 90) then (
          j1 true)
        else (
          j1 (decide (x0 = 95))))
      else (
        j1 (decide (x0 = 95))))) (fun (s3 : Bool) =>
    some s3)
def m_retrospectref16_Kind (n : Nat) (x0 : Nat) : Option (Int) :=
  (m_retrospectref16_digit x0).bind fun r1 =>
  bif r1 then (
    some (1 : Int))
  else (
    (m_retrospectref16_letter x0).bind fun r3 =>
    bif r3 then (
      some (2 : Int))
    else (
      (loopM (fun (s15 : Int) =>
        (some ((([43, 45, 42, 47, 94, 40, 41, 91, 93, 44, 59, 61] : List UInt8).length : Int))).bind fun z16 =>
        bif decide (s15 < z16) then (
          (getS ([43, 45, 42, 47, 94, 40, 41, 91, 93, 44, 59, 61] : List UInt8) s15).bind fun y17 =>
          bif decide (y17 = x0) then (
            some (Lp.out (Lp.out ((3 : Int)))))
          else (
            some (Lp.go (wrap64 (s15 + (1 : Int))))))
        else (
          some (Lp.out (Lp.go ())))) n (0 : Int)).bind (lpK fun (_ : Unit) =>
      some (0 : Int))))
def m_retrospectref16_Most (x0 : Int) : Option (Int) :=
  bif decide (x0 = (1 : Int)) then (
    some (60 : Int))
  else (
    bif decide (x0 = (2 : Int)) then (
      some (12 : Int))
    else (
      some (1 : Int)))
def m_retrospectref16_more (x0 : Int) (x1 : Nat) : Option (Bool) :=
  jn (fun (j11 : (Bool) → Option _) =>
    bif decide (x0 = (1 : Int)) then (
      (m_retrospectref16_digit x1).bind fun r14 =>
      bif r14 then (
        j11 true)
      else (
        bif decide (x0 = (2 : Int)) then (
          (m_retrospectref16_digit x1).bind fun r16 =>
          bif r16 then (
            j11 true)
          else (
            (m_retrospectref16_letter x1).bind fun r18 =>
            j11 r18))
        else (
          j11 false)))
    else (
      bif decide (x0 = (2 : Int)) then (
        (m_retrospectref16_digit x1).bind fun r20 =>
        bif r20 then (
          j11 true)
        else (
          (m_retrospectref16_letter x1).bind fun r22 =>
          j11 r22))
      else (
        j11 false))) (fun (s13 : Bool) =>
    some s13)
def m_retrospectref17_Arity (x0 : Int) : Option (Int) :=
  jn (fun (j1 : (Bool) → Option _) =>
    bif decide ((1 : Int) ≤ x0) then (
      j1 (decide (x0 ≤ (5 : Int))))
    else (
      j1 false)) (fun (s3 : Bool) =>
    bif s3 then (
      some (0 : Int))
    else (
      jn (fun (j4 : (Bool) → Option _) =>
        bif decide (x0 = (6 : Int)) then (
          j4 true)
        else (
          j4 (decide (x0 = (11 : Int))))) (fun (s6 : Bool) =>
        bif s6 then (
          some (1 : Int))
        else (
          jn (fun (j7 : (Bool) → Option _) =>
            bif decide ((7 : Int) ≤ x0) then (
              j7 (decide (x0 ≤ (10 : Int))))
            else (
              j7 false)) (fun (s9 : Bool) =>
            bif s9 then (
              some (2 : Int))
            else (
              some (-1 : Int)))))))
def m_retrospectref17_Codes (n : Nat) (x0 : M_retrospectref17_Field) : Option ((List (List M_retrospectref17_Node))) :=
  (loopM (fun (s13 : (List (List M_retrospectref17_Node)) × Int) =>
    bif decide (s13.2 < (x0.Lets.length : Int)) then (
      (getI x0.Lets s13.2).bind fun y14 =>
      (appM 24 s13.1 ([y14.Code] : List (List M_retrospectref17_Node))).bind fun y16 =>
      some (Lp.go (y16, wrap64 (s13.2 + (1 : Int)))))
    else (
      some (Lp.out s13.1))) n (([] : List (List M_retrospectref17_Node)), (0 : Int))).bind fun (t11 : (List (List M_retrospectref17_Node))) =>
  (appM 24 t11 x0.Outs).bind fun y18 =>
  some y18
def m_retrospectref17_Deep : Nat → (List M_retrospectref17_Node) → Int → Option (Int × Int)
  | 0, _, _ => none
  | n + 1, x0, x1 =>
    (getI x0 x1).bind fun y1 =>
    (m_retrospectref17_Arity y1.Op).bind fun r3 =>
    (loopM (fun (s13 : Int × Int × Int) =>
      bif decide ((0 : Int) < s13.2.2) then (
        (m_retrospectref17_Deep n x0 (wrap64 (s13.2.1 - (1 : Int)))).bind fun r14 =>
        some (Lp.go (max s13.1 r14.1, r14.2, wrap64 (s13.2.2 - (1 : Int)))))
      else (
        some (Lp.out (s13.1, s13.2.1)))) n ((0 : Int), x1, r3)).bind fun (t11 : Int × Int) =>
    some (wrap64 (t11.1 + (1 : Int)), t11.2)
def m_retrospectref17_Wrong (n : Nat) (x0 : (List M_retrospectref17_Node)) : Option (Int) :=
  (loopM (fun (s19 : Int × Int) =>
    bif decide (s19.2 < (x0.length : Int)) then (
      (getI x0 s19.2).bind fun y20 =>
      (m_retrospectref17_Arity y20.Op).bind fun r22 =>
      jn (fun (j24 : (Bool) → Option _) =>
        bif decide (r22 < (0 : Int)) then (
          j24 true)
        else (
          j24 (decide (s19.1 < r22)))) (fun (s26 : Bool) =>
        bif s26 then (
          some (Lp.out (Lp.out (s19.2))))
        else (
          some (Lp.go (wrap64 ((wrap64 (s19.1 - r22)) + (1 : Int)), wrap64 (s19.2 + (1 : Int)))))))
    else (
      some (Lp.out (Lp.go s19.1)))) n ((0 : Int), (0 : Int))).bind (lpK fun (t17 : Int) =>
  bif decide (t17 = (1 : Int)) then (
    some (-1 : Int))
  else (
    some (x0.length : Int)))
def m_retrospectref17_Depth (n : Nat) (x0 : (List M_retrospectref17_Node)) : Option (Int) :=
  (m_retrospectref17_Wrong n x0).bind fun r1 =>
  bif decide ((0 : Int) ≤ r1) then (
    some (0 : Int))
  else (
    (m_retrospectref17_Deep n x0 (wrap64 ((x0.length : Int) - (1 : Int)))).bind fun r3 =>
    some r3.1)
def m_retrospectref17_Long (n : Nat) (x0 : (List M_retrospectref17_Node)) (x1 : Int) (x2 : Int) : Option (Bool) :=
  (loopM (fun (s15 : Int) =>
    jn (fun (j16 : (Bool) → Option _) =>
      bif decide (s15 < (x0.length : Int)) then (
        j16 (decide (s15 < x1)))
      else (
        j16 false)) (fun (s18 : Bool) =>
      bif s18 then (
        (getI x0 s15).bind fun y19 =>
        bif decide (x2 < (y19.N.length : Int)) then (
          some (Lp.out (Lp.out (true))))
        else (
          some (Lp.go (wrap64 (s15 + (1 : Int))))))
      else (
        some (Lp.out (Lp.go ()))))) n (0 : Int)).bind (lpK fun (_ : Unit) =>
  some (decide (x1 < (x0.length : Int))))
def m_retrospectref17_LongField (n : Nat) (x0 : M_retrospectref17_Field) (x1 : Int) (x2 : Int) (x3 : Int) : Option (Bool) :=
  jn (fun (j1 : (Bool) → Option _) =>
    bif decide (x1 < (x0.Lets.length : Int)) then (
      j1 true)
    else (
      j1 (decide (x1 < (x0.Outs.length : Int))))) (fun (s3 : Bool) =>
    bif s3 then (
      some true)
    else (
      (loopM (fun (s38 : Int) =>
        bif decide (s38 < (x0.Lets.length : Int)) then (
          jn (fun (j45 : (Bool) → Option _) =>
            (getI x0.Lets s38).bind fun y48 =>
            bif decide ((100 : Int) < (y48.Name.length : Int)) then (
              j45 true)
            else (
              (getI x0.Lets s38).bind fun y50 =>
              (m_retrospectref17_Long n y50.Code x2 x3).bind fun r52 =>
              j45 r52)) (fun (s47 : Bool) =>
            bif s47 then (
              some (Lp.out (Lp.out (true))))
            else (
              some (Lp.go (wrap64 (s38 + (1 : Int)))))))
        else (
          some (Lp.out (Lp.go ())))) n (0 : Int)).bind (lpK fun (_ : Unit) =>
      (loopM (fun (s66 : Int) =>
        bif decide (s66 < (x0.Outs.length : Int)) then (
          (getI x0.Outs s66).bind fun y67 =>
          (m_retrospectref17_Long n y67 x2 x3).bind fun r69 =>
          bif r69 then (
            some (Lp.out (Lp.out (true))))
          else (
            some (Lp.go (wrap64 (s66 + (1 : Int))))))
        else (
          some (Lp.out (Lp.go ())))) n (0 : Int)).bind (lpK fun (_ : Unit) =>
      some false))))
def m_retrospectref17_Size (n : Nat) (x0 : M_retrospectref17_Field) : Option (Int) :=
  (m_retrospectref17_Codes n x0).bind fun r1 =>
  (loopM (fun (s11 : Int × Int) =>
    bif decide (s11.2 < (r1.length : Int)) then (
      (getI r1 s11.2).bind fun y12 =>
      some (Lp.go (wrap64 (s11.1 + (y12.length : Int)), wrap64 (s11.2 + (1 : Int)))))
    else (
      some (Lp.out s11.1))) n ((0 : Int), (0 : Int))).bind fun (t9 : Int) =>
  some t9
def m_row_Mix (n : Nat) (x0 : (List M_frac_Frac)) (x1 : (List (List M_frac_Frac))) (x2 : Int) : Option ((List M_frac_Frac) × Bool) :=
  jn (fun (j1 : (Bool) → Option _) =>
    bif !decide ((x0.length : Int) = (x1.length : Int)) then (
      j1 true)
    else (
      bif decide (x2 < (0 : Int)) then (
        j1 true)
      else (
        j1 (decide ((300 : Int) < x2))))) (fun (s3 : Bool) =>
    bif s3 then (
      some (([] : List M_frac_Frac), false))
    else (
      (rangeL (fun (_ : Nat) (x11 : (List M_frac_Frac)) (_ : Unit) =>
        bif !decide ((x11.length : Int) = x2) then (
          some (Lp.out ((([] : List M_frac_Frac), false))))
        else (
          some (Lp.go ()))) x1 0 ()).bind (lpK fun (_ : Unit) =>
      (m_row_Zero n x2).bind fun r14 =>
      (rangeL (fun (i108 : Nat) (x109 : (List M_frac_Frac)) (s107 : (List M_frac_Frac)) =>
        (getI x0 (i108 : Int)).bind fun y111 =>
        (m_frac_Sign n y111).bind fun r113 =>
        bif decide (r113 = (0 : Int)) then (
          some (Lp.go s107))
        else (
          (rangeL (fun (i131 : Nat) (x132 : M_frac_Frac) (s130 : (List M_frac_Frac)) =>
            (getI s130 (i131 : Int)).bind fun y134 =>
            (getI x0 (i108 : Int)).bind fun y136 =>
            (m_frac_Mul n y136 x132).bind fun r138 =>
            (m_frac_Add n y134 r138).bind fun r140 =>
            (getI s130 (i131 : Int)).bind fun _ =>
            some (Lp.go (List.set s130 (Int.toNat (i131 : Int)) r140))) x109 0 s107).bind (lpK fun (s144 : (List M_frac_Frac)) =>
          some (Lp.go s144)))) x1 0 r14).bind (lpK fun (s145 : (List M_frac_Frac)) =>
      some (s145, true)))))
def m_tape_Live (n : Nat) (x0 : M_tape_Tape) : Option ((List Bool)) :=
  (m_tape_Right n x0).bind fun r1 =>
  bif !r1 then (
    some ([] : List Bool))
  else (
    (mkM 1 (false : Bool) (x0.Code.length : Int)).bind fun y3 =>
    (rangeL (fun (_ : Nat) (x20 : Int) (s18 : (List Bool)) =>
      (getI s18 x20).bind fun _ =>
      some (Lp.go (List.set s18 (Int.toNat x20) true))) x0.Outs 0 y3).bind (lpK fun (s24 : (List Bool)) =>
    (loopM (fun (s121 : (List Bool) × Int) =>
      bif decide ((0 : Int) ≤ s121.2) then (
        jn (fun (j142 : ((List Bool)) → Option _) =>
          (getI s121.1 s121.2).bind fun y145 =>
          bif !y145 then (
            j142 s121.1)
          else (
            (getI x0.Code s121.2).bind fun y147 =>
            (m_tape_Reads y147).bind fun r149 =>
            (rangeL (fun (_ : Nat) (x160 : Int) (s158 : (List Bool)) =>
              (getI s158 x160).bind fun _ =>
              some (Lp.go (List.set s158 (Int.toNat x160) true))) r149 0 s121.1).bind (lpK fun (s164 : (List Bool)) =>
            j142 s164))) (fun (s144 : (List Bool)) =>
          some (Lp.go (s144, wrap64 (s121.2 - (1 : Int))))))
      else (
        some (Lp.out s121.1))) n (s24, wrap64 ((x0.Code.length : Int) - (1 : Int)))).bind fun (t119 : (List Bool)) =>
    some t119))
def m_tree_Arity (x0 : Int) : Option (Int) :=
  jn (fun (j1 : (Bool) → Option _) =>
    bif decide (x0 = (1 : Int)) then (
      j1 (decide (x0 = (1 : Int))))
    else (
      bif decide (x0 = (2 : Int)) then (
        j1 (decide (x0 = (2 : Int))))
      else (
        bif decide (x0 = (3 : Int)) then (
          j1 (decide (x0 = (3 : Int))))
        else (
          bif decide (x0 = (4 : Int)) then (
            j1 (decide (x0 = (4 : Int))))
          else (
            j1 (decide (x0 = (5 : Int)))))))) (fun (s3 : Bool) =>
    bif s3 then (
      some (0 : Int))
    else (
      jn (fun (j4 : (Bool) → Option _) =>
        bif decide (x0 = (6 : Int)) then (
          j4 (decide (x0 = (6 : Int))))
        else (
          j4 (decide (x0 = (11 : Int))))) (fun (s6 : Bool) =>
        bif s6 then (
          some (1 : Int))
        else (
          jn (fun (j7 : (Bool) → Option _) =>
            bif decide (x0 = (7 : Int)) then (
              j7 (decide (x0 = (7 : Int))))
            else (
              bif decide (x0 = (8 : Int)) then (
                j7 (decide (x0 = (8 : Int))))
              else (
                bif decide (x0 = (9 : Int)) then (
                  j7 (decide (x0 = (9 : Int))))
                else (
                  j7 (decide (x0 = (10 : Int))))))) (fun (s9 : Bool) =>
            bif s9 then (
              some (2 : Int))
            else (
              some (-1 : Int)))))))
def m_tree_copied (x0 : (List M_tree_Node)) : Option ((List M_tree_Node)) :=
  (rangeL (fun (_ : Nat) (x20 : M_tree_Node) (s18 : (List M_tree_Node)) =>
    (appM 4 ([] : List Nat) x20.N).bind fun y22 =>
    (appM 40 s18 ([(⟨x20.Op, x20.I, y22⟩ : M_tree_Node)] : List M_tree_Node)).bind fun y24 =>
    some (Lp.go y24)) x0 0 ([] : List M_tree_Node)).bind (lpK fun (s26 : (List M_tree_Node)) =>
  some s26)
def m_tree_Codes (x0 : M_tree_Field) : Option ((List (List M_tree_Node))) :=
  (rangeL (fun (_ : Nat) (x20 : M_tree_Let) (s18 : (List (List M_tree_Node))) =>
    (m_tree_copied x20.Code).bind fun r22 =>
    (appM 24 s18 ([r22] : List (List M_tree_Node))).bind fun y24 =>
    some (Lp.go y24)) x0.Lets 0 ([] : List (List M_tree_Node))).bind (lpK fun (s26 : (List (List M_tree_Node))) =>
  (rangeL (fun (_ : Nat) (x46 : (List M_tree_Node)) (s44 : (List (List M_tree_Node))) =>
    (m_tree_copied x46).bind fun r48 =>
    (appM 24 s44 ([r48] : List (List M_tree_Node))).bind fun y50 =>
    some (Lp.go y50)) x0.Outs 0 s26).bind (lpK fun (s52 : (List (List M_tree_Node))) =>
  some s52))
def m_tree_Wrong (x0 : (List M_tree_Node)) : Option (Int) :=
  (rangeL (fun (i21 : Nat) (x22 : M_tree_Node) (s20 : Int) =>
    (m_tree_Arity x22.Op).bind fun r24 =>
    jn (fun (j26 : (Bool) → Option _) =>
      bif decide (r24 < (0 : Int)) then (
        j26 true)
      else (
        j26 (decide (s20 < r24)))) (fun (s28 : Bool) =>
      bif s28 then (
        some (Lp.out ((i21 : Int))))
      else (
        some (Lp.go (wrap64 (s20 + (wrap64 ((1 : Int) - r24)))))))) x0 0 (0 : Int)).bind (lpK fun (s29 : Int) =>
  bif !decide (s29 = (1 : Int)) then (
    some (x0.length : Int))
  else (
    some (-1 : Int)))
def m_tree_Right (x0 : (List M_tree_Node)) : Option (Bool) :=
  (m_tree_Wrong x0).bind fun r1 =>
  some (decide (r1 < (0 : Int)))
def m_tree_Depth (n : Nat) (x0 : (List M_tree_Node)) : Option (Int) :=
  (m_tree_Right x0).bind fun r1 =>
  bif !r1 then (
    some (0 : Int))
  else (
    (rangeL (fun (_ : Nat) (x51 : M_tree_Node) (s49 : (List Int)) =>
      (m_tree_Arity x51.Op).bind fun r53 =>
      (loopM (fun (s62 : (List Int) × Int × Int) =>
        bif decide (s62.2.2 < r53) then (
          (getI s62.1 (wrap64 ((s62.1.length : Int) - (1 : Int)))).bind fun y63 =>
          (sub s62.1 (0 : Int) (wrap64 ((s62.1.length : Int) - (1 : Int)))).bind fun y65 =>
          some (Lp.go (y65, max s62.2.1 y63, wrap64 (s62.2.2 + (1 : Int)))))
        else (
          some (Lp.out (s62.1, s62.2.1)))) n (s49, (0 : Int), (0 : Int))).bind fun (t60 : (List Int) × Int) =>
      (appM 8 t60.1 ([wrap64 (t60.2 + (1 : Int))] : List Int)).bind fun y67 =>
      some (Lp.go y67)) x0 0 ([] : List Int)).bind (lpK fun (s69 : (List Int)) =>
    (getI s69 (0 : Int)).bind fun y70 =>
    some y70))
def m_tree_Size (x0 : M_tree_Field) : Option (Int) :=
  (m_tree_Codes x0).bind fun r1 =>
  (rangeL (fun (_ : Nat) (x14 : (List M_tree_Node)) (s12 : Int) =>
    some (Lp.go (wrap64 (s12 + (x14.length : Int))))) r1 0 (0 : Int)).bind (lpK fun (s16 : Int) =>
  some s16)
end Go.Proofs.YtcmhibdigkdjiaaGreatDoor
