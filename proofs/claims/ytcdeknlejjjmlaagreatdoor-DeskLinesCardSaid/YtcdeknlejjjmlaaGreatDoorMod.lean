import Derived.Test.YtcdeknlejjjmlaaGreatDoorLibM
set_option maxRecDepth 100000
set_option maxHeartbeats 4000000
namespace Go.Proofs.YtcdeknlejjjmlaaGreatDoor
open Go Go.RowKit
structure M_retrospectlaw50_Op where
  Kind : Int
  X : Int
  S : (List UInt8)
structure M_api_Fault where
  Kind : Int
  Step : Int
  Stage : Int
  At : Int
structure M_tree_Node where
  Op : Int
  I : Int
  N : (List Nat)
structure M_tree_Let where
  Name : (List UInt8)
  Code : (List M_tree_Node)
structure M_tree_Field where
  Lets : (List M_tree_Let)
  Outs : (List (List M_tree_Node))
structure M_whole_Whole where
  Neg : Bool
  Abs : (List Nat)
structure M_frac_Frac where
  Num : M_whole_Whole
  Den : (List Nat)
structure M_tape_Inst where
  Op : Int
  A : Int
  B : Int
  N : M_frac_Frac
structure M_tape_Tape where
  Code : (List M_tape_Inst)
  Outs : (List Int)
  Dim : Int
  Par : Int
structure M_scheme_Scheme where
  Name : (List UInt8)
  C : (List M_frac_Frac)
  A : (List (List M_frac_Frac))
  B : (List M_frac_Frac)
  E : (List M_frac_Frac)
structure M_step_Problem where
  Tape : M_tape_Tape
  Scheme : M_scheme_Scheme
  P : (List M_frac_Frac)
  Bits : Int
structure M_pace_Rules where
  Tol : M_frac_Frac
  Safe : M_frac_Frac
  Low : M_frac_Frac
  High : M_frac_Frac
  Least : M_frac_Frac
  Fine : Int
  Most : Int
structure M_adapt_Task where
  Problem : M_step_Problem
  Rules : M_pace_Rules
  Start : M_frac_Frac
  End : M_frac_Frac
  First : M_frac_Frac
  Y : (List M_frac_Frac)
structure M_engine_Request where
  Do : (List UInt8)
  Field : M_tree_Field
  Task : M_adapt_Task
  W : (List M_frac_Frac)
  U : (List M_frac_Frac)
  V : (List M_frac_Frac)
  S : M_frac_Frac
  K : Int
structure M_wire_Piece where
  Name : (List UInt8)
  Text : (List UInt8)
structure M_wire_reader where
  s : (List UInt8)
  at_ : Int
structure M_lex_Word where
  Kind : Int
  Text : (List UInt8)
  At : Int
def eqb_api_Fault (x y : M_api_Fault) : Bool := ((x.Kind == y.Kind) && ((x.Step == y.Step) && ((x.Stage == y.Stage) && ((x.At == y.At) && true))))
structure M_A9_u8 where
  a0 : Nat
  a1 : Nat
  a2 : Nat
  a3 : Nat
  a4 : Nat
  a5 : Nat
  a6 : Nat
  a7 : Nat
  a8 : Nat
def ofl_A9_u8 : List Nat → M_A9_u8
  | [a0, a1, a2, a3, a4, a5, a6, a7, a8] => ⟨a0, a1, a2, a3, a4, a5, a6, a7, a8⟩
  | _ => (⟨0, 0, 0, 0, 0, 0, 0, 0, 0⟩ : M_A9_u8)
structure M_engine_reader where
  l : (List M_wire_Piece)
  where_ : (List UInt8)
  f : M_api_Fault
structure M_parse_reader where
  words : (List M_lex_Word)
  at_ : Int
  end_ : Int
  deep : Int
  names : (List (List UInt8))
structure M_past_Try where
  T : M_frac_Frac
  Want : M_frac_Frac
  H : M_frac_Frac
  Err : M_frac_Frac
  Y : (List M_frac_Frac)
  Ok : Bool
structure M_past_History where
  Tries : (List M_past_Try)
  T : M_frac_Frac
  Y : (List M_frac_Frac)
def B_retrospectlaw50_Op (x : M_retrospectlaw50_Op) : Prop := (-9223372036854775808 ≤ x.Kind ∧ x.Kind ≤ 9223372036854775807) ∧ (-9223372036854775808 ≤ x.X ∧ x.X ≤ 9223372036854775807) ∧ (x.S.length ≤ maxLen) ∧ True
def B_S_retrospectlaw50_Op (xs : List M_retrospectlaw50_Op) : Prop := xs.length ≤ maxLen ∧ ∀ x ∈ xs, B_retrospectlaw50_Op x
def m_desk_NewLine_int_ (x0 : Int) : Option ((Chn Int) × Bool) :=
  (grd (decide (0 ≤ min (max x0 (1 : Int)) (200 : Int) ∧ min (max x0 (1 : Int)) (200 : Int) ≤ (1000000 : Int)))).bind fun _ =>
  some ((⟨(min (max x0 (1 : Int)) (200 : Int)).toNat, [], false, 0, 0⟩ : Chn Int), false)
def m_desk_NewLine_string_ (x0 : Int) : Option ((Chn (List UInt8)) × Bool) :=
  (grd (decide (0 ≤ min (max x0 (1 : Int)) (200 : Int) ∧ min (max x0 (1 : Int)) (200 : Int) ≤ (1000000 : Int)))).bind fun _ =>
  some ((⟨(min (max x0 (1 : Int)) (200 : Int)).toNat, [], false, 0, 0⟩ : Chn (List UInt8)), false)
def m_desk_New (x0 : Int) : Option ((Chn (List UInt8)) × Bool × (Chn (List UInt8)) × Bool × Int × Int × Bool) :=
  (m_desk_NewLine_string_ x0).bind fun r1 =>
  (m_desk_NewLine_string_ x0).bind fun r3 =>
  some (r1.1, r1.2, r3.1, r3.2, 0, 0, false)
def m___desk_Line_string___Put (x0_c : (Chn (List UInt8))) (x0_shut : Bool) (x1 : (List UInt8)) : Option (Bool × (Chn (List UInt8))) :=
  bif x0_shut then (
    some (false, x0_c))
  else (
    (grd (!x0_c.sh)).bind fun _ =>
    bif decide (x0_c.buf.length < x0_c.cap) then (
      bif decide ((0 : Int) = (0 : Int)) then (
        some (true, ({ x0_c with buf := x0_c.buf ++ [x1], sent := x0_c.sent + 1 } : (Chn (List UInt8)))))
      else (
        some (false, ({ x0_c with buf := x0_c.buf ++ [x1], sent := x0_c.sent + 1 } : (Chn (List UInt8))))))
    else (
      bif decide ((-1 : Int) = (0 : Int)) then (
        some (true, x0_c))
      else (
        some (false, x0_c))))
def m___desk_Line_string___Room (x0_c : (Chn (List UInt8))) (x0_shut : Bool) : Option (Int) :=
  (grd (Nat.ble x0_c.cap 1000000)).bind fun _ =>
  some (x0_c.cap : Int)
def m___desk_Desk__Ask (x0_in__c : (Chn (List UInt8))) (x0_in__shut : Bool) (x0_out_c : (Chn (List UInt8))) (x0_out_shut : Bool) (x0_asked : Int) (x0_answered : Int) (x0_closed : Bool) (x1 : (List UInt8)) : Option (M_api_Fault × Int × Int × Bool × (Chn (List UInt8))) :=
  bif x0_closed then (
    some ((⟨(8 : Int), 0, 0, 0⟩ : M_api_Fault), x0_asked, x0_answered, x0_closed, x0_in__c))
  else (
    (m___desk_Line_string___Put x0_in__c x0_in__shut x1).bind fun r1 =>
    bif !r1.1 then (
      (m___desk_Line_string___Room r1.2 x0_in__shut).bind fun r3 =>
      some ((⟨(7 : Int), 0, 0, r3⟩ : M_api_Fault), x0_asked, x0_answered, x0_closed, r1.2))
    else (
      some ((⟨0, 0, 0, 0⟩ : M_api_Fault), wrap64 (x0_asked + (1 : Int)), x0_answered, x0_closed, r1.2)))
def m___desk_Line_string___Waiting (x0_c : (Chn (List UInt8))) (x0_shut : Bool) : Option (Int) :=
  (grd (Nat.ble x0_c.buf.length 1000000)).bind fun _ =>
  some (x0_c.buf.length : Int)
def m___desk_Line_string___Take (x0_c : (Chn (List UInt8))) (x0_shut : Bool) : Option ((List UInt8) × Bool × (Chn (List UInt8))) :=
  (grd (chOk okS x0_c)).bind fun _ =>
  chHd x0_c (fun y2 t3 =>
    bif decide ((0 : Int) = (0 : Int)) then (
      some (y2, true, ({ x0_c with buf := t3, rcvd := x0_c.rcvd + 1 } : (Chn (List UInt8)))))
    else (
      some (([] : List UInt8), false, ({ x0_c with buf := t3, rcvd := x0_c.rcvd + 1 } : (Chn (List UInt8)))))) (bif x0_c.sh then (
    bif decide ((0 : Int) = (0 : Int)) then (
      some (([] : List UInt8), false, x0_c))
    else (
      some (([] : List UInt8), false, x0_c)))
  else (
    bif decide ((-1 : Int) = (0 : Int)) then (
      some (([] : List UInt8), false, x0_c))
    else (
      some (([] : List UInt8), false, x0_c))))
def m_lex_digit (x0 : Nat) : Option (Bool) :=
  jn (fun (j1 : (Bool) → Option _) =>
    bif decide (48 ≤ x0) then (
      j1 (decide (x0 ≤ 57)))
    else (
      j1 false)) (fun (s3 : Bool) =>
    some s3)
def m_lex_letter (x0 : Nat) : Option (Bool) :=
  jn (fun (j1 : (Bool) → Option _) =>
    bif decide (97 ≤ x0) then (
      bif decide (x0 ≤ 122) then (
        j1 true)
      else (
        bif decide (65 ≤ x0) then (
          bif decide (x0 ≤ 90) then (
            j1 true)
          else (
            j1 (decide (x0 = 95))))
        else (
          j1 (decide (x0 = 95)))))
    else (
      bif decide (65 ≤ x0) then (
        bif decide (x0 ≤ 90) then (
          j1 true)
        else (
          j1 (decide (x0 = 95))))
      else (
        j1 (decide (x0 = 95))))) (fun (s3 : Bool) =>
    some s3)
def m_lex_sign (n : Nat) (x0 : Nat) : Option (Bool) :=
  (loopM (fun (s9 : Nat) =>
    bif decide (s9 < ([43, 45, 42, 47, 94, 40, 41, 91, 93, 44, 59, 61] : List UInt8).length) then (
      (some (((decR ([43, 45, 42, 47, 94, 40, 41, 91, 93, 44, 59, 61] : List UInt8) s9 : Nat) : Int))).bind fun z11 =>
      bif decide ((Int.toNat (z11 % 256)) = x0) then (
        some (Lp.out (Lp.out (true))))
      else (
        some (Lp.go (s9 + decW ([43, 45, 42, 47, 94, 40, 41, 91, 93, 44, 59, 61] : List UInt8) s9))))
    else (
      some (Lp.out (Lp.go ())))) n 0).bind (lpK fun (_ : Unit) =>
  some false)
def m_lex_kind (n : Nat) (x0 : Nat) : Option (Int) :=
  (m_lex_digit x0).bind fun r1 =>
  bif r1 then (
    some (1 : Int))
  else (
    (m_lex_letter x0).bind fun r3 =>
    bif r3 then (
      some (2 : Int))
    else (
      (m_lex_sign n x0).bind fun r5 =>
      bif r5 then (
        some (3 : Int))
      else (
        some (0 : Int))))
def m_lex_goes (x0 : Int) (x1 : Nat) : Option (Bool) :=
  jn (fun (j11 : (Bool) → Option _) =>
    bif decide (x0 = (1 : Int)) then (
      (m_lex_digit x1).bind fun r14 =>
      bif r14 then (
        j11 true)
      else (
        bif decide (x0 = (2 : Int)) then (
          (m_lex_letter x1).bind fun r16 =>
          bif r16 then (
            j11 true)
          else (
            (m_lex_digit x1).bind fun r18 =>
            j11 r18))
        else (
          j11 false)))
    else (
      bif decide (x0 = (2 : Int)) then (
        (m_lex_letter x1).bind fun r20 =>
        bif r20 then (
          j11 true)
        else (
          (m_lex_digit x1).bind fun r22 =>
          j11 r22))
      else (
        j11 false))) (fun (s13 : Bool) =>
    some s13)
def m_lex_first (n : Nat) (x0 : (List UInt8)) (x1 : Int) : Option (Int) :=
  (loopM (fun (s27 : Int) =>
    jn (fun (j32 : (Bool) → Option _) =>
      bif decide (s27 < (x0.length : Int)) then (
        (getS x0 s27).bind fun y35 =>
        (m_lex_goes x1 y35).bind fun r37 =>
        j32 r37)
      else (
        j32 false)) (fun (s34 : Bool) =>
      bif s34 then (
        some (Lp.go (wrap64 (s27 + (1 : Int)))))
      else (
        some (Lp.out s27)))) n (1 : Int)).bind fun (t25 : Int) =>
  some t25
def m_lex_most (x0 : Int) : Option (Int) :=
  bif decide (x0 = (1 : Int)) then (
    some (60 : Int))
  else (
    bif decide (x0 = (2 : Int)) then (
      some (12 : Int))
    else (
      some (1 : Int)))
def m_lex_Right (n : Nat) (x0 : M_lex_Word) : Option (Bool) :=
  jn (fun (j7 : (Bool) → Option _) =>
    bif decide (x0.Text = ([] : List UInt8)) then (
      j7 true)
    else (
      bif decide (x0.Kind = (0 : Int)) then (
        j7 true)
      else (
        (getS x0.Text (0 : Int)).bind fun y12 =>
        (m_lex_kind n y12).bind fun r14 =>
        j7 (!decide (r14 = x0.Kind))))) (fun (s9 : Bool) =>
    bif s9 then (
      some false)
    else (
      jn (fun (j21 : (Bool) → Option _) =>
        (m_lex_first n x0.Text x0.Kind).bind fun r24 =>
        bif decide (r24 = (x0.Text.length : Int)) then (
          (m_lex_most x0.Kind).bind fun r27 =>
          j21 (decide ((x0.Text.length : Int) ≤ r27)))
        else (
          j21 false)) (fun (s23 : Bool) =>
        some s23)))
def m_wire_named (n : Nat) (x0 : (List UInt8)) : Option (Bool) :=
  (m_lex_Right n (⟨(2 : Int), x0, 0⟩ : M_lex_Word)).bind fun r1 =>
  some r1
def m_wire_parse (x0 : Int) : Option (M_api_Fault) :=
  some (⟨(1 : Int), 0, 0, x0⟩ : M_api_Fault)
def m_digits_wrong (n : Nat) (x0 : (List UInt8)) : Option (Int) :=
  (loopM (fun (s27 : Int) =>
    bif decide (s27 < (x0.length : Int)) then (
      jn (fun (j32 : (Bool) → Option _) =>
        (getS x0 s27).bind fun y35 =>
        bif decide (y35 < 48) then (
          j32 true)
        else (
          (getS x0 s27).bind fun y37 =>
          bif decide (57 < y37) then (
            j32 true)
          else (
            j32 (decide (s27 = (60 : Int)))))) (fun (s34 : Bool) =>
        bif s34 then (
          some (Lp.out (Lp.out (s27))))
        else (
          some (Lp.go (wrap64 (s27 + (1 : Int)))))))
    else (
      some (Lp.out (Lp.go ())))) n (0 : Int)).bind (lpK fun (_ : Unit) =>
  bif decide (x0 = ([] : List UInt8)) then (
    some (0 : Int))
  else (
    some (-1 : Int)))
def m_limb_Mul (x0 : Nat) (x1 : Nat) (x2 : Nat) (x3 : Nat) : Option (Nat × Nat) :=
  (some (((((((x0 * x1) % 18446744073709551616) + x2) % 18446744073709551616) + x3) % 18446744073709551616))).bind fun z1 =>
  some (((z1 / 2 ^ 32) % 4294967296), (z1 % 4294967296))
def m_prod_row (x0 : (List Nat)) (x1 : Int) (x2 : (List Nat)) (x3 : Nat) (x4 : Nat) : Option ((List Nat)) :=
  (rangeL (fun (i23 : Nat) (x24 : Nat) (s22 : (List Nat) × Nat) =>
    (getI s22.1 (wrap64 (x1 + (i23 : Int)))).bind fun y26 =>
    (m_limb_Mul x3 x24 y26 s22.2).bind fun r28 =>
    (getI s22.1 (wrap64 (x1 + (i23 : Int)))).bind fun _ =>
    some (Lp.go ((List.set s22.1 (Int.toNat (wrap64 (x1 + (i23 : Int)))) r28.2), r28.1))) x2 0 (x0, x4)).bind (lpK fun (s32 : (List Nat) × Nat) =>
  (getI s32.1 (wrap64 (x1 + (x2.length : Int)))).bind fun _ =>
  some (List.set s32.1 (Int.toNat (wrap64 (x1 + (x2.length : Int)))) s32.2))
def m_nat_trim (n : Nat) (x0 : (List Nat)) : Option ((List Nat)) :=
  (loopM (fun (s19 : Int) =>
    jn (fun (j22 : (Bool) → Option _) =>
      bif decide ((0 : Int) < s19) then (
        (getI x0 (wrap64 (s19 - (1 : Int)))).bind fun y25 =>
        j22 (decide (y25 = 0)))
      else (
        j22 false)) (fun (s24 : Bool) =>
      bif s24 then (
        some (Lp.go (wrap64 (s19 - (1 : Int)))))
      else (
        some (Lp.out s19)))) n (x0.length : Int)).bind fun (t17 : Int) =>
  (sub x0 (0 : Int) t17).bind fun y27 =>
  some y27
def m_nat_fresh (x0 : (List Nat)) (x1 : Int) : Option ((List Nat)) :=
  (mkM 4 (0 : Nat) (wrap64 ((x0.length : Int) + x1))).bind fun y1 =>
  some (cpyL y1 x0)
def m_nat_Norm (n : Nat) (x0 : (List Nat)) : Option ((List Nat)) :=
  (m_nat_trim n x0).bind fun r1 =>
  (m_nat_fresh r1 (0 : Int)).bind fun r3 =>
  some r3
def m_prod_Word (n : Nat) (x0 : (List Nat)) (x1 : Nat) (x2 : Nat) : Option ((List Nat)) :=
  (mkM 4 (0 : Nat) (wrap64 ((x0.length : Int) + (1 : Int)))).bind fun y1 =>
  (m_prod_row y1 (0 : Int) x0 x1 x2).bind fun r3 =>
  (m_nat_Norm n r3).bind fun r5 =>
  some r5
def m_digits_Read (n : Nat) (x0 : (List UInt8)) : Option ((List Nat) × M_api_Fault) :=
  (m_digits_wrong n x0).bind fun r1 =>
  bif decide ((0 : Int) ≤ r1) then (
    some (([] : List Nat), (⟨(1 : Int), 0, 0, r1⟩ : M_api_Fault)))
  else (
    (loopM (fun (s49 : (List Nat) × Int) =>
      bif decide (s49.2 < (x0.length : Int)) then (
        (loopM (fun (s59 : Int × Nat × Nat × Int) =>
          jn (fun (j60 : (Bool) → Option _) =>
            bif decide (s59.2.2.2 < (9 : Int)) then (
              j60 (decide (s59.1 < (x0.length : Int))))
            else (
              j60 false)) (fun (s62 : Bool) =>
            bif s62 then (
              (getS x0 s59.1).bind fun y63 =>
              (some (((((s59.2.1 * 10) % 4294967296) + ((y63 + 256 - 48) % 256)) % 4294967296))).bind fun z65 =>
              some (Lp.go (wrap64 (s59.1 + (1 : Int)), z65, ((s59.2.2.1 * 10) % 4294967296), wrap64 (s59.2.2.2 + (1 : Int)))))
            else (
              some (Lp.out (s59.1, s59.2.1, s59.2.2.1))))) n (s49.2, 0, 1, (0 : Int))).bind fun (t57 : Int × Nat × Nat) =>
        (m_prod_Word n s49.1 t57.2.2 t57.2.1).bind fun r66 =>
        some (Lp.go (r66, t57.1)))
      else (
        some (Lp.out s49.1))) n (([] : List Nat), (0 : Int))).bind fun (t47 : (List Nat)) =>
    some (t47, (⟨0, 0, 0, 0⟩ : M_api_Fault)))
def m_nat_Zero (n : Nat) (x0 : (List Nat)) : Option (Bool) :=
  (m_nat_trim n x0).bind fun r1 =>
  some (decide ((r1.length : Int) = (0 : Int)))
def m_limb_Div (x0 : Nat) (x1 : Nat) (x2 : Nat) : Option (Nat × Nat × Bool) :=
  bif decide (x2 ≤ x0) then (
    some (0, 0, false))
  else (
    (grd (x2 != 0)).bind fun _ =>
    (grd (x2 != 0)).bind fun _ =>
    some ((((((x0 * 2 ^ 32) % 18446744073709551616) ||| x1) / x2) % 4294967296), (((((x0 * 2 ^ 32) % 18446744073709551616) ||| x1) % x2) % 4294967296), true))
def m_quot_Word (n : Nat) (x0 : (List Nat)) (x1 : Nat) : Option ((List Nat) × Nat × Bool) :=
  bif decide (x1 = 0) then (
    some (([] : List Nat), 0, false))
  else (
    (mkM 4 (0 : Nat) (x0.length : Int)).bind fun y1 =>
    (loopM (fun (s20 : (List Nat) × Nat × Int) =>
      bif decide ((0 : Int) ≤ s20.2.2) then (
        (getI x0 s20.2.2).bind fun y21 =>
        (m_limb_Div s20.2.1 y21 x1).bind fun r23 =>
        (getI s20.1 s20.2.2).bind fun _ =>
        some (Lp.go ((List.set s20.1 (Int.toNat s20.2.2) r23.1), r23.2.1, wrap64 (s20.2.2 - (1 : Int)))))
      else (
        some (Lp.out (s20.1, s20.2.1)))) n (y1, 0, wrap64 ((x0.length : Int) - (1 : Int)))).bind fun (t18 : (List Nat) × Nat) =>
    (m_nat_Norm n t18.1).bind fun r27 =>
    some (r27, t18.2, true))
def m_digits_nine (n : Nat) (x0 : Nat) : Option ((List UInt8)) :=
  (loopM (fun (s7 : Nat × M_A9_u8 × Int) =>
    bif decide ((0 : Int) ≤ s7.2.2) then (
      (getI ([s7.2.1.a0, s7.2.1.a1, s7.2.1.a2, s7.2.1.a3, s7.2.1.a4, s7.2.1.a5, s7.2.1.a6, s7.2.1.a7, s7.2.1.a8] : List Nat) s7.2.2).bind fun _ =>
      some (Lp.go ((s7.1 / 10), (ofl_A9_u8 (List.set ([s7.2.1.a0, s7.2.1.a1, s7.2.1.a2, s7.2.1.a3, s7.2.1.a4, s7.2.1.a5, s7.2.1.a6, s7.2.1.a7, s7.2.1.a8] : List Nat) (Int.toNat s7.2.2) (((48 + (s7.1 % 10)) % 4294967296) % 256))), wrap64 (s7.2.2 - (1 : Int)))))
    else (
      some (Lp.out s7.2.1))) n (x0, (⟨0, 0, 0, 0, 0, 0, 0, 0, 0⟩ : M_A9_u8), (8 : Int))).bind fun (t5 : M_A9_u8) =>
  (some (([t5.a0, t5.a1, t5.a2, t5.a3, t5.a4, t5.a5, t5.a6, t5.a7, t5.a8] : List Nat))).bind fun z10 =>
  some (bS z10)
def m_digits_Text (n : Nat) (x0 : (List Nat)) : Option ((List UInt8)) :=
  (m_nat_Zero n x0).bind fun r1 =>
  bif r1 then (
    some ([48] : List UInt8))
  else (
    (loopM (fun (s23 : (List Nat) × (List (List UInt8))) =>
      (m_nat_Zero n s23.1).bind fun r24 =>
      bif !r24 then (
        (m_quot_Word n s23.1 1000000000).bind fun r26 =>
        (m_digits_nine n r26.2.1).bind fun r28 =>
        (appM 16 s23.2 ([r28] : List (List UInt8))).bind fun y30 =>
        some (Lp.go (r26.1, y30)))
      else (
        some (Lp.out s23.2))) n (x0, ([] : List (List UInt8)))).bind fun (t21 : (List (List UInt8))) =>
    (loopM (fun (s44 : (List UInt8) × Int) =>
      bif decide ((0 : Int) ≤ s44.2) then (
        (getI t21 s44.2).bind fun y45 =>
        (appM 1 s44.1 y45).bind fun y47 =>
        some (Lp.go (y47, wrap64 (s44.2 - (1 : Int)))))
      else (
        some (Lp.out s44.1))) n (([] : List UInt8), wrap64 ((t21.length : Int) - (1 : Int)))).bind fun (t42 : (List UInt8)) =>
    (m_strings_TrimLeft t42 ([48] : List UInt8)).bind fun r49 =>
    some r49)
def m_nat_Small (n : Nat) (x0 : (List Nat)) : Option (Nat × Bool) :=
  (m_nat_trim n x0).bind fun r1 =>
  bif decide ((2 : Int) < (r1.length : Int)) then (
    some (0, false))
  else (
    (rangeL (fun (i17 : Nat) (x18 : Nat) (s16 : Nat) =>
      (grd (decide (0 ≤ wrap64 ((32 : Int) * (i17 : Int))))).bind fun _ =>
      (some (((x18 * 2 ^ (min (Int.toNat (wrap64 ((32 : Int) * (i17 : Int)))) 64)) % 18446744073709551616))).bind fun z21 =>
      some (Lp.go (s16 ||| z21))) r1 0 0).bind (lpK fun (s22 : Nat) =>
    some (s22, true)))
def m_wire_length (n : Nat) (x0 : (List UInt8)) : Option (Int) :=
  (m_digits_Read n x0).bind fun r1 =>
  jn (fun (j5 : (Bool) → Option _) =>
    bif !(eqb_api_Fault r1.2 (⟨0, 0, 0, 0⟩ : M_api_Fault)) then (
      j5 true)
    else (
      bif decide ((5 : Int) < (x0.length : Int)) then (
        j5 true)
      else (
        (m_digits_Text n r1.1).bind fun r8 =>
        j5 (!decide (r8 = x0))))) (fun (s7 : Bool) =>
    bif s7 then (
      some (-1 : Int))
    else (
      (m_nat_Small n r1.1).bind fun r10 =>
      some (wrap64 (r10.1 : Int))))
def m___wire_reader__piece (n : Nat) (x0 : M_wire_reader) : Option (M_wire_Piece × M_api_Fault × M_wire_reader) :=
  (sub x0.s x0.at_ (x0.s.length : Int)).bind fun y1 =>
  (m_strings_Cut y1 ([61] : List UInt8)).bind fun r3 =>
  (m_wire_named n r3.1).bind fun r5 =>
  bif !r5 then (
    (m_wire_parse x0.at_).bind fun r7 =>
    some ((⟨[], []⟩ : M_wire_Piece), r7, x0))
  else (
    bif !r3.2.2 then (
      (m_wire_parse (x0.s.length : Int)).bind fun r9 =>
      some ((⟨[], []⟩ : M_wire_Piece), r9, x0))
    else (
      (m_strings_Cut r3.2.1 ([58] : List UInt8)).bind fun r11 =>
      (m_wire_length n r11.1).bind fun r13 =>
      jn (fun (j15 : (Bool) → Option _) =>
        bif decide (r13 < (0 : Int)) then (
          j15 true)
        else (
          j15 (!r11.2.2))) (fun (s17 : Bool) =>
        bif s17 then (
          (some ((⟨x0.s, wrap64 (x0.at_ + (wrap64 ((r3.1.length : Int) + (1 : Int))))⟩ : M_wire_reader).at_)).bind fun z18 =>
          (m_wire_parse z18).bind fun r19 =>
          some ((⟨[], []⟩ : M_wire_Piece), r19, (⟨x0.s, wrap64 (x0.at_ + (wrap64 ((r3.1.length : Int) + (1 : Int))))⟩ : M_wire_reader)))
        else (
          (some ((⟨x0.s, wrap64 (x0.at_ + (wrap64 ((r3.1.length : Int) + (1 : Int))))⟩ : M_wire_reader).at_)).bind fun z21 =>
          bif decide ((r11.2.1.length : Int) < (wrap64 (r13 + (1 : Int)))) then (
            (some ((⟨x0.s, wrap64 (x0.at_ + (wrap64 ((r3.1.length : Int) + (1 : Int))))⟩ : M_wire_reader).s)).bind fun z22 =>
            (m_wire_parse (z22.length : Int)).bind fun r23 =>
            some ((⟨[], []⟩ : M_wire_Piece), r23, (⟨(⟨x0.s, wrap64 (x0.at_ + (wrap64 ((r3.1.length : Int) + (1 : Int))))⟩ : M_wire_reader).s, wrap64 (z21 + (wrap64 ((r11.1.length : Int) + (1 : Int))))⟩ : M_wire_reader)))
          else (
            (some (wrap64 ((wrap64 (z21 + (wrap64 ((r11.1.length : Int) + (1 : Int))))) + r13))).bind fun z25 =>
            (getS r11.2.1 r13).bind fun y26 =>
            bif !decide (y26 = 59) then (
              (m_wire_parse z25).bind fun r28 =>
              some ((⟨[], []⟩ : M_wire_Piece), r28, (⟨(⟨x0.s, wrap64 (x0.at_ + (wrap64 ((r3.1.length : Int) + (1 : Int))))⟩ : M_wire_reader).s, z25⟩ : M_wire_reader)))
            else (
              (sub r11.2.1 (0 : Int) r13).bind fun y30 =>
              some ((⟨r3.1, y30⟩ : M_wire_Piece), (⟨0, 0, 0, 0⟩ : M_api_Fault), (⟨(⟨x0.s, wrap64 (x0.at_ + (wrap64 ((r3.1.length : Int) + (1 : Int))))⟩ : M_wire_reader).s, wrap64 (z25 + (1 : Int))⟩ : M_wire_reader))))))))
def m_wire_may (n : Nat) (x0 : (List M_wire_Piece)) : Option (Bool) :=
  (rangeL (fun (i26 : Nat) (x27 : M_wire_Piece) (_ : Unit) =>
    jn (fun (j31 : (Bool) → Option _) =>
      (m_wire_named n x27.Name).bind fun r34 =>
      bif !r34 then (
        j31 true)
      else (
        j31 (decide ((20000 : Int) < (x27.Text.length : Int))))) (fun (s33 : Bool) =>
      bif s33 then (
        some (Lp.out (false)))
      else (
        (sub x0 (0 : Int) (i26 : Int)).bind fun y36 =>
        (rangeL (fun (_ : Nat) (x45 : M_wire_Piece) (_ : Unit) =>
          bif decide (x45.Name = x27.Name) then (
            some (Lp.out (Lp.out (false))))
          else (
            some (Lp.go ()))) y36 0 ()).bind (lpK fun (_ : Unit) =>
        some (Lp.go ()))))) x0 0 ()).bind (lpK fun (_ : Unit) =>
  some (decide ((x0.length : Int) ≤ (30 : Int))))
def m_wire_Unpack (n : Nat) (x0 : (List UInt8)) : Option ((List M_wire_Piece) × M_api_Fault) :=
  (loopM (fun (s13 : (List M_wire_Piece) × M_wire_reader) =>
    bif decide (s13.2.at_ < (x0.length : Int)) then (
      (m___wire_reader__piece n s13.2).bind fun r14 =>
      bif !(eqb_api_Fault r14.2.1 (⟨0, 0, 0, 0⟩ : M_api_Fault)) then (
        some (Lp.out (Lp.out ((([] : List M_wire_Piece), r14.2.1)))))
      else (
        (appM 32 s13.1 ([r14.1] : List M_wire_Piece)).bind fun y16 =>
        some (Lp.go (y16, r14.2.2))))
    else (
      some (Lp.out (Lp.go s13.1)))) n (([] : List M_wire_Piece), (⟨x0, 0⟩ : M_wire_reader))).bind (lpK fun (t11 : (List M_wire_Piece)) =>
  (m_wire_may n t11).bind fun r18 =>
  bif !r18 then (
    some (([] : List M_wire_Piece), (⟨(2 : Int), 0, 0, 0⟩ : M_api_Fault)))
  else (
    some (t11, (⟨0, 0, 0, 0⟩ : M_api_Fault))))
def m_engine_Names  : Option ((List (List UInt8))) :=
  (some (([([100, 111] : List UInt8), ([102, 105, 101, 108, 100] : List UInt8), ([115, 99, 104, 101, 109, 101] : List UInt8), ([112] : List UInt8), ([98, 105, 116, 115] : List UInt8), ([116, 111, 108] : List UInt8), ([115, 97, 102, 101] : List UInt8), ([108, 111, 119] : List UInt8), ([104, 105, 103, 104] : List UInt8), ([108, 101, 97, 115, 116] : List UInt8), ([102, 105, 110, 101] : List UInt8), ([109, 111, 115, 116] : List UInt8), ([115, 116, 97, 114, 116] : List UInt8), ([101, 110, 100] : List UInt8), ([102, 105, 114, 115, 116] : List UInt8), ([121] : List UInt8), ([119] : List UInt8), ([117] : List UInt8), ([118] : List UInt8), ([115] : List UInt8), ([107] : List UInt8)] : List (List UInt8)))).bind fun z1 =>
  some z1
def m_slices_Index___string_string_ (x0 : (List (List UInt8))) (x1 : (List UInt8)) : Option (Int) :=
  (rangeL (fun (i7 : Nat) (x8 : (List UInt8)) (_ : Unit) =>
    bif decide (x1 = x8) then (
      some (Lp.out ((i7 : Int))))
    else (
      some (Lp.go ()))) x0 0 ()).bind (lpK fun (_ : Unit) =>
  some (-1 : Int))
def m_slices_Contains___string_string_ (x0 : (List (List UInt8))) (x1 : (List UInt8)) : Option (Bool) :=
  (m_slices_Index___string_string_ x0 x1).bind fun r1 =>
  some (decide ((0 : Int) ≤ r1))
def m_engine_form  : Option (M_api_Fault) :=
  some (⟨(2 : Int), 0, 0, 0⟩ : M_api_Fault)
def m___engine_reader__bad (x0 : M_engine_reader) : Option (Bool) :=
  some (!(eqb_api_Fault x0.f (⟨0, 0, 0, 0⟩ : M_api_Fault)))
def m___engine_reader__fails (x0 : M_engine_reader) (x1 : (List UInt8)) (x2 : M_api_Fault) : Option (M_engine_reader) :=
  jn (fun (j3 : (Bool) → Option _) =>
    (m___engine_reader__bad x0).bind fun r6 =>
    bif !r6 then (
      j3 (!(eqb_api_Fault x2 (⟨0, 0, 0, 0⟩ : M_api_Fault))))
    else (
      j3 false)) (fun (s5 : Bool) =>
    bif s5 then (
      some (⟨x0.l, x1, x2⟩ : M_engine_reader))
    else (
      some x0))
def m___engine_reader__names (x0 : M_engine_reader) : Option (M_engine_reader) :=
  (rangeL (fun (_ : Nat) (x28 : M_wire_Piece) (s26 : M_engine_reader) =>
    (m_engine_Names ).bind fun r30 =>
    (m_slices_Contains___string_string_ r30 x28.Name).bind fun r32 =>
    bif !r32 then (
      (m_engine_form ).bind fun r34 =>
      (m___engine_reader__fails s26 x28.Name r34).bind fun r36 =>
      some (Lp.go r36))
    else (
      some (Lp.go s26))) x0.l 0 x0).bind (lpK fun (s38 : M_engine_reader) =>
  some s38)
def m_wire_Get (x0 : (List M_wire_Piece)) (x1 : (List UInt8)) : Option ((List UInt8) × Bool) :=
  (rangeL (fun (_ : Nat) (x8 : M_wire_Piece) (_ : Unit) =>
    bif decide (x8.Name = x1) then (
      some (Lp.out ((x8.Text, true))))
    else (
      some (Lp.go ()))) x0 0 ()).bind (lpK fun (_ : Unit) =>
  some (([] : List UInt8), false))
def m_engine_deeds  : Option ((List (List UInt8))) :=
  (some (([([115, 111, 108, 118, 101] : List UInt8), ([103, 114, 97, 100] : List UInt8), ([109, 111, 118, 101] : List UInt8), ([115, 116, 97, 116, 101] : List UInt8), ([115, 104, 111, 119] : List UInt8)] : List (List UInt8)))).bind fun z1 =>
  some z1
def m_engine_known (x0 : (List UInt8)) : Option (Bool) :=
  (m_engine_deeds ).bind fun r1 =>
  (m_slices_Contains___string_string_ r1 x0).bind fun r3 =>
  some r3
def m_lex_skip (n : Nat) (x0 : (List UInt8)) (x1 : Int) : Option (Int) :=
  (loopM (fun (s23 : Int) =>
    bif decide (s23 < (x0.length : Int)) then (
      (getS x0 s23).bind fun y24 =>
      jn (fun (j26 : (Bool) → Option _) =>
        bif decide (y24 = 32) then (
          j26 (decide (y24 = 32)))
        else (
          bif decide (y24 = 9) then (
            j26 (decide (y24 = 9)))
          else (
            bif decide (y24 = 10) then (
              j26 (decide (y24 = 10)))
            else (
              j26 (decide (y24 = 13)))))) (fun (s28 : Bool) =>
        bif s28 then (
          some (Lp.go (wrap64 (s23 + (1 : Int)))))
        else (
          bif decide (y24 = 35) then (
            (sub x0 s23 (x0.length : Int)).bind fun y29 =>
            (m_strings_Cut y29 ([10] : List UInt8)).bind fun r31 =>
            some (Lp.go (wrap64 (s23 + (r31.1.length : Int)))))
          else (
            some (Lp.out (Lp.out (s23)))))))
    else (
      some (Lp.out (Lp.go s23)))) n x1).bind (lpK fun (t21 : Int) =>
  some t21)
def m_lex_Scan (n : Nat) (x0 : (List UInt8)) : Option ((List M_lex_Word) × M_api_Fault) :=
  bif decide ((4000 : Int) < (x0.length : Int)) then (
    some (([] : List M_lex_Word), (⟨(1 : Int), 0, 0, (4000 : Int)⟩ : M_api_Fault)))
  else (
    (m_lex_skip n x0 (0 : Int)).bind fun r1 =>
    (loopM (fun (s43 : (List M_lex_Word) × Int) =>
      bif decide (s43.2 < (x0.length : Int)) then (
        (getS x0 s43.2).bind fun y44 =>
        (m_lex_kind n y44).bind fun r46 =>
        bif decide (r46 = (0 : Int)) then (
          some (Lp.out (Lp.out ((([] : List M_lex_Word), (⟨(1 : Int), 0, 0, s43.2⟩ : M_api_Fault))))))
        else (
          (sub x0 s43.2 (x0.length : Int)).bind fun y48 =>
          (m_lex_first n y48 r46).bind fun r50 =>
          (m_lex_most r46).bind fun r52 =>
          bif decide (r52 < r50) then (
            (m_lex_most r46).bind fun r54 =>
            some (Lp.out (Lp.out ((([] : List M_lex_Word), (⟨(1 : Int), 0, 0, wrap64 (s43.2 + r54)⟩ : M_api_Fault))))))
          else (
            (sub x0 s43.2 (wrap64 (s43.2 + r50))).bind fun y56 =>
            (appM 32 s43.1 ([(⟨r46, y56, s43.2⟩ : M_lex_Word)] : List M_lex_Word)).bind fun y58 =>
            (m_lex_skip n x0 (wrap64 (s43.2 + r50))).bind fun r60 =>
            some (Lp.go (y58, r60)))))
      else (
        some (Lp.out (Lp.go s43.1)))) n (([] : List M_lex_Word), r1)).bind (lpK fun (t41 : (List M_lex_Word)) =>
    some (t41, (⟨0, 0, 0, 0⟩ : M_api_Fault))))
def m_parse_begin (n : Nat) (x0 : (List UInt8)) (x1 : (List (List UInt8))) : Option ((List M_lex_Word) × Int × Int × Int × (List (List UInt8)) × M_api_Fault) :=
  (m_lex_Scan n x0).bind fun r1 =>
  (appM 16 ([] : List (List UInt8)) x1).bind fun y3 =>
  some (r1.1, 0, (x0.length : Int), 0, y3, r1.2)
def m___parse_reader__next (x0_words : (List M_lex_Word)) (x0_at_ : Int) (x0_end_ : Int) (x0_deep : Int) (x0_names : (List (List UInt8))) : Option (M_lex_Word) :=
  bif decide (x0_at_ < (x0_words.length : Int)) then (
    (getI x0_words x0_at_).bind fun y1 =>
    some y1)
  else (
    some (⟨0, [], 0⟩ : M_lex_Word))
def m___parse_reader__has (x0_words : (List M_lex_Word)) (x0_at_ : Int) (x0_end_ : Int) (x0_deep : Int) (x0_names : (List (List UInt8))) (x1 : (List UInt8)) : Option (Bool × (List M_lex_Word) × Int × Int × Int) :=
  (m___parse_reader__next x0_words x0_at_ x0_end_ x0_deep x0_names).bind fun r1 =>
  bif !decide (r1.Text = x1) then (
    some (false, x0_words, x0_at_, x0_end_, x0_deep))
  else (
    some (true, x0_words, wrap64 (x0_at_ + (1 : Int)), x0_end_, x0_deep))
def m_parse_reserved (x0 : (List UInt8)) : Option (Bool) :=
  jn (fun (j1 : (Bool) → Option _) =>
    bif decide (x0 = ([116] : List UInt8)) then (
      j1 true)
    else (
      bif decide (x0 = ([121] : List UInt8)) then (
        j1 true)
      else (
        bif decide (x0 = ([112] : List UInt8)) then (
          j1 true)
        else (
          j1 (decide (x0 = ([108, 101, 116] : List UInt8))))))) (fun (s3 : Bool) =>
    some s3)
def m___parse_reader__fail (x0_words : (List M_lex_Word)) (x0_at_ : Int) (x0_end_ : Int) (x0_deep : Int) (x0_names : (List (List UInt8))) : Option (Except M_api_Fault (Unit)) :=
  jn (fun (j3 : (Int) → Option _) =>
    bif decide (x0_at_ < (x0_words.length : Int)) then (
      (getI x0_words x0_at_).bind fun y6 =>
      j3 y6.At)
    else (
      j3 x0_end_)) (fun (s5 : Int) =>
    some (Except.error (⟨(1 : Int), 0, 0, s5⟩ : M_api_Fault)))
def m___parse_reader__name (x0_words : (List M_lex_Word)) (x0_at_ : Int) (x0_end_ : Int) (x0_deep : Int) (x0_names : (List (List UInt8))) : Option (Except M_api_Fault ((List UInt8) × (List M_lex_Word) × Int × Int × Int)) :=
  (m___parse_reader__next x0_words x0_at_ x0_end_ x0_deep x0_names).bind fun r1 =>
  jn (fun (j12 : (Unit) → Option _) =>
    jn (fun (j17 : (Bool) → Option _) =>
      bif !decide (r1.Kind = (2 : Int)) then (
        j17 true)
      else (
        (m_parse_reserved r1.Text).bind fun r20 =>
        j17 r20)) (fun (s19 : Bool) =>
      bif s19 then (
        (m___parse_reader__fail x0_words x0_at_ x0_end_ x0_deep x0_names).bind (exK (fun e =>
          some (Except.error e)) fun _ =>
        j12 ()))
      else (
        j12 ()))) (fun (_ : Unit) =>
    some (Except.ok (r1.Text, x0_words, wrap64 (x0_at_ + (1 : Int)), x0_end_, x0_deep)))
def m___parse_reader__need (x0_words : (List M_lex_Word)) (x0_at_ : Int) (x0_end_ : Int) (x0_deep : Int) (x0_names : (List (List UInt8))) (x1 : (List UInt8)) : Option (Except M_api_Fault ((List M_lex_Word) × Int × Int × Int)) :=
  (m___parse_reader__has x0_words x0_at_ x0_end_ x0_deep x0_names x1).bind fun r1 =>
  bif !r1.1 then (
    (m___parse_reader__fail r1.2.1 r1.2.2.1 r1.2.2.2.1 r1.2.2.2.2 x0_names).bind (exK (fun e =>
      some (Except.error e)) fun _ =>
    some (Except.ok (r1.2.1, r1.2.2.1, r1.2.2.2.1, r1.2.2.2.2))))
  else (
    some (Except.ok (r1.2.1, r1.2.2.1, r1.2.2.2.1, r1.2.2.2.2)))
def m___parse_reader__small (x0_words : (List M_lex_Word)) (x0_at_ : Int) (x0_end_ : Int) (x0_deep : Int) (x0_names : (List (List UInt8))) : Option (Except M_api_Fault (Int × (List M_lex_Word) × Int × Int × Int)) :=
  (m___parse_reader__next x0_words x0_at_ x0_end_ x0_deep x0_names).bind fun r1 =>
  jn (fun (j8 : (Unit) → Option _) =>
    jn (fun (j11 : (Bool) → Option _) =>
      bif !decide (r1.Kind = (1 : Int)) then (
        j11 true)
      else (
        j11 (decide ((3 : Int) < (r1.Text.length : Int))))) (fun (s13 : Bool) =>
      bif s13 then (
        (m___parse_reader__fail x0_words x0_at_ x0_end_ x0_deep x0_names).bind (exK (fun e =>
          some (Except.error e)) fun _ =>
        j8 ()))
      else (
        j8 ()))) (fun (_ : Unit) =>
    (m_strconv_Atoi r1.Text).bind fun r16 =>
    some (Except.ok (r16.1, x0_words, wrap64 (x0_at_ + (1 : Int)), x0_end_, x0_deep)))
def m___parse_reader__component (x0_words : (List M_lex_Word)) (x0_at_ : Int) (x0_end_ : Int) (x0_deep : Int) (x0_names : (List (List UInt8))) (x1 : Int) : Option (Except M_api_Fault ((List M_tree_Node) × (List M_lex_Word) × Int × Int × Int)) :=
  (m___parse_reader__need x0_words (wrap64 (x0_at_ + (1 : Int))) x0_end_ x0_deep x0_names ([91] : List UInt8)).bind (exK (fun e =>
    some (Except.error e)) fun r1 =>
  (m___parse_reader__small r1.1 r1.2.1 r1.2.2.1 r1.2.2.2 x0_names).bind (exK (fun e =>
    some (Except.error e)) fun r3 =>
  (m___parse_reader__need r3.2.1 r3.2.2.1 r3.2.2.2.1 r3.2.2.2.2 x0_names ([93] : List UInt8)).bind (exK (fun e =>
    some (Except.error e)) fun r5 =>
  some (Except.ok (([(⟨x1, r3.1, []⟩ : M_tree_Node)] : List M_tree_Node), r5.1, r5.2.1, r5.2.2.1, r5.2.2.2)))))
def m___parse_reader__open (x0_words : (List M_lex_Word)) (x0_at_ : Int) (x0_end_ : Int) (x0_deep : Int) (x0_names : (List (List UInt8))) : Option (Except M_api_Fault ((List M_lex_Word) × Int × Int × Int)) :=
  jn (fun (j3 : (Int) → Option _) =>
    bif decide (x0_deep = (40 : Int)) then (
      (m___parse_reader__fail x0_words (wrap64 (x0_at_ - (1 : Int))) x0_end_ x0_deep x0_names).bind (exK (fun e =>
        some (Except.error e)) fun _ =>
      j3 (wrap64 (x0_at_ - (1 : Int)))))
    else (
      j3 x0_at_)) (fun (s5 : Int) =>
    some (Except.ok (x0_words, s5, x0_end_, wrap64 (x0_deep + (1 : Int)))))
def m___parse_reader__meant (x0_words : (List M_lex_Word)) (x0_at_ : Int) (x0_end_ : Int) (x0_deep : Int) (x0_names : (List (List UInt8))) (x1 : (List UInt8)) : Option (Int) :=
  (rangeL (fun (i7 : Nat) (x8 : (List UInt8)) (_ : Unit) =>
    bif decide (x8 = x1) then (
      some (Lp.out ((i7 : Int))))
    else (
      some (Lp.go ()))) x0_names 0 ()).bind (lpK fun (_ : Unit) =>
  some (-1 : Int))
def m___parse_reader__atom (me___parse_reader__expr : (List M_lex_Word) → Int → Int → Int → (List (List UInt8)) → Option (Except M_api_Fault ((List M_tree_Node) × (List M_lex_Word) × Int × Int × Int × (List (List UInt8))))) (n : Nat) (x0_words : (List M_lex_Word)) (x0_at_ : Int) (x0_end_ : Int) (x0_deep : Int) (x0_names : (List (List UInt8))) : Option (Except M_api_Fault ((List M_tree_Node) × (List M_lex_Word) × Int × Int × Int × (List (List UInt8)))) :=
  (m___parse_reader__next x0_words x0_at_ x0_end_ x0_deep x0_names).bind fun r1 =>
  bif decide (r1.Kind = (1 : Int)) then (
    (m_digits_Read n r1.Text).bind fun r3 =>
    (m_nat_Norm n r3.1).bind fun r5 =>
    some (Except.ok (([(⟨(1 : Int), 0, r5⟩ : M_tree_Node)] : List M_tree_Node), x0_words, wrap64 (x0_at_ + (1 : Int)), x0_end_, x0_deep, x0_names)))
  else (
    bif decide (r1.Text = ([116] : List UInt8)) then (
      some (Except.ok (([(⟨(2 : Int), 0, []⟩ : M_tree_Node)] : List M_tree_Node), x0_words, wrap64 (x0_at_ + (1 : Int)), x0_end_, x0_deep, x0_names)))
    else (
      bif decide (r1.Text = ([121] : List UInt8)) then (
        (m___parse_reader__component x0_words x0_at_ x0_end_ x0_deep x0_names (3 : Int)).bind (exK (fun e =>
          some (Except.error e)) fun r7 =>
        some (Except.ok (r7.1, r7.2.1, r7.2.2.1, r7.2.2.2.1, r7.2.2.2.2, x0_names))))
      else (
        bif decide (r1.Text = ([112] : List UInt8)) then (
          (m___parse_reader__component x0_words x0_at_ x0_end_ x0_deep x0_names (4 : Int)).bind (exK (fun e =>
            some (Except.error e)) fun r9 =>
          some (Except.ok (r9.1, r9.2.1, r9.2.2.1, r9.2.2.2.1, r9.2.2.2.2, x0_names))))
        else (
          (m___parse_reader__has x0_words x0_at_ x0_end_ x0_deep x0_names ([40] : List UInt8)).bind fun r11 =>
          bif r11.1 then (
            (m___parse_reader__open r11.2.1 r11.2.2.1 r11.2.2.2.1 r11.2.2.2.2 x0_names).bind (exK (fun e =>
              some (Except.error e)) fun r13 =>
            (me___parse_reader__expr r13.1 r13.2.1 r13.2.2.1 r13.2.2.2 x0_names).bind (exK (fun e =>
              some (Except.error e)) fun r15 =>
            (m___parse_reader__need r15.2.1 r15.2.2.1 r15.2.2.2.1 r15.2.2.2.2.1 r15.2.2.2.2.2 ([41] : List UInt8)).bind (exK (fun e =>
              some (Except.error e)) fun r17 =>
            some (Except.ok (r15.1, r17.1, r17.2.1, r17.2.2.1, wrap64 (r17.2.2.2 - (1 : Int)), r15.2.2.2.2.2))))))
          else (
            (m___parse_reader__name r11.2.1 r11.2.2.1 r11.2.2.2.1 r11.2.2.2.2 x0_names).bind (exK (fun e =>
              some (Except.error e)) fun r19 =>
            (m___parse_reader__meant r19.2.1 r19.2.2.1 r19.2.2.2.1 r19.2.2.2.2 x0_names r19.1).bind fun r21 =>
            some (Except.ok (([(⟨(5 : Int), r21, []⟩ : M_tree_Node)] : List M_tree_Node), r19.2.1, r19.2.2.1, r19.2.2.2.1, r19.2.2.2.2, x0_names))))))))
def m___parse_reader__power (me___parse_reader__expr : (List M_lex_Word) → Int → Int → Int → (List (List UInt8)) → Option (Except M_api_Fault ((List M_tree_Node) × (List M_lex_Word) × Int × Int × Int × (List (List UInt8))))) (n : Nat) (x0_words : (List M_lex_Word)) (x0_at_ : Int) (x0_end_ : Int) (x0_deep : Int) (x0_names : (List (List UInt8))) : Option (Except M_api_Fault ((List M_tree_Node) × (List M_lex_Word) × Int × Int × Int × (List (List UInt8)))) :=
  (m___parse_reader__atom me___parse_reader__expr n x0_words x0_at_ x0_end_ x0_deep x0_names).bind (exK (fun e =>
    some (Except.error e)) fun r1 =>
  (m___parse_reader__has r1.2.1 r1.2.2.1 r1.2.2.2.1 r1.2.2.2.2.1 r1.2.2.2.2.2 ([94] : List UInt8)).bind fun r3 =>
  bif !r3.1 then (
    some (Except.ok (r1.1, r3.2.1, r3.2.2.1, r3.2.2.2.1, r3.2.2.2.2, r1.2.2.2.2.2)))
  else (
    (m___parse_reader__has r3.2.1 r3.2.2.1 r3.2.2.2.1 r3.2.2.2.2 r1.2.2.2.2.2 ([45] : List UInt8)).bind fun r5 =>
    (m___parse_reader__small r5.2.1 r5.2.2.1 r5.2.2.2.1 r5.2.2.2.2 r1.2.2.2.2.2).bind (exK (fun e =>
      some (Except.error e)) fun r7 =>
    jn (fun (j9 : (Int) → Option _) =>
      bif r5.1 then (
        j9 (wrap64 (-r7.1)))
      else (
        j9 r7.1)) (fun (s11 : Int) =>
      (appM 40 r1.1 ([(⟨(11 : Int), s11, []⟩ : M_tree_Node)] : List M_tree_Node)).bind fun y12 =>
      some (Except.ok (y12, r7.2.1, r7.2.2.1, r7.2.2.2.1, r7.2.2.2.2, r1.2.2.2.2.2))))))
def m___parse_reader__factor (me___parse_reader__expr : (List M_lex_Word) → Int → Int → Int → (List (List UInt8)) → Option (Except M_api_Fault ((List M_tree_Node) × (List M_lex_Word) × Int × Int × Int × (List (List UInt8))))) : Nat → (List M_lex_Word) → Int → Int → Int → (List (List UInt8)) → Option (Except M_api_Fault ((List M_tree_Node) × (List M_lex_Word) × Int × Int × Int × (List (List UInt8))))
  | 0, _, _, _, _, _ => none
  | n + 1, x0_words, x0_at_, x0_end_, x0_deep, x0_names =>
    (m___parse_reader__has x0_words x0_at_ x0_end_ x0_deep x0_names ([45] : List UInt8)).bind fun r1 =>
    bif !r1.1 then (
      (m___parse_reader__power me___parse_reader__expr n r1.2.1 r1.2.2.1 r1.2.2.2.1 r1.2.2.2.2 x0_names).bind (exK (fun e =>
        some (Except.error e)) fun r3 =>
      some (Except.ok (r3.1, r3.2.1, r3.2.2.1, r3.2.2.2.1, r3.2.2.2.2.1, r3.2.2.2.2.2))))
    else (
      (m___parse_reader__open r1.2.1 r1.2.2.1 r1.2.2.2.1 r1.2.2.2.2 x0_names).bind (exK (fun e =>
        some (Except.error e)) fun r5 =>
      (m___parse_reader__factor me___parse_reader__expr n r5.1 r5.2.1 r5.2.2.1 r5.2.2.2 x0_names).bind (exK (fun e =>
        some (Except.error e)) fun r7 =>
      (appM 40 r7.1 ([(⟨(6 : Int), 0, []⟩ : M_tree_Node)] : List M_tree_Node)).bind fun y9 =>
      some (Except.ok (y9, r7.2.1, r7.2.2.1, r7.2.2.2.1, wrap64 (r7.2.2.2.2.1 - (1 : Int)), r7.2.2.2.2.2)))))
def m___parse_reader__chain_o1___parse_reader__factor (me___parse_reader__expr : (List M_lex_Word) → Int → Int → Int → (List (List UInt8)) → Option (Except M_api_Fault ((List M_tree_Node) × (List M_lex_Word) × Int × Int × Int × (List (List UInt8))))) (n : Nat) (x0_words : (List M_lex_Word)) (x0_at_ : Int) (x0_end_ : Int) (x0_deep : Int) (x0_names : (List (List UInt8))) (x2 : (List UInt8)) (x3 : (List UInt8)) (x4 : Int) (x5 : Int) : Option (Except M_api_Fault ((List M_tree_Node) × (List M_lex_Word) × Int × Int × Int × (List (List UInt8)))) :=
  (m___parse_reader__factor me___parse_reader__expr n x0_words x0_at_ x0_end_ x0_deep x0_names).bind (exK (fun e =>
    some (Except.error e)) fun r1 =>
  loopM (fun (s41 : (List M_lex_Word) × Int × Int × Int × (List (List UInt8)) × (List M_tree_Node)) =>
    jn (fun (j46 : ((List M_lex_Word) × Int × Int × Int × Int) → Option _) =>
      (m___parse_reader__has s41.1 s41.2.1 s41.2.2.1 s41.2.2.2.1 s41.2.2.2.2.1 x2).bind fun r49 =>
      bif r49.1 then (
        j46 (r49.2.1, r49.2.2.1, r49.2.2.2.1, r49.2.2.2.2, x4))
      else (
        (m___parse_reader__has r49.2.1 r49.2.2.1 r49.2.2.2.1 r49.2.2.2.2 s41.2.2.2.2.1 x3).bind fun r51 =>
        bif r51.1 then (
          j46 (r51.2.1, r51.2.2.1, r51.2.2.2.1, r51.2.2.2.2, x5))
        else (
          some (Lp.out (Except.ok (s41.2.2.2.2.2, r51.2.1, r51.2.2.1, r51.2.2.2.1, r51.2.2.2.2, s41.2.2.2.2.1)))))) (fun (s48 : (List M_lex_Word) × Int × Int × Int × Int) =>
      (m___parse_reader__factor me___parse_reader__expr n s48.1 s48.2.1 s48.2.2.1 s48.2.2.2.1 s41.2.2.2.2.1).bind (exK (fun e =>
        some (Lp.out (Except.error e))) fun r53 =>
      (appM 40 s41.2.2.2.2.2 r53.1).bind fun y55 =>
      (appM 40 y55 ([(⟨s48.2.2.2.2, 0, []⟩ : M_tree_Node)] : List M_tree_Node)).bind fun y57 =>
      some (Lp.go (r53.2.1, r53.2.2.1, r53.2.2.2.1, r53.2.2.2.2.1, r53.2.2.2.2.2, y57))))) n (r1.2.1, r1.2.2.1, r1.2.2.2.1, r1.2.2.2.2.1, r1.2.2.2.2.2, r1.1))
def m___parse_reader__term (me___parse_reader__expr : (List M_lex_Word) → Int → Int → Int → (List (List UInt8)) → Option (Except M_api_Fault ((List M_tree_Node) × (List M_lex_Word) × Int × Int × Int × (List (List UInt8))))) (n : Nat) (x0_words : (List M_lex_Word)) (x0_at_ : Int) (x0_end_ : Int) (x0_deep : Int) (x0_names : (List (List UInt8))) : Option (Except M_api_Fault ((List M_tree_Node) × (List M_lex_Word) × Int × Int × Int × (List (List UInt8)))) :=
  (m___parse_reader__chain_o1___parse_reader__factor me___parse_reader__expr n x0_words x0_at_ x0_end_ x0_deep x0_names ([42] : List UInt8) ([47] : List UInt8) (9 : Int) (10 : Int)).bind (exK (fun e =>
    some (Except.error e)) fun r1 =>
  some (Except.ok (r1.1, r1.2.1, r1.2.2.1, r1.2.2.2.1, r1.2.2.2.2.1, r1.2.2.2.2.2)))
def m___parse_reader__chain_o1___parse_reader__term (me___parse_reader__expr : (List M_lex_Word) → Int → Int → Int → (List (List UInt8)) → Option (Except M_api_Fault ((List M_tree_Node) × (List M_lex_Word) × Int × Int × Int × (List (List UInt8))))) (n : Nat) (x0_words : (List M_lex_Word)) (x0_at_ : Int) (x0_end_ : Int) (x0_deep : Int) (x0_names : (List (List UInt8))) (x2 : (List UInt8)) (x3 : (List UInt8)) (x4 : Int) (x5 : Int) : Option (Except M_api_Fault ((List M_tree_Node) × (List M_lex_Word) × Int × Int × Int × (List (List UInt8)))) :=
  (m___parse_reader__term me___parse_reader__expr n x0_words x0_at_ x0_end_ x0_deep x0_names).bind (exK (fun e =>
    some (Except.error e)) fun r1 =>
  loopM (fun (s41 : (List M_lex_Word) × Int × Int × Int × (List (List UInt8)) × (List M_tree_Node)) =>
    jn (fun (j46 : ((List M_lex_Word) × Int × Int × Int × Int) → Option _) =>
      (m___parse_reader__has s41.1 s41.2.1 s41.2.2.1 s41.2.2.2.1 s41.2.2.2.2.1 x2).bind fun r49 =>
      bif r49.1 then (
        j46 (r49.2.1, r49.2.2.1, r49.2.2.2.1, r49.2.2.2.2, x4))
      else (
        (m___parse_reader__has r49.2.1 r49.2.2.1 r49.2.2.2.1 r49.2.2.2.2 s41.2.2.2.2.1 x3).bind fun r51 =>
        bif r51.1 then (
          j46 (r51.2.1, r51.2.2.1, r51.2.2.2.1, r51.2.2.2.2, x5))
        else (
          some (Lp.out (Except.ok (s41.2.2.2.2.2, r51.2.1, r51.2.2.1, r51.2.2.2.1, r51.2.2.2.2, s41.2.2.2.2.1)))))) (fun (s48 : (List M_lex_Word) × Int × Int × Int × Int) =>
      (m___parse_reader__term me___parse_reader__expr n s48.1 s48.2.1 s48.2.2.1 s48.2.2.2.1 s41.2.2.2.2.1).bind (exK (fun e =>
        some (Lp.out (Except.error e))) fun r53 =>
      (appM 40 s41.2.2.2.2.2 r53.1).bind fun y55 =>
      (appM 40 y55 ([(⟨s48.2.2.2.2, 0, []⟩ : M_tree_Node)] : List M_tree_Node)).bind fun y57 =>
      some (Lp.go (r53.2.1, r53.2.2.1, r53.2.2.2.1, r53.2.2.2.2.1, r53.2.2.2.2.2, y57))))) n (r1.2.1, r1.2.2.1, r1.2.2.2.1, r1.2.2.2.2.1, r1.2.2.2.2.2, r1.1))
def m___parse_reader__expr : Nat → (List M_lex_Word) → Int → Int → Int → (List (List UInt8)) → Option (Except M_api_Fault ((List M_tree_Node) × (List M_lex_Word) × Int × Int × Int × (List (List UInt8))))
  | 0, _, _, _, _, _ => none
  | n + 1, x0_words, x0_at_, x0_end_, x0_deep, x0_names =>
    (m___parse_reader__chain_o1___parse_reader__term (m___parse_reader__expr n) n x0_words x0_at_ x0_end_ x0_deep x0_names ([43] : List UInt8) ([45] : List UInt8) (7 : Int) (8 : Int)).bind (exK (fun e =>
      some (Except.error e)) fun r1 =>
    some (Except.ok (r1.1, r1.2.1, r1.2.2.1, r1.2.2.2.1, r1.2.2.2.2.1, r1.2.2.2.2.2)))
def m___parse_reader__field (n : Nat) (x0_words : (List M_lex_Word)) (x0_at_ : Int) (x0_end_ : Int) (x0_deep : Int) (x0_names : (List (List UInt8))) : Option (Except M_api_Fault (M_tree_Field × (List M_lex_Word) × Int × Int × Int × (List (List UInt8)))) :=
  (loopM (fun (s18 : (List M_lex_Word) × Int × Int × Int × (List (List UInt8)) × (List M_tree_Let)) =>
    (m___parse_reader__has s18.1 s18.2.1 s18.2.2.1 s18.2.2.2.1 s18.2.2.2.2.1 ([108, 101, 116] : List UInt8)).bind fun r19 =>
    bif r19.1 then (
      (m___parse_reader__name r19.2.1 r19.2.2.1 r19.2.2.2.1 r19.2.2.2.2 s18.2.2.2.2.1).bind (exK (fun e =>
        some (Lp.out (Lp.out (Except.error e)))) fun r21 =>
      (m___parse_reader__need r21.2.1 r21.2.2.1 r21.2.2.2.1 r21.2.2.2.2 s18.2.2.2.2.1 ([61] : List UInt8)).bind (exK (fun e =>
        some (Lp.out (Lp.out (Except.error e)))) fun r23 =>
      (m___parse_reader__expr n r23.1 r23.2.1 r23.2.2.1 r23.2.2.2 s18.2.2.2.2.1).bind (exK (fun e =>
        some (Lp.out (Lp.out (Except.error e)))) fun r25 =>
      (appM 40 s18.2.2.2.2.2 ([(⟨r21.1, r25.1⟩ : M_tree_Let)] : List M_tree_Let)).bind fun y27 =>
      (m___parse_reader__need r25.2.1 r25.2.2.1 r25.2.2.2.1 r25.2.2.2.2.1 r25.2.2.2.2.2 ([59] : List UInt8)).bind (exK (fun e =>
        some (Lp.out (Lp.out (Except.error e)))) fun r29 =>
      (appM 16 r25.2.2.2.2.2 ([r21.1] : List (List UInt8))).bind fun y31 =>
      some (Lp.go (r29.1, r29.2.1, r29.2.2.1, r29.2.2.2, y31, y27)))))))
    else (
      some (Lp.out (Lp.go (r19.2.1, r19.2.2.1, r19.2.2.2.1, r19.2.2.2.2, s18.2.2.2.2.1, s18.2.2.2.2.2))))) n (x0_words, x0_at_, x0_end_, x0_deep, x0_names, ([] : List M_tree_Let))).bind (lpK fun (t16 : (List M_lex_Word) × Int × Int × Int × (List (List UInt8)) × (List M_tree_Let)) =>
  (m___parse_reader__need t16.1 t16.2.1 t16.2.2.1 t16.2.2.2.1 t16.2.2.2.2.1 ([91] : List UInt8)).bind (exK (fun e =>
    some (Except.error e)) fun r33 =>
  (m___parse_reader__expr n r33.1 r33.2.1 r33.2.2.1 r33.2.2.2 t16.2.2.2.2.1).bind (exK (fun e =>
    some (Except.error e)) fun r35 =>
  (appM 24 ([] : List (List M_tree_Node)) ([r35.1] : List (List M_tree_Node))).bind fun y37 =>
  (loopM (fun (s57 : (List M_lex_Word) × Int × Int × Int × (List (List UInt8)) × (List (List M_tree_Node))) =>
    (m___parse_reader__has s57.1 s57.2.1 s57.2.2.1 s57.2.2.2.1 s57.2.2.2.2.1 ([44] : List UInt8)).bind fun r58 =>
    bif r58.1 then (
      (m___parse_reader__expr n r58.2.1 r58.2.2.1 r58.2.2.2.1 r58.2.2.2.2 s57.2.2.2.2.1).bind (exK (fun e =>
        some (Lp.out (Lp.out (Except.error e)))) fun r60 =>
      (appM 24 s57.2.2.2.2.2 ([r60.1] : List (List M_tree_Node))).bind fun y62 =>
      some (Lp.go (r60.2.1, r60.2.2.1, r60.2.2.2.1, r60.2.2.2.2.1, r60.2.2.2.2.2, y62))))
    else (
      some (Lp.out (Lp.go (r58.2.1, r58.2.2.1, r58.2.2.2.1, r58.2.2.2.2, s57.2.2.2.2.1, s57.2.2.2.2.2))))) n (r35.2.1, r35.2.2.1, r35.2.2.2.1, r35.2.2.2.2.1, r35.2.2.2.2.2, y37)).bind (lpK fun (t55 : (List M_lex_Word) × Int × Int × Int × (List (List UInt8)) × (List (List M_tree_Node))) =>
  (m___parse_reader__need t55.1 t55.2.1 t55.2.2.1 t55.2.2.2.1 t55.2.2.2.2.1 ([93] : List UInt8)).bind (exK (fun e =>
    some (Except.error e)) fun r64 =>
  some (Except.ok ((⟨t16.2.2.2.2.2, t55.2.2.2.2.2⟩ : M_tree_Field), r64.1, r64.2.1, r64.2.2.1, r64.2.2.2, t55.2.2.2.2.1)))))))
def m_parse_caught_o1_api_Fault (x0 : M_api_Fault) (x1 : M_api_Fault) : Option (Bool × M_api_Fault) :=
  some (true, x1)
def m_parse_Parse_1_opan (x0 : M_api_Fault) (x1 : M_tree_Field) (e : M_api_Fault) : Option (M_api_Fault × M_tree_Field) :=
  (m_parse_caught_o1_api_Fault x0 e).bind fun r1 =>
  bif r1.1 then (
    some (r1.2, (⟨[], []⟩ : M_tree_Field)))
  else (
    some (r1.2, x1))
def m___parse_reader__over (x0_words : (List M_lex_Word)) (x0_at_ : Int) (x0_end_ : Int) (x0_deep : Int) (x0_names : (List (List UInt8))) : Option (Except M_api_Fault (Unit)) :=
  bif decide (x0_at_ < (x0_words.length : Int)) then (
    (m___parse_reader__fail x0_words x0_at_ x0_end_ x0_deep x0_names).bind (exK (fun e =>
      some (Except.error e)) fun _ =>
    some (Except.ok ())))
  else (
    some (Except.ok ()))
def m_parse_caught_o1_nil (x0 : M_api_Fault) : Option (Bool) :=
  some false
def m_parse_Parse_1_oret (x0 : M_api_Fault) (x1 : M_tree_Field) : Option (M_tree_Field) :=
  (m_parse_caught_o1_nil x0).bind fun r1 =>
  bif r1 then (
    some (⟨[], []⟩ : M_tree_Field))
  else (
    some x1)
def m_parse_Parse (n : Nat) (x0 : (List UInt8)) : Option (M_tree_Field × M_api_Fault) :=
  (m_parse_begin n x0 ([] : List (List UInt8))).bind fun r1 =>
  bif !(eqb_api_Fault r1.2.2.2.2.2 (⟨0, 0, 0, 0⟩ : M_api_Fault)) then (
    some ((⟨[], []⟩ : M_tree_Field), r1.2.2.2.2.2))
  else (
    (m___parse_reader__field n r1.1 r1.2.1 r1.2.2.1 r1.2.2.2.1 r1.2.2.2.2.1).bind (exK (fun e =>
      (m_parse_Parse_1_opan r1.2.2.2.2.2 (⟨[], []⟩ : M_tree_Field) e).bind fun y9 =>
      some (y9.2, y9.1)) fun r7 =>
    (m___parse_reader__over r7.2.1 r7.2.2.1 r7.2.2.2.1 r7.2.2.2.2.1 r7.2.2.2.2.2).bind (exK (fun e =>
      (m_parse_Parse_1_opan r1.2.2.2.2.2 r7.1 e).bind fun y13 =>
      some (y13.2, y13.1)) fun _ =>
    (m_parse_Parse_1_oret (⟨0, 0, 0, 0⟩ : M_api_Fault) r7.1).bind fun y15 =>
    some (y15, (⟨0, 0, 0, 0⟩ : M_api_Fault)))))
def m___engine_reader__begin (n : Nat) (x0 : M_engine_reader) : Option ((List UInt8) × M_tree_Field × M_engine_reader) :=
  (m_wire_Get x0.l ([100, 111] : List UInt8)).bind fun r1 =>
  jn (fun (j9 : (M_engine_reader) → Option _) =>
    (m_engine_known r1.1).bind fun r12 =>
    bif !r12 then (
      (m_engine_form ).bind fun r14 =>
      (m___engine_reader__fails x0 ([100, 111] : List UInt8) r14).bind fun r16 =>
      j9 r16)
    else (
      j9 x0)) (fun (s11 : M_engine_reader) =>
    (m_wire_Get s11.l ([102, 105, 101, 108, 100] : List UInt8)).bind fun r18 =>
    (m_parse_Parse n r18.1).bind fun r20 =>
    (m___engine_reader__fails s11 ([102, 105, 101, 108, 100] : List UInt8) r20.2).bind fun r22 =>
    some (r1.1, r20.1, r22))
def m_engine_shown_no (x0 : M_tree_Field) : Option (M_api_Fault) :=
  none
def m___engine_reader__rest_no (x0 : M_engine_reader) (x1 : M_engine_Request) : Option (Unit) :=
  none
def m_engine_Read (n : Nat) (x0 : (List UInt8)) : Option (M_engine_Request × (List UInt8) × M_api_Fault) :=
  (m_wire_Unpack n x0).bind fun r1 =>
  (m___engine_reader__names (⟨r1.1, [], r1.2⟩ : M_engine_reader)).bind fun r3 =>
  (m___engine_reader__begin n r3).bind fun r5 =>
  jn (fun (j15 : (M_engine_reader) → Option _) =>
    bif decide (r5.1 = ([115, 104, 111, 119] : List UInt8)) then (
      (m_engine_shown_no r5.2.1).bind fun r18 =>
      (m___engine_reader__fails r5.2.2 ([102, 105, 101, 108, 100] : List UInt8) r18).bind fun r20 =>
      j15 r20)
    else (
      (m___engine_reader__bad r5.2.2).bind fun r22 =>
      bif !r22 then (
        (m___engine_reader__rest_no r5.2.2 (⟨r5.1, r5.2.1, (⟨(⟨(⟨[], [], 0, 0⟩ : M_tape_Tape), (⟨[], [], [], [], []⟩ : M_scheme_Scheme), [], 0⟩ : M_step_Problem), (⟨(⟨(⟨false, []⟩ : M_whole_Whole), []⟩ : M_frac_Frac), (⟨(⟨false, []⟩ : M_whole_Whole), []⟩ : M_frac_Frac), (⟨(⟨false, []⟩ : M_whole_Whole), []⟩ : M_frac_Frac), (⟨(⟨false, []⟩ : M_whole_Whole), []⟩ : M_frac_Frac), (⟨(⟨false, []⟩ : M_whole_Whole), []⟩ : M_frac_Frac), 0, 0⟩ : M_pace_Rules), (⟨(⟨false, []⟩ : M_whole_Whole), []⟩ : M_frac_Frac), (⟨(⟨false, []⟩ : M_whole_Whole), []⟩ : M_frac_Frac), (⟨(⟨false, []⟩ : M_whole_Whole), []⟩ : M_frac_Frac), []⟩ : M_adapt_Task), [], [], [], (⟨(⟨false, []⟩ : M_whole_Whole), []⟩ : M_frac_Frac), 0⟩ : M_engine_Request)).bind fun _ =>
        j15 r5.2.2)
      else (
        j15 r5.2.2))) (fun (s17 : M_engine_reader) =>
    (m___engine_reader__bad s17).bind fun r26 =>
    bif r26 then (
      some ((⟨[], (⟨[], []⟩ : M_tree_Field), (⟨(⟨(⟨[], [], 0, 0⟩ : M_tape_Tape), (⟨[], [], [], [], []⟩ : M_scheme_Scheme), [], 0⟩ : M_step_Problem), (⟨(⟨(⟨false, []⟩ : M_whole_Whole), []⟩ : M_frac_Frac), (⟨(⟨false, []⟩ : M_whole_Whole), []⟩ : M_frac_Frac), (⟨(⟨false, []⟩ : M_whole_Whole), []⟩ : M_frac_Frac), (⟨(⟨false, []⟩ : M_whole_Whole), []⟩ : M_frac_Frac), (⟨(⟨false, []⟩ : M_whole_Whole), []⟩ : M_frac_Frac), 0, 0⟩ : M_pace_Rules), (⟨(⟨false, []⟩ : M_whole_Whole), []⟩ : M_frac_Frac), (⟨(⟨false, []⟩ : M_whole_Whole), []⟩ : M_frac_Frac), (⟨(⟨false, []⟩ : M_whole_Whole), []⟩ : M_frac_Frac), []⟩ : M_adapt_Task), [], [], [], (⟨(⟨false, []⟩ : M_whole_Whole), []⟩ : M_frac_Frac), 0⟩ : M_engine_Request), s17.where_, s17.f))
    else (
      some ((⟨r5.1, r5.2.1, (⟨(⟨(⟨[], [], 0, 0⟩ : M_tape_Tape), (⟨[], [], [], [], []⟩ : M_scheme_Scheme), [], 0⟩ : M_step_Problem), (⟨(⟨(⟨false, []⟩ : M_whole_Whole), []⟩ : M_frac_Frac), (⟨(⟨false, []⟩ : M_whole_Whole), []⟩ : M_frac_Frac), (⟨(⟨false, []⟩ : M_whole_Whole), []⟩ : M_frac_Frac), (⟨(⟨false, []⟩ : M_whole_Whole), []⟩ : M_frac_Frac), (⟨(⟨false, []⟩ : M_whole_Whole), []⟩ : M_frac_Frac), 0, 0⟩ : M_pace_Rules), (⟨(⟨false, []⟩ : M_whole_Whole), []⟩ : M_frac_Frac), (⟨(⟨false, []⟩ : M_whole_Whole), []⟩ : M_frac_Frac), (⟨(⟨false, []⟩ : M_whole_Whole), []⟩ : M_frac_Frac), []⟩ : M_adapt_Task), [], [], [], (⟨(⟨false, []⟩ : M_whole_Whole), []⟩ : M_frac_Frac), 0⟩ : M_engine_Request), ([] : List UInt8), (⟨0, 0, 0, 0⟩ : M_api_Fault))))
def m_engine_piece (x0 : (List UInt8)) (x1 : (List UInt8)) : Option (M_wire_Piece) :=
  some (⟨x0, x1⟩ : M_wire_Piece)
def m_wire_kinds  : Option ((List (List UInt8))) :=
  (some (([([111, 107] : List UInt8), ([112, 97, 114, 115, 101] : List UInt8), ([102, 111, 114, 109] : List UInt8), ([112, 111, 108, 101] : List UInt8), ([117, 110, 100, 101, 114, 102, 108, 111, 119] : List UInt8), ([115, 116, 101, 112, 115] : List UInt8), ([98, 105, 116, 115] : List UInt8), ([114, 97, 110, 103, 101] : List UInt8), ([115, 104, 117, 116] : List UInt8)] : List (List UInt8)))).bind fun z1 =>
  some z1
def m_wire_Fault (x0 : M_api_Fault) : Option ((List UInt8)) :=
  (m_wire_kinds ).bind fun r1 =>
  (getI r1 (0 : Int)).bind fun y3 =>
  jn (fun (j10 : ((List UInt8)) → Option _) =>
    jn (fun (j13 : (Bool) → Option _) =>
      bif decide ((0 : Int) < x0.Kind) then (
        j13 (decide (x0.Kind < (r1.length : Int))))
      else (
        j13 false)) (fun (s15 : Bool) =>
      bif s15 then (
        (getI r1 x0.Kind).bind fun y16 =>
        j10 y16)
      else (
        j10 y3))) (fun (s12 : (List UInt8)) =>
    (rangeL (fun (_ : Nat) (x41 : Int) (s39 : (List UInt8)) =>
      (m_strconv_Itoa x41).bind fun r43 =>
      (catS ([32] : List UInt8) r43).bind fun y45 =>
      (catS s39 y45).bind fun y47 =>
      some (Lp.go y47)) ([x0.Step, x0.Stage, x0.At] : List Int) 0 s12).bind (lpK fun (s49 : (List UInt8)) =>
    some s49))
def m_wire_Pack (n : Nat) (x0 : (List M_wire_Piece)) : Option ((List UInt8) × Bool) :=
  (m_wire_may n x0).bind fun r1 =>
  bif !r1 then (
    some (([] : List UInt8), false))
  else (
    (rangeL (fun (_ : Nat) (x42 : M_wire_Piece) (s40 : (List UInt8)) =>
      (catS x42.Name ([61] : List UInt8)).bind fun y44 =>
      (m_strconv_Itoa (x42.Text.length : Int)).bind fun r46 =>
      (catS y44 r46).bind fun y48 =>
      (catS y48 ([58] : List UInt8)).bind fun y50 =>
      (catS y50 x42.Text).bind fun y52 =>
      (catS y52 ([59] : List UInt8)).bind fun y54 =>
      (appM 1 s40 y54).bind fun y56 =>
      some (Lp.go y56)) x0 0 ([] : List UInt8)).bind (lpK fun (s58 : (List UInt8)) =>
    some (s58, true)))
def m_engine_reply (me_engine_bad : M_api_Fault → (List UInt8) → Option ((List UInt8))) (n : Nat) (x0 : M_api_Fault) (x1 : (List M_wire_Piece)) : Option ((List UInt8)) :=
  (m_wire_Fault x0).bind fun r1 =>
  (m_engine_piece ([102, 97, 117, 108, 116] : List UInt8) r1).bind fun r3 =>
  (appM 32 ([r3] : List M_wire_Piece) x1).bind fun y5 =>
  (m_wire_Pack n y5).bind fun r7 =>
  bif !r7.2 then (
    (me_engine_bad (⟨(6 : Int), 0, 0, 0⟩ : M_api_Fault) ([] : List UInt8)).bind fun r9 =>
    some r9)
  else (
    some r7.1)
def m_engine_bad : Nat → M_api_Fault → (List UInt8) → Option ((List UInt8))
  | 0, _, _ => none
  | n + 1, x0, x1 =>
    (m_engine_piece ([112, 105, 101, 99, 101] : List UInt8) x1).bind fun r1 =>
    (m_engine_reply (m_engine_bad n) n x0 ([r1] : List M_wire_Piece)).bind fun r3 =>
    some r3
def m_engine_written_no (x0 : M_engine_Request) : Option ((List UInt8)) :=
  none
def m_adapt_Solve_no (x0 : M_adapt_Task) : Option (M_past_History × M_api_Fault) :=
  none
def m_engine_told_no (x0 : M_engine_Request) (x1 : M_past_History) : Option ((List UInt8)) :=
  none
def m_engine_Do (n : Nat) (x0 : (List UInt8)) : Option ((List UInt8)) :=
  (m_engine_Read n x0).bind fun r1 =>
  bif !(eqb_api_Fault r1.2.2 (⟨0, 0, 0, 0⟩ : M_api_Fault)) then (
    (m_engine_bad n r1.2.2 r1.2.1).bind fun r3 =>
    some r3)
  else (
    bif decide (r1.1.Do = ([115, 104, 111, 119] : List UInt8)) then (
      (m_engine_written_no r1.1).bind fun r5 =>
      some r5)
    else (
      (m_adapt_Solve_no r1.1.Task).bind fun r7 =>
      bif !(eqb_api_Fault r7.2 (⟨0, 0, 0, 0⟩ : M_api_Fault)) then (
        (m_engine_bad n r7.2 ([] : List UInt8)).bind fun r9 =>
        some r9)
      else (
        (m_engine_told_no r1.1 r7.1).bind fun r11 =>
        some r11)))
def m___desk_Desk__Work (n : Nat) (x0_in__c : (Chn (List UInt8))) (x0_in__shut : Bool) (x0_out_c : (Chn (List UInt8))) (x0_out_shut : Bool) (x0_asked : Int) (x0_answered : Int) (x0_closed : Bool) : Option (Bool × Int × Int × Bool × (Chn (List UInt8)) × (Chn (List UInt8))) :=
  (m___desk_Line_string___Waiting x0_out_c x0_out_shut).bind fun r1 =>
  (m___desk_Line_string___Room x0_out_c x0_out_shut).bind fun r3 =>
  bif decide (r1 = r3) then (
    some (false, x0_asked, x0_answered, x0_closed, x0_in__c, x0_out_c))
  else (
    (m___desk_Line_string___Take x0_in__c x0_in__shut).bind fun r5 =>
    bif !r5.2.1 then (
      some (false, x0_asked, x0_answered, x0_closed, r5.2.2, x0_out_c))
    else (
      (m_engine_Do n r5.1).bind fun r7 =>
      (m___desk_Line_string___Put x0_out_c x0_out_shut r7).bind fun r9 =>
      some (r9.1, x0_asked, wrap64 (x0_answered + (1 : Int)), x0_closed, r5.2.2, r9.2)))
def m___desk_Desk__Fetch (x0_in__c : (Chn (List UInt8))) (x0_in__shut : Bool) (x0_out_c : (Chn (List UInt8))) (x0_out_shut : Bool) (x0_asked : Int) (x0_answered : Int) (x0_closed : Bool) : Option ((List UInt8) × Bool × (Chn (List UInt8))) :=
  (m___desk_Line_string___Take x0_out_c x0_out_shut).bind fun r1 =>
  some (r1.1, r1.2.1, r1.2.2)
def m_retrospectlaw50_works (n : Nat)  : Option (Bool) :=
  (m_desk_New (1 : Int)).bind fun r1 =>
  (m___desk_Desk__Ask r1.1 r1.2.1 r1.2.2.1 r1.2.2.2.1 r1.2.2.2.2.1 r1.2.2.2.2.2.1 r1.2.2.2.2.2.2 ([120] : List UInt8)).bind fun r3 =>
  (m___desk_Desk__Ask r3.2.2.2.2 r1.2.1 r1.2.2.1 r1.2.2.2.1 r3.2.1 r3.2.2.1 r3.2.2.2.1 ([121] : List UInt8)).bind fun r5 =>
  (m___desk_Desk__Work n r5.2.2.2.2 r1.2.1 r1.2.2.1 r1.2.2.2.1 r5.2.1 r5.2.2.1 r5.2.2.2.1).bind fun r7 =>
  (m___desk_Desk__Fetch r7.2.2.2.2.1 r1.2.1 r7.2.2.2.2.2 r1.2.2.2.1 r7.2.1 r7.2.2.1 r7.2.2.2.1).bind fun r9 =>
  jn (fun (j12 : (Bool) → Option _) =>
    bif (eqb_api_Fault r3.1 (⟨0, 0, 0, 0⟩ : M_api_Fault)) then (
      bif (eqb_api_Fault r5.1 (⟨(7 : Int), 0, 0, (1 : Int)⟩ : M_api_Fault)) then (
        bif r7.1 then (
          bif r9.2.1 then (
            (some (decide (r9.1 = ([102, 97, 117, 108, 116, 61, 49, 49, 58, 112, 97, 114, 115, 101, 32, 48, 32, 48, 32, 49, 59, 112, 105, 101, 99, 101, 61, 48, 58, 59] : List UInt8)))).bind fun z15 =>
            j12 z15)
          else (
            j12 false))
        else (
          j12 false))
      else (
        j12 false))
    else (
      j12 false)) (fun (s14 : Bool) =>
    some s14)
def m_retrospectref50_Room (x0 : Int) : Option (Int) :=
  some (min (max x0 (1 : Int)) (200 : Int))
def m___desk_Line_int___Take (x0_c : (Chn Int)) (x0_shut : Bool) : Option (Int × Bool × (Chn Int)) :=
  (grd (chOk okI x0_c)).bind fun _ =>
  chHd x0_c (fun y2 t3 =>
    bif decide ((0 : Int) = (0 : Int)) then (
      some (y2, true, ({ x0_c with buf := t3, rcvd := x0_c.rcvd + 1 } : (Chn Int))))
    else (
      some ((0 : Int), false, ({ x0_c with buf := t3, rcvd := x0_c.rcvd + 1 } : (Chn Int))))) (bif x0_c.sh then (
    bif decide ((0 : Int) = (0 : Int)) then (
      some ((0 : Int), false, x0_c))
    else (
      some ((0 : Int), false, x0_c)))
  else (
    bif decide ((-1 : Int) = (0 : Int)) then (
      some ((0 : Int), false, x0_c))
    else (
      some ((0 : Int), false, x0_c))))
def m___desk_Line_int___Shut (x0_c : (Chn Int)) (x0_shut : Bool) : Option (Bool × Bool × (Chn Int)) :=
  bif x0_shut then (
    some (false, x0_shut, x0_c))
  else (
    (grd (!x0_c.sh)).bind fun _ =>
    some (true, true, ({ x0_c with sh := true } : (Chn Int))))
def m___desk_Line_int___Put (x0_c : (Chn Int)) (x0_shut : Bool) (x1 : Int) : Option (Bool × (Chn Int)) :=
  bif x0_shut then (
    some (false, x0_c))
  else (
    (grd (!x0_c.sh)).bind fun _ =>
    bif decide (x0_c.buf.length < x0_c.cap) then (
      bif decide ((0 : Int) = (0 : Int)) then (
        some (true, ({ x0_c with buf := x0_c.buf ++ [x1], sent := x0_c.sent + 1 } : (Chn Int))))
      else (
        some (false, ({ x0_c with buf := x0_c.buf ++ [x1], sent := x0_c.sent + 1 } : (Chn Int)))))
    else (
      bif decide ((-1 : Int) = (0 : Int)) then (
        some (true, x0_c))
      else (
        some (false, x0_c))))
def m___desk_Line_int___Waiting (x0_c : (Chn Int)) (x0_shut : Bool) : Option (Int) :=
  (grd (Nat.ble x0_c.buf.length 1000000)).bind fun _ =>
  some (x0_c.buf.length : Int)
def m___desk_Line_int___Room (x0_c : (Chn Int)) (x0_shut : Bool) : Option (Int) :=
  (grd (Nat.ble x0_c.cap 1000000)).bind fun _ =>
  some (x0_c.cap : Int)
def m_retrospectlaw50_DeskLines (n : Nat) (x0 : Int) (x1 : (List M_retrospectlaw50_Op)) : Option (Bool) :=
  (m_desk_NewLine_int_ x0).bind fun r1 =>
  bif decide ((80 : Int) < (x1.length : Int)) then (
    (m_retrospectlaw50_works n ).bind fun r5 =>
    some r5)
  else (
    (m_retrospectref50_Room x0).bind fun r7 =>
    (loopM (fun (s146 : (Chn Int) × Bool × (List Int) × Bool × Int) =>
      bif decide (s146.2.2.2.2 < (x1.length : Int)) then (
        (getI x1 s146.2.2.2.2).bind fun y147 =>
        jn (fun (j171 : ((Chn Int) × Bool × (List Int) × Bool) → Option _) =>
          bif decide (y147.Kind = (2 : Int)) then (
            (m___desk_Line_int___Take s146.1 s146.2.1).bind fun r174 =>
            jn (fun (j178 : (Bool) → Option _) =>
              bif (r174.2.1 != (decide ((0 : Int) < (s146.2.2.1.length : Int)))) then (
                j178 true)
              else (
                bif r174.2.1 then (
                  (getI s146.2.2.1 (0 : Int)).bind fun y181 =>
                  bif !decide (r174.1 = y181) then (
                    j178 true)
                  else (
                    bif !r174.2.1 then (
                      j178 (!decide (r174.1 = (0 : Int))))
                    else (
                      j178 false)))
                else (
                  bif !r174.2.1 then (
                    j178 (!decide (r174.1 = (0 : Int))))
                  else (
                    j178 false)))) (fun (s180 : Bool) =>
              bif s180 then (
                some (Lp.out (Lp.out (false))))
              else (
                bif r174.2.1 then (
                  (sub s146.2.2.1 (1 : Int) (s146.2.2.1.length : Int)).bind fun y183 =>
                  j171 (r174.2.2, s146.2.1, y183, s146.2.2.2.1))
                else (
                  j171 (r174.2.2, s146.2.1, s146.2.2.1, s146.2.2.2.1)))))
          else (
            bif decide (y147.Kind = (3 : Int)) then (
              (m___desk_Line_int___Shut s146.1 s146.2.1).bind fun r185 =>
              bif (r185.1 == s146.2.2.2.1) then (
                some (Lp.out (Lp.out (false))))
              else (
                j171 (r185.2.2, r185.2.1, s146.2.2.1, true)))
            else (
              (m___desk_Line_int___Put s146.1 s146.2.1 y147.X).bind fun r187 =>
              jn (fun (j189 : (Bool) → Option _) =>
                bif !s146.2.2.2.1 then (
                  j189 (r187.1 != (decide ((s146.2.2.1.length : Int) < r7))))
                else (
                  j189 (r187.1 != false))) (fun (s191 : Bool) =>
                bif s191 then (
                  some (Lp.out (Lp.out (false))))
                else (
                  bif r187.1 then (
                    (appM 8 ([] : List Int) s146.2.2.1).bind fun y192 =>
                    (appM 8 y192 ([y147.X] : List Int)).bind fun y194 =>
                    j171 (r187.2, s146.2.1, y194, s146.2.2.2.1))
                  else (
                    j171 (r187.2, s146.2.1, s146.2.2.1, s146.2.2.2.1))))))) (fun (s173 : (Chn Int) × Bool × (List Int) × Bool) =>
          jn (fun (j200 : (Bool) → Option _) =>
            (m___desk_Line_int___Waiting s173.1 s173.2.1).bind fun r203 =>
            bif !decide (r203 = (s173.2.2.1.length : Int)) then (
              j200 true)
            else (
              (m___desk_Line_int___Room s173.1 s173.2.1).bind fun r205 =>
              j200 (!decide (r205 = r7)))) (fun (s202 : Bool) =>
            bif s202 then (
              some (Lp.out (Lp.out (false))))
            else (
              some (Lp.go (s173.1, s173.2.1, s173.2.2.1, s173.2.2.2, wrap64 (s146.2.2.2.2 + (1 : Int))))))))
      else (
        some (Lp.out (Lp.go ())))) n (r1.1, r1.2, ([] : List Int), false, (0 : Int))).bind (lpK fun (_ : Unit) =>
    (m_retrospectlaw50_works n ).bind fun r207 =>
    some r207))
end Go.Proofs.YtcdeknlejjjmlaaGreatDoor
