import Derived.Test.YtpomhkkhdojpiaaDoorLibM
set_option maxRecDepth 100000
set_option maxHeartbeats 4000000
namespace Go.Proofs.YtpomhkkhdojpiaaDoor
open Go Go.RowKit
structure M_tree_Node where
  Op : Int
  I : Int
  N : (List Nat)
structure M_tree_Let where
  Name : (List UInt8)
  Code : (List M_tree_Node)
structure M_tree_Field where
  Lets : (List M_tree_Let)
  Outs : (List (List M_tree_Node))
structure M_api_Fault where
  Kind : Int
  Step : Int
  Stage : Int
  At : Int
structure M_lex_Word where
  Kind : Int
  Text : (List UInt8)
  At : Int
structure M_parse_reader where
  words : (List M_lex_Word)
  at_ : Int
  end_ : Int
  deep : Int
  names : (List (List UInt8))
def eqb_api_Fault (x y : M_api_Fault) : Bool := ((x.Kind == y.Kind) && ((x.Step == y.Step) && ((x.Stage == y.Stage) && ((x.At == y.At) && true))))
structure M_tree_plain where
  op : Int
  i : Int
def eqb_tree_plain (x y : M_tree_plain) : Bool := ((x.op == y.op) && ((x.i == y.i) && true))
structure M_show_piece where
  text : (List UInt8)
  rank : Int
structure M_A9_u8 where
  a0 : Nat
  a1 : Nat
  a2 : Nat
  a3 : Nat
  a4 : Nat
  a5 : Nat
  a6 : Nat
  a7 : Nat
  a8 : Nat
def ofl_A9_u8 : List Nat → M_A9_u8
  | [a0, a1, a2, a3, a4, a5, a6, a7, a8] => ⟨a0, a1, a2, a3, a4, a5, a6, a7, a8⟩
  | _ => (⟨0, 0, 0, 0, 0, 0, 0, 0, 0⟩ : M_A9_u8)
structure M_retrospectref17_Node where
  Op : Int
  I : Int
  N : (List Nat)
structure M_retrospectref17_Let where
  Name : (List UInt8)
  Code : (List M_retrospectref17_Node)
structure M_retrospectref17_Field where
  Lets : (List M_retrospectref17_Let)
  Outs : (List (List M_retrospectref17_Node))
structure M_A3_i64 where
  a0 : Int
  a1 : Int
  a2 : Int
structure M_retrospectref16_Word where
  Kind : Int
  Text : (List UInt8)
  At : Int
structure M_retrospectref09_Frac where
  Neg : Bool
  N : (List Nat)
  D : (List Nat)
structure M_retrospectref08_Whole where
  Neg : Bool
  Abs : (List Nat)
def B_S_u32 (xs : List Nat) : Prop := xs.length ≤ maxLen ∧ ∀ x ∈ xs, (x < 4294967296)
def B_retrospectref17_Node (x : M_retrospectref17_Node) : Prop := (-9223372036854775808 ≤ x.Op ∧ x.Op ≤ 9223372036854775807) ∧ (-9223372036854775808 ≤ x.I ∧ x.I ≤ 9223372036854775807) ∧ B_S_u32 x.N ∧ True
def B_S_retrospectref17_Node (xs : List M_retrospectref17_Node) : Prop := xs.length ≤ maxLen ∧ ∀ x ∈ xs, B_retrospectref17_Node x
def B_retrospectref17_Let (x : M_retrospectref17_Let) : Prop := (x.Name.length ≤ maxLen) ∧ B_S_retrospectref17_Node x.Code ∧ True
def B_S_retrospectref17_Let (xs : List M_retrospectref17_Let) : Prop := xs.length ≤ maxLen ∧ ∀ x ∈ xs, B_retrospectref17_Let x
def B_S_S_retrospectref17_Node (xs : List (List M_retrospectref17_Node)) : Prop := xs.length ≤ maxLen ∧ ∀ x ∈ xs, B_S_retrospectref17_Node x
def B_retrospectref17_Field (x : M_retrospectref17_Field) : Prop := B_S_retrospectref17_Let x.Lets ∧ B_S_S_retrospectref17_Node x.Outs ∧ True
def B_S_string (xs : List (List UInt8)) : Prop := xs.length ≤ maxLen ∧ ∀ x ∈ xs, (x.length ≤ maxLen)
def m_lex_skip (n : Nat) (x0 : (List UInt8)) (x1 : Int) : Option (Int) :=
  (loopM (fun (s23 : Int) =>
    bif decide (s23 < (x0.length : Int)) then (
      (getS x0 s23).bind fun y24 =>
      jn (fun (j26 : (Bool) → Option _) =>
        bif decide (y24 = 32) then (
          j26 (decide (y24 = 32)))
        else (
          bif decide (y24 = 9) then (
            j26 (decide (y24 = 9)))
          else (
            bif decide (y24 = 10) then (
              j26 (decide (y24 = 10)))
            else (
              j26 (decide (y24 = 13)))))) (fun (s28 : Bool) =>
        bif s28 then (
          some (Lp.go (wrap64 (s23 + (1 : Int)))))
        else (
          bif decide (y24 = 35) then (
            (sub x0 s23 (x0.length : Int)).bind fun y29 =>
            (m_strings_Cut y29 ([10] : List UInt8)).bind fun r31 =>
            some (Lp.go (wrap64 (s23 + (r31.1.length : Int)))))
          else (
            some (Lp.out (Lp.out (s23)))))))
    else (
      some (Lp.out (Lp.go s23)))) n x1).bind (lpK fun (t21 : Int) =>
  some t21)
def m_lex_digit (x0 : Nat) : Option (Bool) :=
  jn (fun (j1 : (Bool) → Option _) =>
    bif decide (48 ≤ x0) then (
      j1 (decide (x0 ≤ 57)))
    else (
      j1 false)) (fun (s3 : Bool) =>
    some s3)
def m_lex_letter (x0 : Nat) : Option (Bool) :=
  jn (fun (j1 : (Bool) → Option _) =>
    bif decide (97 ≤ x0) then (
      bif decide (x0 ≤ 122) then (
        j1 true)
      else (
        bif decide (65 ≤ x0) then (
          bif decide (x0 ≤ 90) then (
            j1 true)
          else (
            j1 (decide (x0 = 95))))
        else (
          j1 (decide (x0 = 95)))))
    else (
      bif decide (65 ≤ x0) then (
        bif decide (x0 ≤ 90) then (
          j1 true)
        else (
          j1 (decide (x0 = 95))))
      else (
        j1 (decide (x0 = 95))))) (fun (s3 : Bool) =>
    some s3)
def m_lex_sign (n : Nat) (x0 : Nat) : Option (Bool) :=
  (loopM (fun (s9 : Nat) =>
    bif decide (s9 < ([43, 45, 42, 47, 94, 40, 41, 91, 93, 44, 59, 61] : List UInt8).length) then (
      (some (((decR ([43, 45, 42, 47, 94, 40, 41, 91, 93, 44, 59, 61] : List UInt8) s9 : Nat) : Int))).bind fun z11 =>
      bif decide ((Int.toNat (z11 % 256)) = x0) then (
        some (Lp.out (Lp.out (true))))
      else (
        some (Lp.go (s9 + decW ([43, 45, 42, 47, 94, 40, 41, 91, 93, 44, 59, 61] : List UInt8) s9))))
    else (
      some (Lp.out (Lp.go ())))) n 0).bind (lpK fun (_ : Unit) =>
  some false)
def m_lex_kind (n : Nat) (x0 : Nat) : Option (Int) :=
  (m_lex_digit x0).bind fun r1 =>
  bif r1 then (
    some (1 : Int))
  else (
    (m_lex_letter x0).bind fun r3 =>
    bif r3 then (
      some (2 : Int))
    else (
      (m_lex_sign n x0).bind fun r5 =>
      bif r5 then (
        some (3 : Int))
      else (
        some (0 : Int))))
def m_lex_goes (x0 : Int) (x1 : Nat) : Option (Bool) :=
  jn (fun (j11 : (Bool) → Option _) =>
    bif decide (x0 = (1 : Int)) then (
      (m_lex_digit x1).bind fun r14 =>
      bif r14 then (
        j11 true)
      else (
        bif decide (x0 = (2 : Int)) then (
          (m_lex_letter x1).bind fun r16 =>
          bif r16 then (
            j11 true)
          else (
            (m_lex_digit x1).bind fun r18 =>
            j11 r18))
        else (
          j11 false)))
    else (
      bif decide (x0 = (2 : Int)) then (
        (m_lex_letter x1).bind fun r20 =>
        bif r20 then (
          j11 true)
        else (
          (m_lex_digit x1).bind fun r22 =>
          j11 r22))
      else (
        j11 false))) (fun (s13 : Bool) =>
    some s13)
def m_lex_first (n : Nat) (x0 : (List UInt8)) (x1 : Int) : Option (Int) :=
  (loopM (fun (s27 : Int) =>
    jn (fun (j32 : (Bool) → Option _) =>
      bif decide (s27 < (x0.length : Int)) then (
        (getS x0 s27).bind fun y35 =>
        (m_lex_goes x1 y35).bind fun r37 =>
        j32 r37)
      else (
        j32 false)) (fun (s34 : Bool) =>
      bif s34 then (
        some (Lp.go (wrap64 (s27 + (1 : Int)))))
      else (
        some (Lp.out s27)))) n (1 : Int)).bind fun (t25 : Int) =>
  some t25
def m_lex_most (x0 : Int) : Option (Int) :=
  bif decide (x0 = (1 : Int)) then (
    some (60 : Int))
  else (
    bif decide (x0 = (2 : Int)) then (
      some (12 : Int))
    else (
      some (1 : Int)))
def m_lex_Scan (n : Nat) (x0 : (List UInt8)) : Option ((List M_lex_Word) × M_api_Fault) :=
  bif decide ((4000 : Int) < (x0.length : Int)) then (
    some (([] : List M_lex_Word), (⟨(1 : Int), 0, 0, (4000 : Int)⟩ : M_api_Fault)))
  else (
    (m_lex_skip n x0 (0 : Int)).bind fun r1 =>
    (loopM (fun (s43 : (List M_lex_Word) × Int) =>
      bif decide (s43.2 < (x0.length : Int)) then (
        (getS x0 s43.2).bind fun y44 =>
        (m_lex_kind n y44).bind fun r46 =>
        bif decide (r46 = (0 : Int)) then (
          some (Lp.out (Lp.out ((([] : List M_lex_Word), (⟨(1 : Int), 0, 0, s43.2⟩ : M_api_Fault))))))
        else (
          (sub x0 s43.2 (x0.length : Int)).bind fun y48 =>
          (m_lex_first n y48 r46).bind fun r50 =>
          (m_lex_most r46).bind fun r52 =>
          bif decide (r52 < r50) then (
            (m_lex_most r46).bind fun r54 =>
            some (Lp.out (Lp.out ((([] : List M_lex_Word), (⟨(1 : Int), 0, 0, wrap64 (s43.2 + r54)⟩ : M_api_Fault))))))
          else (
            (sub x0 s43.2 (wrap64 (s43.2 + r50))).bind fun y56 =>
            (appM 32 s43.1 ([(⟨r46, y56, s43.2⟩ : M_lex_Word)] : List M_lex_Word)).bind fun y58 =>
            (m_lex_skip n x0 (wrap64 (s43.2 + r50))).bind fun r60 =>
            some (Lp.go (y58, r60)))))
      else (
        some (Lp.out (Lp.go s43.1)))) n (([] : List M_lex_Word), r1)).bind (lpK fun (t41 : (List M_lex_Word)) =>
    some (t41, (⟨0, 0, 0, 0⟩ : M_api_Fault))))
def m_parse_begin (n : Nat) (x0 : (List UInt8)) (x1 : (List (List UInt8))) : Option ((List M_lex_Word) × Int × Int × Int × (List (List UInt8)) × M_api_Fault) :=
  (m_lex_Scan n x0).bind fun r1 =>
  (appM 16 ([] : List (List UInt8)) x1).bind fun y3 =>
  some (r1.1, 0, (x0.length : Int), 0, y3, r1.2)
def m___parse_reader__next (x0_words : (List M_lex_Word)) (x0_at_ : Int) (x0_end_ : Int) (x0_deep : Int) (x0_names : (List (List UInt8))) : Option (M_lex_Word) :=
  bif decide (x0_at_ < (x0_words.length : Int)) then (
    (getI x0_words x0_at_).bind fun y1 =>
    some y1)
  else (
    some (⟨0, [], 0⟩ : M_lex_Word))
def m___parse_reader__has (x0_words : (List M_lex_Word)) (x0_at_ : Int) (x0_end_ : Int) (x0_deep : Int) (x0_names : (List (List UInt8))) (x1 : (List UInt8)) : Option (Bool × (List M_lex_Word) × Int × Int × Int) :=
  (m___parse_reader__next x0_words x0_at_ x0_end_ x0_deep x0_names).bind fun r1 =>
  bif !decide (r1.Text = x1) then (
    some (false, x0_words, x0_at_, x0_end_, x0_deep))
  else (
    some (true, x0_words, wrap64 (x0_at_ + (1 : Int)), x0_end_, x0_deep))
def m_parse_reserved (x0 : (List UInt8)) : Option (Bool) :=
  jn (fun (j1 : (Bool) → Option _) =>
    bif decide (x0 = ([116] : List UInt8)) then (
      j1 true)
    else (
      bif decide (x0 = ([121] : List UInt8)) then (
        j1 true)
      else (
        bif decide (x0 = ([112] : List UInt8)) then (
          j1 true)
        else (
          j1 (decide (x0 = ([108, 101, 116] : List UInt8))))))) (fun (s3 : Bool) =>
    some s3)
def m___parse_reader__fail (x0_words : (List M_lex_Word)) (x0_at_ : Int) (x0_end_ : Int) (x0_deep : Int) (x0_names : (List (List UInt8))) : Option (Except M_api_Fault (Unit)) :=
  jn (fun (j3 : (Int) → Option _) =>
    bif decide (x0_at_ < (x0_words.length : Int)) then (
      (getI x0_words x0_at_).bind fun y6 =>
      j3 y6.At)
    else (
      j3 x0_end_)) (fun (s5 : Int) =>
    some (Except.error (⟨(1 : Int), 0, 0, s5⟩ : M_api_Fault)))
def m___parse_reader__name (x0_words : (List M_lex_Word)) (x0_at_ : Int) (x0_end_ : Int) (x0_deep : Int) (x0_names : (List (List UInt8))) : Option (Except M_api_Fault ((List UInt8) × (List M_lex_Word) × Int × Int × Int)) :=
  (m___parse_reader__next x0_words x0_at_ x0_end_ x0_deep x0_names).bind fun r1 =>
  jn (fun (j12 : (Unit) → Option _) =>
    jn (fun (j17 : (Bool) → Option _) =>
      bif !decide (r1.Kind = (2 : Int)) then (
        j17 true)
      else (
        (m_parse_reserved r1.Text).bind fun r20 =>
        j17 r20)) (fun (s19 : Bool) =>
      bif s19 then (
        (m___parse_reader__fail x0_words x0_at_ x0_end_ x0_deep x0_names).bind (exK (fun e =>
          some (Except.error e)) fun _ =>
        j12 ()))
      else (
        j12 ()))) (fun (_ : Unit) =>
    some (Except.ok (r1.Text, x0_words, wrap64 (x0_at_ + (1 : Int)), x0_end_, x0_deep)))
def m___parse_reader__need (x0_words : (List M_lex_Word)) (x0_at_ : Int) (x0_end_ : Int) (x0_deep : Int) (x0_names : (List (List UInt8))) (x1 : (List UInt8)) : Option (Except M_api_Fault ((List M_lex_Word) × Int × Int × Int)) :=
  (m___parse_reader__has x0_words x0_at_ x0_end_ x0_deep x0_names x1).bind fun r1 =>
  bif !r1.1 then (
    (m___parse_reader__fail r1.2.1 r1.2.2.1 r1.2.2.2.1 r1.2.2.2.2 x0_names).bind (exK (fun e =>
      some (Except.error e)) fun _ =>
    some (Except.ok (r1.2.1, r1.2.2.1, r1.2.2.2.1, r1.2.2.2.2))))
  else (
    some (Except.ok (r1.2.1, r1.2.2.1, r1.2.2.2.1, r1.2.2.2.2)))
def m_digits_wrong (n : Nat) (x0 : (List UInt8)) : Option (Int) :=
  (loopM (fun (s27 : Int) =>
    bif decide (s27 < (x0.length : Int)) then (
      jn (fun (j32 : (Bool) → Option _) =>
        (getS x0 s27).bind fun y35 =>
        bif decide (y35 < 48) then (
          j32 true)
        else (
          (getS x0 s27).bind fun y37 =>
          bif decide (57 < y37) then (
            j32 true)
          else (
            j32 (decide (s27 = (60 : Int)))))) (fun (s34 : Bool) =>
        bif s34 then (
          some (Lp.out (Lp.out (s27))))
        else (
          some (Lp.go (wrap64 (s27 + (1 : Int)))))))
    else (
      some (Lp.out (Lp.go ())))) n (0 : Int)).bind (lpK fun (_ : Unit) =>
  bif decide (x0 = ([] : List UInt8)) then (
    some (0 : Int))
  else (
    some (-1 : Int)))
def m_limb_Mul (x0 : Nat) (x1 : Nat) (x2 : Nat) (x3 : Nat) : Option (Nat × Nat) :=
  (some (((((((x0 * x1) % 18446744073709551616) + x2) % 18446744073709551616) + x3) % 18446744073709551616))).bind fun z1 =>
  some (((z1 / 2 ^ 32) % 4294967296), (z1 % 4294967296))
def m_prod_row (x0 : (List Nat)) (x1 : Int) (x2 : (List Nat)) (x3 : Nat) (x4 : Nat) : Option ((List Nat)) :=
  (rangeL (fun (i23 : Nat) (x24 : Nat) (s22 : (List Nat) × Nat) =>
    (getI s22.1 (wrap64 (x1 + (i23 : Int)))).bind fun y26 =>
    (m_limb_Mul x3 x24 y26 s22.2).bind fun r28 =>
    (getI s22.1 (wrap64 (x1 + (i23 : Int)))).bind fun _ =>
    some (Lp.go ((List.set s22.1 (Int.toNat (wrap64 (x1 + (i23 : Int)))) r28.2), r28.1))) x2 0 (x0, x4)).bind (lpK fun (s32 : (List Nat) × Nat) =>
  (getI s32.1 (wrap64 (x1 + (x2.length : Int)))).bind fun _ =>
  some (List.set s32.1 (Int.toNat (wrap64 (x1 + (x2.length : Int)))) s32.2))
def m_nat_trim (n : Nat) (x0 : (List Nat)) : Option ((List Nat)) :=
  (loopM (fun (s19 : Int) =>
    jn (fun (j22 : (Bool) → Option _) =>
      bif decide ((0 : Int) < s19) then (
        (getI x0 (wrap64 (s19 - (1 : Int)))).bind fun y25 =>
        j22 (decide (y25 = 0)))
      else (
        j22 false)) (fun (s24 : Bool) =>
      bif s24 then (
        some (Lp.go (wrap64 (s19 - (1 : Int)))))
      else (
        some (Lp.out s19)))) n (x0.length : Int)).bind fun (t17 : Int) =>
  (sub x0 (0 : Int) t17).bind fun y27 =>
  some y27
def m_nat_fresh (x0 : (List Nat)) (x1 : Int) : Option ((List Nat)) :=
  (mkM 4 (0 : Nat) (wrap64 ((x0.length : Int) + x1))).bind fun y1 =>
  some (cpyL y1 x0)
def m_nat_Norm (n : Nat) (x0 : (List Nat)) : Option ((List Nat)) :=
  (m_nat_trim n x0).bind fun r1 =>
  (m_nat_fresh r1 (0 : Int)).bind fun r3 =>
  some r3
def m_prod_Word (n : Nat) (x0 : (List Nat)) (x1 : Nat) (x2 : Nat) : Option ((List Nat)) :=
  (mkM 4 (0 : Nat) (wrap64 ((x0.length : Int) + (1 : Int)))).bind fun y1 =>
  (m_prod_row y1 (0 : Int) x0 x1 x2).bind fun r3 =>
  (m_nat_Norm n r3).bind fun r5 =>
  some r5
def m_digits_Read (n : Nat) (x0 : (List UInt8)) : Option ((List Nat) × M_api_Fault) :=
  (m_digits_wrong n x0).bind fun r1 =>
  bif decide ((0 : Int) ≤ r1) then (
    some (([] : List Nat), (⟨(1 : Int), 0, 0, r1⟩ : M_api_Fault)))
  else (
    (loopM (fun (s49 : (List Nat) × Int) =>
      bif decide (s49.2 < (x0.length : Int)) then (
        (loopM (fun (s59 : Int × Nat × Nat × Int) =>
          jn (fun (j60 : (Bool) → Option _) =>
            bif decide (s59.2.2.2 < (9 : Int)) then (
              j60 (decide (s59.1 < (x0.length : Int))))
            else (
              j60 false)) (fun (s62 : Bool) =>
            bif s62 then (
              (getS x0 s59.1).bind fun y63 =>
              (some (((((s59.2.1 * 10) % 4294967296) + ((y63 + 256 - 48) % 256)) % 4294967296))).bind fun z65 =>
              some (Lp.go (wrap64 (s59.1 + (1 : Int)), z65, ((s59.2.2.1 * 10) % 4294967296), wrap64 (s59.2.2.2 + (1 : Int)))))
            else (
              some (Lp.out (s59.1, s59.2.1, s59.2.2.1))))) n (s49.2, 0, 1, (0 : Int))).bind fun (t57 : Int × Nat × Nat) =>
        (m_prod_Word n s49.1 t57.2.2 t57.2.1).bind fun r66 =>
        some (Lp.go (r66, t57.1)))
      else (
        some (Lp.out s49.1))) n (([] : List Nat), (0 : Int))).bind fun (t47 : (List Nat)) =>
    some (t47, (⟨0, 0, 0, 0⟩ : M_api_Fault)))
def m___parse_reader__small (x0_words : (List M_lex_Word)) (x0_at_ : Int) (x0_end_ : Int) (x0_deep : Int) (x0_names : (List (List UInt8))) : Option (Except M_api_Fault (Int × (List M_lex_Word) × Int × Int × Int)) :=
  (m___parse_reader__next x0_words x0_at_ x0_end_ x0_deep x0_names).bind fun r1 =>
  jn (fun (j8 : (Unit) → Option _) =>
    jn (fun (j11 : (Bool) → Option _) =>
      bif !decide (r1.Kind = (1 : Int)) then (
        j11 true)
      else (
        j11 (decide ((3 : Int) < (r1.Text.length : Int))))) (fun (s13 : Bool) =>
      bif s13 then (
        (m___parse_reader__fail x0_words x0_at_ x0_end_ x0_deep x0_names).bind (exK (fun e =>
          some (Except.error e)) fun _ =>
        j8 ()))
      else (
        j8 ()))) (fun (_ : Unit) =>
    (m_strconv_Atoi r1.Text).bind fun r16 =>
    some (Except.ok (r16.1, x0_words, wrap64 (x0_at_ + (1 : Int)), x0_end_, x0_deep)))
def m___parse_reader__component (x0_words : (List M_lex_Word)) (x0_at_ : Int) (x0_end_ : Int) (x0_deep : Int) (x0_names : (List (List UInt8))) (x1 : Int) : Option (Except M_api_Fault ((List M_tree_Node) × (List M_lex_Word) × Int × Int × Int)) :=
  (m___parse_reader__need x0_words (wrap64 (x0_at_ + (1 : Int))) x0_end_ x0_deep x0_names ([91] : List UInt8)).bind (exK (fun e =>
    some (Except.error e)) fun r1 =>
  (m___parse_reader__small r1.1 r1.2.1 r1.2.2.1 r1.2.2.2 x0_names).bind (exK (fun e =>
    some (Except.error e)) fun r3 =>
  (m___parse_reader__need r3.2.1 r3.2.2.1 r3.2.2.2.1 r3.2.2.2.2 x0_names ([93] : List UInt8)).bind (exK (fun e =>
    some (Except.error e)) fun r5 =>
  some (Except.ok (([(⟨x1, r3.1, []⟩ : M_tree_Node)] : List M_tree_Node), r5.1, r5.2.1, r5.2.2.1, r5.2.2.2)))))
def m___parse_reader__open (x0_words : (List M_lex_Word)) (x0_at_ : Int) (x0_end_ : Int) (x0_deep : Int) (x0_names : (List (List UInt8))) : Option (Except M_api_Fault ((List M_lex_Word) × Int × Int × Int)) :=
  jn (fun (j3 : (Int) → Option _) =>
    bif decide (x0_deep = (40 : Int)) then (
      (m___parse_reader__fail x0_words (wrap64 (x0_at_ - (1 : Int))) x0_end_ x0_deep x0_names).bind (exK (fun e =>
        some (Except.error e)) fun _ =>
      j3 (wrap64 (x0_at_ - (1 : Int)))))
    else (
      j3 x0_at_)) (fun (s5 : Int) =>
    some (Except.ok (x0_words, s5, x0_end_, wrap64 (x0_deep + (1 : Int)))))
def m___parse_reader__meant (x0_words : (List M_lex_Word)) (x0_at_ : Int) (x0_end_ : Int) (x0_deep : Int) (x0_names : (List (List UInt8))) (x1 : (List UInt8)) : Option (Int) :=
  (rangeL (fun (i7 : Nat) (x8 : (List UInt8)) (_ : Unit) =>
    bif decide (x8 = x1) then (
      some (Lp.out ((i7 : Int))))
    else (
      some (Lp.go ()))) x0_names 0 ()).bind (lpK fun (_ : Unit) =>
  some (-1 : Int))
def m___parse_reader__atom (me___parse_reader__expr : (List M_lex_Word) → Int → Int → Int → (List (List UInt8)) → Option (Except M_api_Fault ((List M_tree_Node) × (List M_lex_Word) × Int × Int × Int × (List (List UInt8))))) (n : Nat) (x0_words : (List M_lex_Word)) (x0_at_ : Int) (x0_end_ : Int) (x0_deep : Int) (x0_names : (List (List UInt8))) : Option (Except M_api_Fault ((List M_tree_Node) × (List M_lex_Word) × Int × Int × Int × (List (List UInt8)))) :=
  (m___parse_reader__next x0_words x0_at_ x0_end_ x0_deep x0_names).bind fun r1 =>
  bif decide (r1.Kind = (1 : Int)) then (
    (m_digits_Read n r1.Text).bind fun r3 =>
    (m_nat_Norm n r3.1).bind fun r5 =>
    some (Except.ok (([(⟨(1 : Int), 0, r5⟩ : M_tree_Node)] : List M_tree_Node), x0_words, wrap64 (x0_at_ + (1 : Int)), x0_end_, x0_deep, x0_names)))
  else (
    bif decide (r1.Text = ([116] : List UInt8)) then (
      some (Except.ok (([(⟨(2 : Int), 0, []⟩ : M_tree_Node)] : List M_tree_Node), x0_words, wrap64 (x0_at_ + (1 : Int)), x0_end_, x0_deep, x0_names)))
    else (
      bif decide (r1.Text = ([121] : List UInt8)) then (
        (m___parse_reader__component x0_words x0_at_ x0_end_ x0_deep x0_names (3 : Int)).bind (exK (fun e =>
          some (Except.error e)) fun r7 =>
        some (Except.ok (r7.1, r7.2.1, r7.2.2.1, r7.2.2.2.1, r7.2.2.2.2, x0_names))))
      else (
        bif decide (r1.Text = ([112] : List UInt8)) then (
          (m___parse_reader__component x0_words x0_at_ x0_end_ x0_deep x0_names (4 : Int)).bind (exK (fun e =>
            some (Except.error e)) fun r9 =>
          some (Except.ok (r9.1, r9.2.1, r9.2.2.1, r9.2.2.2.1, r9.2.2.2.2, x0_names))))
        else (
          (m___parse_reader__has x0_words x0_at_ x0_end_ x0_deep x0_names ([40] : List UInt8)).bind fun r11 =>
          bif r11.1 then (
            (m___parse_reader__open r11.2.1 r11.2.2.1 r11.2.2.2.1 r11.2.2.2.2 x0_names).bind (exK (fun e =>
              some (Except.error e)) fun r13 =>
            (me___parse_reader__expr r13.1 r13.2.1 r13.2.2.1 r13.2.2.2 x0_names).bind (exK (fun e =>
              some (Except.error e)) fun r15 =>
            (m___parse_reader__need r15.2.1 r15.2.2.1 r15.2.2.2.1 r15.2.2.2.2.1 r15.2.2.2.2.2 ([41] : List UInt8)).bind (exK (fun e =>
              some (Except.error e)) fun r17 =>
            some (Except.ok (r15.1, r17.1, r17.2.1, r17.2.2.1, wrap64 (r17.2.2.2 - (1 : Int)), r15.2.2.2.2.2))))))
          else (
            (m___parse_reader__name r11.2.1 r11.2.2.1 r11.2.2.2.1 r11.2.2.2.2 x0_names).bind (exK (fun e =>
              some (Except.error e)) fun r19 =>
            (m___parse_reader__meant r19.2.1 r19.2.2.1 r19.2.2.2.1 r19.2.2.2.2 x0_names r19.1).bind fun r21 =>
            some (Except.ok (([(⟨(5 : Int), r21, []⟩ : M_tree_Node)] : List M_tree_Node), r19.2.1, r19.2.2.1, r19.2.2.2.1, r19.2.2.2.2, x0_names))))))))
def m___parse_reader__power (me___parse_reader__expr : (List M_lex_Word) → Int → Int → Int → (List (List UInt8)) → Option (Except M_api_Fault ((List M_tree_Node) × (List M_lex_Word) × Int × Int × Int × (List (List UInt8))))) (n : Nat) (x0_words : (List M_lex_Word)) (x0_at_ : Int) (x0_end_ : Int) (x0_deep : Int) (x0_names : (List (List UInt8))) : Option (Except M_api_Fault ((List M_tree_Node) × (List M_lex_Word) × Int × Int × Int × (List (List UInt8)))) :=
  (m___parse_reader__atom me___parse_reader__expr n x0_words x0_at_ x0_end_ x0_deep x0_names).bind (exK (fun e =>
    some (Except.error e)) fun r1 =>
  (m___parse_reader__has r1.2.1 r1.2.2.1 r1.2.2.2.1 r1.2.2.2.2.1 r1.2.2.2.2.2 ([94] : List UInt8)).bind fun r3 =>
  bif !r3.1 then (
    some (Except.ok (r1.1, r3.2.1, r3.2.2.1, r3.2.2.2.1, r3.2.2.2.2, r1.2.2.2.2.2)))
  else (
    (m___parse_reader__has r3.2.1 r3.2.2.1 r3.2.2.2.1 r3.2.2.2.2 r1.2.2.2.2.2 ([45] : List UInt8)).bind fun r5 =>
    (m___parse_reader__small r5.2.1 r5.2.2.1 r5.2.2.2.1 r5.2.2.2.2 r1.2.2.2.2.2).bind (exK (fun e =>
      some (Except.error e)) fun r7 =>
    jn (fun (j9 : (Int) → Option _) =>
      bif r5.1 then (
        j9 (wrap64 (-r7.1)))
      else (
        j9 r7.1)) (fun (s11 : Int) =>
      (appM 40 r1.1 ([(⟨(11 : Int), s11, []⟩ : M_tree_Node)] : List M_tree_Node)).bind fun y12 =>
      some (Except.ok (y12, r7.2.1, r7.2.2.1, r7.2.2.2.1, r7.2.2.2.2, r1.2.2.2.2.2))))))
def m___parse_reader__factor (me___parse_reader__expr : (List M_lex_Word) → Int → Int → Int → (List (List UInt8)) → Option (Except M_api_Fault ((List M_tree_Node) × (List M_lex_Word) × Int × Int × Int × (List (List UInt8))))) : Nat → (List M_lex_Word) → Int → Int → Int → (List (List UInt8)) → Option (Except M_api_Fault ((List M_tree_Node) × (List M_lex_Word) × Int × Int × Int × (List (List UInt8))))
  | 0, _, _, _, _, _ => none
  | n + 1, x0_words, x0_at_, x0_end_, x0_deep, x0_names =>
    (m___parse_reader__has x0_words x0_at_ x0_end_ x0_deep x0_names ([45] : List UInt8)).bind fun r1 =>
    bif !r1.1 then (
      (m___parse_reader__power me___parse_reader__expr n r1.2.1 r1.2.2.1 r1.2.2.2.1 r1.2.2.2.2 x0_names).bind (exK (fun e =>
        some (Except.error e)) fun r3 =>
      some (Except.ok (r3.1, r3.2.1, r3.2.2.1, r3.2.2.2.1, r3.2.2.2.2.1, r3.2.2.2.2.2))))
    else (
      (m___parse_reader__open r1.2.1 r1.2.2.1 r1.2.2.2.1 r1.2.2.2.2 x0_names).bind (exK (fun e =>
        some (Except.error e)) fun r5 =>
      (m___parse_reader__factor me___parse_reader__expr n r5.1 r5.2.1 r5.2.2.1 r5.2.2.2 x0_names).bind (exK (fun e =>
        some (Except.error e)) fun r7 =>
      (appM 40 r7.1 ([(⟨(6 : Int), 0, []⟩ : M_tree_Node)] : List M_tree_Node)).bind fun y9 =>
      some (Except.ok (y9, r7.2.1, r7.2.2.1, r7.2.2.2.1, wrap64 (r7.2.2.2.2.1 - (1 : Int)), r7.2.2.2.2.2)))))
def m___parse_reader__chain_o1___parse_reader__factor (me___parse_reader__expr : (List M_lex_Word) → Int → Int → Int → (List (List UInt8)) → Option (Except M_api_Fault ((List M_tree_Node) × (List M_lex_Word) × Int × Int × Int × (List (List UInt8))))) (n : Nat) (x0_words : (List M_lex_Word)) (x0_at_ : Int) (x0_end_ : Int) (x0_deep : Int) (x0_names : (List (List UInt8))) (x2 : (List UInt8)) (x3 : (List UInt8)) (x4 : Int) (x5 : Int) : Option (Except M_api_Fault ((List M_tree_Node) × (List M_lex_Word) × Int × Int × Int × (List (List UInt8)))) :=
  (m___parse_reader__factor me___parse_reader__expr n x0_words x0_at_ x0_end_ x0_deep x0_names).bind (exK (fun e =>
    some (Except.error e)) fun r1 =>
  loopM (fun (s41 : (List M_lex_Word) × Int × Int × Int × (List (List UInt8)) × (List M_tree_Node)) =>
    jn (fun (j46 : ((List M_lex_Word) × Int × Int × Int × Int) → Option _) =>
      (m___parse_reader__has s41.1 s41.2.1 s41.2.2.1 s41.2.2.2.1 s41.2.2.2.2.1 x2).bind fun r49 =>
      bif r49.1 then (
        j46 (r49.2.1, r49.2.2.1, r49.2.2.2.1, r49.2.2.2.2, x4))
      else (
        (m___parse_reader__has r49.2.1 r49.2.2.1 r49.2.2.2.1 r49.2.2.2.2 s41.2.2.2.2.1 x3).bind fun r51 =>
        bif r51.1 then (
          j46 (r51.2.1, r51.2.2.1, r51.2.2.2.1, r51.2.2.2.2, x5))
        else (
          some (Lp.out (Except.ok (s41.2.2.2.2.2, r51.2.1, r51.2.2.1, r51.2.2.2.1, r51.2.2.2.2, s41.2.2.2.2.1)))))) (fun (s48 : (List M_lex_Word) × Int × Int × Int × Int) =>
      (m___parse_reader__factor me___parse_reader__expr n s48.1 s48.2.1 s48.2.2.1 s48.2.2.2.1 s41.2.2.2.2.1).bind (exK (fun e =>
        some (Lp.out (Except.error e))) fun r53 =>
      (appM 40 s41.2.2.2.2.2 r53.1).bind fun y55 =>
      (appM 40 y55 ([(⟨s48.2.2.2.2, 0, []⟩ : M_tree_Node)] : List M_tree_Node)).bind fun y57 =>
      some (Lp.go (r53.2.1, r53.2.2.1, r53.2.2.2.1, r53.2.2.2.2.1, r53.2.2.2.2.2, y57))))) n (r1.2.1, r1.2.2.1, r1.2.2.2.1, r1.2.2.2.2.1, r1.2.2.2.2.2, r1.1))
def m___parse_reader__term (me___parse_reader__expr : (List M_lex_Word) → Int → Int → Int → (List (List UInt8)) → Option (Except M_api_Fault ((List M_tree_Node) × (List M_lex_Word) × Int × Int × Int × (List (List UInt8))))) (n : Nat) (x0_words : (List M_lex_Word)) (x0_at_ : Int) (x0_end_ : Int) (x0_deep : Int) (x0_names : (List (List UInt8))) : Option (Except M_api_Fault ((List M_tree_Node) × (List M_lex_Word) × Int × Int × Int × (List (List UInt8)))) :=
  (m___parse_reader__chain_o1___parse_reader__factor me___parse_reader__expr n x0_words x0_at_ x0_end_ x0_deep x0_names ([42] : List UInt8) ([47] : List UInt8) (9 : Int) (10 : Int)).bind (exK (fun e =>
    some (Except.error e)) fun r1 =>
  some (Except.ok (r1.1, r1.2.1, r1.2.2.1, r1.2.2.2.1, r1.2.2.2.2.1, r1.2.2.2.2.2)))
def m___parse_reader__chain_o1___parse_reader__term (me___parse_reader__expr : (List M_lex_Word) → Int → Int → Int → (List (List UInt8)) → Option (Except M_api_Fault ((List M_tree_Node) × (List M_lex_Word) × Int × Int × Int × (List (List UInt8))))) (n : Nat) (x0_words : (List M_lex_Word)) (x0_at_ : Int) (x0_end_ : Int) (x0_deep : Int) (x0_names : (List (List UInt8))) (x2 : (List UInt8)) (x3 : (List UInt8)) (x4 : Int) (x5 : Int) : Option (Except M_api_Fault ((List M_tree_Node) × (List M_lex_Word) × Int × Int × Int × (List (List UInt8)))) :=
  (m___parse_reader__term me___parse_reader__expr n x0_words x0_at_ x0_end_ x0_deep x0_names).bind (exK (fun e =>
    some (Except.error e)) fun r1 =>
  loopM (fun (s41 : (List M_lex_Word) × Int × Int × Int × (List (List UInt8)) × (List M_tree_Node)) =>
    jn (fun (j46 : ((List M_lex_Word) × Int × Int × Int × Int) → Option _) =>
      (m___parse_reader__has s41.1 s41.2.1 s41.2.2.1 s41.2.2.2.1 s41.2.2.2.2.1 x2).bind fun r49 =>
      bif r49.1 then (
        j46 (r49.2.1, r49.2.2.1, r49.2.2.2.1, r49.2.2.2.2, x4))
      else (
        (m___parse_reader__has r49.2.1 r49.2.2.1 r49.2.2.2.1 r49.2.2.2.2 s41.2.2.2.2.1 x3).bind fun r51 =>
        bif r51.1 then (
          j46 (r51.2.1, r51.2.2.1, r51.2.2.2.1, r51.2.2.2.2, x5))
        else (
          some (Lp.out (Except.ok (s41.2.2.2.2.2, r51.2.1, r51.2.2.1, r51.2.2.2.1, r51.2.2.2.2, s41.2.2.2.2.1)))))) (fun (s48 : (List M_lex_Word) × Int × Int × Int × Int) =>
      (m___parse_reader__term me___parse_reader__expr n s48.1 s48.2.1 s48.2.2.1 s48.2.2.2.1 s41.2.2.2.2.1).bind (exK (fun e =>
        some (Lp.out (Except.error e))) fun r53 =>
      (appM 40 s41.2.2.2.2.2 r53.1).bind fun y55 =>
      (appM 40 y55 ([(⟨s48.2.2.2.2, 0, []⟩ : M_tree_Node)] : List M_tree_Node)).bind fun y57 =>
      some (Lp.go (r53.2.1, r53.2.2.1, r53.2.2.2.1, r53.2.2.2.2.1, r53.2.2.2.2.2, y57))))) n (r1.2.1, r1.2.2.1, r1.2.2.2.1, r1.2.2.2.2.1, r1.2.2.2.2.2, r1.1))
def m___parse_reader__expr : Nat → (List M_lex_Word) → Int → Int → Int → (List (List UInt8)) → Option (Except M_api_Fault ((List M_tree_Node) × (List M_lex_Word) × Int × Int × Int × (List (List UInt8))))
  | 0, _, _, _, _, _ => none
  | n + 1, x0_words, x0_at_, x0_end_, x0_deep, x0_names =>
    (m___parse_reader__chain_o1___parse_reader__term (m___parse_reader__expr n) n x0_words x0_at_ x0_end_ x0_deep x0_names ([43] : List UInt8) ([45] : List UInt8) (7 : Int) (8 : Int)).bind (exK (fun e =>
      some (Except.error e)) fun r1 =>
    some (Except.ok (r1.1, r1.2.1, r1.2.2.1, r1.2.2.2.1, r1.2.2.2.2.1, r1.2.2.2.2.2)))
def m___parse_reader__field (n : Nat) (x0_words : (List M_lex_Word)) (x0_at_ : Int) (x0_end_ : Int) (x0_deep : Int) (x0_names : (List (List UInt8))) : Option (Except M_api_Fault (M_tree_Field × (List M_lex_Word) × Int × Int × Int × (List (List UInt8)))) :=
  (loopM (fun (s18 : (List M_lex_Word) × Int × Int × Int × (List (List UInt8)) × (List M_tree_Let)) =>
    (m___parse_reader__has s18.1 s18.2.1 s18.2.2.1 s18.2.2.2.1 s18.2.2.2.2.1 ([108, 101, 116] : List UInt8)).bind fun r19 =>
    bif r19.1 then (
      (m___parse_reader__name r19.2.1 r19.2.2.1 r19.2.2.2.1 r19.2.2.2.2 s18.2.2.2.2.1).bind (exK (fun e =>
        some (Lp.out (Lp.out (Except.error e)))) fun r21 =>
      (m___parse_reader__need r21.2.1 r21.2.2.1 r21.2.2.2.1 r21.2.2.2.2 s18.2.2.2.2.1 ([61] : List UInt8)).bind (exK (fun e =>
        some (Lp.out (Lp.out (Except.error e)))) fun r23 =>
      (m___parse_reader__expr n r23.1 r23.2.1 r23.2.2.1 r23.2.2.2 s18.2.2.2.2.1).bind (exK (fun e =>
        some (Lp.out (Lp.out (Except.error e)))) fun r25 =>
      (appM 40 s18.2.2.2.2.2 ([(⟨r21.1, r25.1⟩ : M_tree_Let)] : List M_tree_Let)).bind fun y27 =>
      (m___parse_reader__need r25.2.1 r25.2.2.1 r25.2.2.2.1 r25.2.2.2.2.1 r25.2.2.2.2.2 ([59] : List UInt8)).bind (exK (fun e =>
        some (Lp.out (Lp.out (Except.error e)))) fun r29 =>
      (appM 16 r25.2.2.2.2.2 ([r21.1] : List (List UInt8))).bind fun y31 =>
      some (Lp.go (r29.1, r29.2.1, r29.2.2.1, r29.2.2.2, y31, y27)))))))
    else (
      some (Lp.out (Lp.go (r19.2.1, r19.2.2.1, r19.2.2.2.1, r19.2.2.2.2, s18.2.2.2.2.1, s18.2.2.2.2.2))))) n (x0_words, x0_at_, x0_end_, x0_deep, x0_names, ([] : List M_tree_Let))).bind (lpK fun (t16 : (List M_lex_Word) × Int × Int × Int × (List (List UInt8)) × (List M_tree_Let)) =>
  (m___parse_reader__need t16.1 t16.2.1 t16.2.2.1 t16.2.2.2.1 t16.2.2.2.2.1 ([91] : List UInt8)).bind (exK (fun e =>
    some (Except.error e)) fun r33 =>
  (m___parse_reader__expr n r33.1 r33.2.1 r33.2.2.1 r33.2.2.2 t16.2.2.2.2.1).bind (exK (fun e =>
    some (Except.error e)) fun r35 =>
  (appM 24 ([] : List (List M_tree_Node)) ([r35.1] : List (List M_tree_Node))).bind fun y37 =>
  (loopM (fun (s57 : (List M_lex_Word) × Int × Int × Int × (List (List UInt8)) × (List (List M_tree_Node))) =>
    (m___parse_reader__has s57.1 s57.2.1 s57.2.2.1 s57.2.2.2.1 s57.2.2.2.2.1 ([44] : List UInt8)).bind fun r58 =>
    bif r58.1 then (
      (m___parse_reader__expr n r58.2.1 r58.2.2.1 r58.2.2.2.1 r58.2.2.2.2 s57.2.2.2.2.1).bind (exK (fun e =>
        some (Lp.out (Lp.out (Except.error e)))) fun r60 =>
      (appM 24 s57.2.2.2.2.2 ([r60.1] : List (List M_tree_Node))).bind fun y62 =>
      some (Lp.go (r60.2.1, r60.2.2.1, r60.2.2.2.1, r60.2.2.2.2.1, r60.2.2.2.2.2, y62))))
    else (
      some (Lp.out (Lp.go (r58.2.1, r58.2.2.1, r58.2.2.2.1, r58.2.2.2.2, s57.2.2.2.2.1, s57.2.2.2.2.2))))) n (r35.2.1, r35.2.2.1, r35.2.2.2.1, r35.2.2.2.2.1, r35.2.2.2.2.2, y37)).bind (lpK fun (t55 : (List M_lex_Word) × Int × Int × Int × (List (List UInt8)) × (List (List M_tree_Node))) =>
  (m___parse_reader__need t55.1 t55.2.1 t55.2.2.1 t55.2.2.2.1 t55.2.2.2.2.1 ([93] : List UInt8)).bind (exK (fun e =>
    some (Except.error e)) fun r64 =>
  some (Except.ok ((⟨t16.2.2.2.2.2, t55.2.2.2.2.2⟩ : M_tree_Field), r64.1, r64.2.1, r64.2.2.1, r64.2.2.2, t55.2.2.2.2.1)))))))
def m_parse_caught_o1_api_Fault (x0 : M_api_Fault) (x1 : M_api_Fault) : Option (Bool × M_api_Fault) :=
  some (true, x1)
def m_parse_Parse_1_opan (x0 : M_api_Fault) (x1 : M_tree_Field) (e : M_api_Fault) : Option (M_api_Fault × M_tree_Field) :=
  (m_parse_caught_o1_api_Fault x0 e).bind fun r1 =>
  bif r1.1 then (
    some (r1.2, (⟨[], []⟩ : M_tree_Field)))
  else (
    some (r1.2, x1))
def m___parse_reader__over (x0_words : (List M_lex_Word)) (x0_at_ : Int) (x0_end_ : Int) (x0_deep : Int) (x0_names : (List (List UInt8))) : Option (Except M_api_Fault (Unit)) :=
  bif decide (x0_at_ < (x0_words.length : Int)) then (
    (m___parse_reader__fail x0_words x0_at_ x0_end_ x0_deep x0_names).bind (exK (fun e =>
      some (Except.error e)) fun _ =>
    some (Except.ok ())))
  else (
    some (Except.ok ()))
def m_parse_caught_o1_nil (x0 : M_api_Fault) : Option (Bool) :=
  some false
def m_parse_Parse_1_oret (x0 : M_api_Fault) (x1 : M_tree_Field) : Option (M_tree_Field) :=
  (m_parse_caught_o1_nil x0).bind fun r1 =>
  bif r1 then (
    some (⟨[], []⟩ : M_tree_Field))
  else (
    some x1)
def m_parse_Parse (n : Nat) (x0 : (List UInt8)) : Option (M_tree_Field × M_api_Fault) :=
  (m_parse_begin n x0 ([] : List (List UInt8))).bind fun r1 =>
  bif !(eqb_api_Fault r1.2.2.2.2.2 (⟨0, 0, 0, 0⟩ : M_api_Fault)) then (
    some ((⟨[], []⟩ : M_tree_Field), r1.2.2.2.2.2))
  else (
    (m___parse_reader__field n r1.1 r1.2.1 r1.2.2.1 r1.2.2.2.1 r1.2.2.2.2.1).bind (exK (fun e =>
      (m_parse_Parse_1_opan r1.2.2.2.2.2 (⟨[], []⟩ : M_tree_Field) e).bind fun y9 =>
      some (y9.2, y9.1)) fun r7 =>
    (m___parse_reader__over r7.2.1 r7.2.2.1 r7.2.2.2.1 r7.2.2.2.2.1 r7.2.2.2.2.2).bind (exK (fun e =>
      (m_parse_Parse_1_opan r1.2.2.2.2.2 r7.1 e).bind fun y13 =>
      some (y13.2, y13.1)) fun _ =>
    (m_parse_Parse_1_oret (⟨0, 0, 0, 0⟩ : M_api_Fault) r7.1).bind fun y15 =>
    some (y15, (⟨0, 0, 0, 0⟩ : M_api_Fault)))))
def m_retrospectlaw18_works (n : Nat)  : Option (Bool) :=
  (m_parse_Parse n ([91, 45, 121, 91, 48, 93, 32, 43, 32, 50, 42, 116, 93] : List UInt8)).bind fun r1 =>
  (m_parse_Parse n ([91, 49] : List UInt8)).bind fun r3 =>
  jn (fun (j11 : (Bool) → Option _) =>
    bif (eqb_api_Fault r1.2 (⟨0, 0, 0, 0⟩ : M_api_Fault)) then (
      bif decide ((r1.1.Outs.length : Int) = (1 : Int)) then (
        (getI r1.1.Outs (0 : Int)).bind fun y14 =>
        bif decide ((y14.length : Int) = (6 : Int)) then (
          (getI r1.1.Outs (0 : Int)).bind fun y16 =>
          (getI y16 (5 : Int)).bind fun y18 =>
          bif decide (y18.Op = (7 : Int)) then (
            j11 (eqb_api_Fault r3.2 (⟨(1 : Int), 0, 0, (2 : Int)⟩ : M_api_Fault)))
          else (
            j11 false))
        else (
          j11 false))
      else (
        j11 false))
    else (
      j11 false)) (fun (s13 : Bool) =>
    some s13)
def m_lex_Text (x0 : (List M_lex_Word)) : Option ((List UInt8)) :=
  (rangeL (fun (_ : Nat) (x16 : M_lex_Word) (s14 : (List (List UInt8))) =>
    (appM 16 s14 ([x16.Text] : List (List UInt8))).bind fun y18 =>
    some (Lp.go y18)) x0 0 ([] : List (List UInt8))).bind (lpK fun (s20 : (List (List UInt8))) =>
  (m_strings_Join s20 ([32] : List UInt8)).bind fun r21 =>
  some r21)
def m_nat_Cmp (n : Nat) (x0 : (List Nat)) (x1 : (List Nat)) : Option (Int) :=
  (m_nat_trim n x0).bind fun r1 =>
  (m_nat_trim n x1).bind fun r3 =>
  bif decide ((r1.length : Int) < (r3.length : Int)) then (
    some (-1 : Int))
  else (
    bif decide ((r3.length : Int) < (r1.length : Int)) then (
      some (1 : Int))
    else (
      (loopM (fun (s25 : Int) =>
        bif decide ((0 : Int) ≤ s25) then (
          (getI r1 s25).bind fun y26 =>
          (getI r3 s25).bind fun y28 =>
          bif decide (y26 < y28) then (
            some (Lp.out (Lp.out ((-1 : Int)))))
          else (
            (getI r1 s25).bind fun y30 =>
            (getI r3 s25).bind fun y32 =>
            bif decide (y32 < y30) then (
              some (Lp.out (Lp.out ((1 : Int)))))
            else (
              some (Lp.go (wrap64 (s25 - (1 : Int)))))))
        else (
          some (Lp.out (Lp.go ())))) n (wrap64 ((r1.length : Int) - (1 : Int)))).bind (lpK fun (_ : Unit) =>
      some (0 : Int))))
def m_tree_Same (n : Nat) (x0 : (List M_tree_Node)) (x1 : (List M_tree_Node)) : Option (Bool) :=
  bif !decide ((x0.length : Int) = (x1.length : Int)) then (
    some false)
  else (
    (rangeL (fun (i18 : Nat) (x19 : M_tree_Node) (_ : Unit) =>
      (getI x1 (i18 : Int)).bind fun y21 =>
      jn (fun (j26 : (Bool) → Option _) =>
        (some (!(eqb_tree_plain (⟨x19.Op, x19.I⟩ : M_tree_plain) (⟨y21.Op, y21.I⟩ : M_tree_plain)))).bind fun z29 =>
        bif z29 then (
          j26 true)
        else (
          (m_nat_Cmp n x19.N y21.N).bind fun r30 =>
          j26 (!decide (r30 = (0 : Int))))) (fun (s28 : Bool) =>
        bif s28 then (
          some (Lp.out (false)))
        else (
          some (Lp.go ())))) x0 0 ()).bind (lpK fun (_ : Unit) =>
    some true))
def m_tree_SameField (n : Nat) (x0 : M_tree_Field) (x1 : M_tree_Field) : Option (Bool) :=
  jn (fun (j1 : (Bool) → Option _) =>
    bif !decide ((x0.Lets.length : Int) = (x1.Lets.length : Int)) then (
      j1 true)
    else (
      j1 (!decide ((x0.Outs.length : Int) = (x1.Outs.length : Int))))) (fun (s3 : Bool) =>
    bif s3 then (
      some false)
    else (
      (rangeL (fun (i27 : Nat) (x28 : M_tree_Let) (_ : Unit) =>
        jn (fun (j37 : (Bool) → Option _) =>
          (getI x1.Lets (i27 : Int)).bind fun y40 =>
          bif !decide (x28.Name = y40.Name) then (
            j37 true)
          else (
            (getI x1.Lets (i27 : Int)).bind fun y43 =>
            (m_tree_Same n x28.Code y43.Code).bind fun r45 =>
            j37 (!r45))) (fun (s39 : Bool) =>
          bif s39 then (
            some (Lp.out (false)))
          else (
            some (Lp.go ())))) x0.Lets 0 ()).bind (lpK fun (_ : Unit) =>
      (rangeL (fun (i58 : Nat) (x59 : (List M_tree_Node)) (_ : Unit) =>
        (getI x1.Outs (i58 : Int)).bind fun y61 =>
        (m_tree_Same n x59 y61).bind fun r63 =>
        bif !r63 then (
          some (Lp.out (false)))
        else (
          some (Lp.go ()))) x0.Outs 0 ()).bind (lpK fun (_ : Unit) =>
      some true))))
def m_parse_Expr_1_opan (x0 : M_api_Fault) (x1 : (List M_tree_Node)) (e : M_api_Fault) : Option (M_api_Fault × (List M_tree_Node)) :=
  (m_parse_caught_o1_api_Fault x0 e).bind fun r1 =>
  bif r1.1 then (
    some (r1.2, ([] : List M_tree_Node)))
  else (
    some (r1.2, x1))
def m_parse_Expr_1_oret (x0 : M_api_Fault) (x1 : (List M_tree_Node)) : Option ((List M_tree_Node)) :=
  (m_parse_caught_o1_nil x0).bind fun r1 =>
  bif r1 then (
    some ([] : List M_tree_Node))
  else (
    some x1)
def m_parse_Expr (n : Nat) (x0 : (List UInt8)) (x1 : (List (List UInt8))) : Option ((List M_tree_Node) × M_api_Fault) :=
  (m_parse_begin n x0 x1).bind fun r1 =>
  bif !(eqb_api_Fault r1.2.2.2.2.2 (⟨0, 0, 0, 0⟩ : M_api_Fault)) then (
    some (([] : List M_tree_Node), r1.2.2.2.2.2))
  else (
    (m___parse_reader__expr n r1.1 r1.2.1 r1.2.2.1 r1.2.2.2.1 r1.2.2.2.2.1).bind (exK (fun e =>
      (m_parse_Expr_1_opan r1.2.2.2.2.2 [] e).bind fun y9 =>
      some (y9.2, y9.1)) fun r7 =>
    (m___parse_reader__over r7.2.1 r7.2.2.1 r7.2.2.2.1 r7.2.2.2.2.1 r7.2.2.2.2.2).bind (exK (fun e =>
      (m_parse_Expr_1_opan r1.2.2.2.2.2 r7.1 e).bind fun y13 =>
      some (y13.2, y13.1)) fun _ =>
    (m_parse_Expr_1_oret (⟨0, 0, 0, 0⟩ : M_api_Fault) r7.1).bind fun y15 =>
    some (y15, (⟨0, 0, 0, 0⟩ : M_api_Fault)))))
def m_tree_Arity (x0 : Int) : Option (Int) :=
  jn (fun (j1 : (Bool) → Option _) =>
    bif decide (x0 = (1 : Int)) then (
      j1 (decide (x0 = (1 : Int))))
    else (
      bif decide (x0 = (2 : Int)) then (
        j1 (decide (x0 = (2 : Int))))
      else (
        bif decide (x0 = (3 : Int)) then (
          j1 (decide (x0 = (3 : Int))))
        else (
          bif decide (x0 = (4 : Int)) then (
            j1 (decide (x0 = (4 : Int))))
          else (
            j1 (decide (x0 = (5 : Int)))))))) (fun (s3 : Bool) =>
    bif s3 then (
      some (0 : Int))
    else (
      jn (fun (j4 : (Bool) → Option _) =>
        bif decide (x0 = (6 : Int)) then (
          j4 (decide (x0 = (6 : Int))))
        else (
          j4 (decide (x0 = (11 : Int))))) (fun (s6 : Bool) =>
        bif s6 then (
          some (1 : Int))
        else (
          jn (fun (j7 : (Bool) → Option _) =>
            bif decide (x0 = (7 : Int)) then (
              j7 (decide (x0 = (7 : Int))))
            else (
              bif decide (x0 = (8 : Int)) then (
                j7 (decide (x0 = (8 : Int))))
              else (
                bif decide (x0 = (9 : Int)) then (
                  j7 (decide (x0 = (9 : Int))))
                else (
                  j7 (decide (x0 = (10 : Int))))))) (fun (s9 : Bool) =>
            bif s9 then (
              some (2 : Int))
            else (
              some (-1 : Int)))))))
def m_tree_Wrong (x0 : (List M_tree_Node)) : Option (Int) :=
  (rangeL (fun (i21 : Nat) (x22 : M_tree_Node) (s20 : Int) =>
    (m_tree_Arity x22.Op).bind fun r24 =>
    jn (fun (j26 : (Bool) → Option _) =>
      bif decide (r24 < (0 : Int)) then (
        j26 true)
      else (
        j26 (decide (s20 < r24)))) (fun (s28 : Bool) =>
      bif s28 then (
        some (Lp.out ((i21 : Int))))
      else (
        some (Lp.go (wrap64 (s20 + (wrap64 ((1 : Int) - r24)))))))) x0 0 (0 : Int)).bind (lpK fun (s29 : Int) =>
  bif !decide (s29 = (1 : Int)) then (
    some (x0.length : Int))
  else (
    some (-1 : Int)))
def m_tree_Right (x0 : (List M_tree_Node)) : Option (Bool) :=
  (m_tree_Wrong x0).bind fun r1 =>
  some (decide (r1 < (0 : Int)))
def m_retrospectlaw18_ParseBlanks (n : Nat) (x0 : (List UInt8)) : Option (Bool) :=
  bif decide ((1500 : Int) < (x0.length : Int)) then (
    (m_retrospectlaw18_works n ).bind fun r1 =>
    some r1)
  else (
    (m_lex_Scan n x0).bind fun r3 =>
    bif !(eqb_api_Fault r3.2 (⟨0, 0, 0, 0⟩ : M_api_Fault)) then (
      (m_retrospectlaw18_works n ).bind fun r5 =>
      some r5)
    else (
      (m_parse_Parse n x0).bind fun r7 =>
      (m_lex_Text r3.1).bind fun r9 =>
      (m_parse_Parse n r9).bind fun r11 =>
      jn (fun (j18 : (Bool) → Option _) =>
        bif ((eqb_api_Fault r7.2 (⟨0, 0, 0, 0⟩ : M_api_Fault)) != (eqb_api_Fault r11.2 (⟨0, 0, 0, 0⟩ : M_api_Fault))) then (
          (some (((eqb_api_Fault r7.2 (⟨0, 0, 0, 0⟩ : M_api_Fault)) != (eqb_api_Fault r11.2 (⟨0, 0, 0, 0⟩ : M_api_Fault))))).bind fun _ =>
          j18 true)
        else (
          (m_tree_SameField n r7.1 r11.1).bind fun r23 =>
          (some (((eqb_api_Fault r7.2 (⟨0, 0, 0, 0⟩ : M_api_Fault)) != (eqb_api_Fault r11.2 (⟨0, 0, 0, 0⟩ : M_api_Fault))))).bind fun _ =>
          j18 (!r23))) (fun (s20 : Bool) =>
        bif s20 then (
          some false)
        else (
          (m_parse_Expr n x0 ([([97] : List UInt8), ([98] : List UInt8)] : List (List UInt8))).bind fun r26 =>
          bif !(eqb_api_Fault r26.2 (⟨0, 0, 0, 0⟩ : M_api_Fault)) then (
            (m_retrospectlaw18_works n ).bind fun r28 =>
            some r28)
          else (
            (catS ([40] : List UInt8) x0).bind fun y30 =>
            (catS y30 ([10, 41] : List UInt8)).bind fun y32 =>
            (m_parse_Expr n y32 ([([97] : List UInt8), ([98] : List UInt8)] : List (List UInt8))).bind fun r34 =>
            jn (fun (j50 : (Bool) → Option _) =>
              bif (eqb_api_Fault r34.2 (⟨0, 0, 0, 0⟩ : M_api_Fault)) then (
                (m_tree_Same n r26.1 r34.1).bind fun r53 =>
                bif r53 then (
                  (m_tree_Right r26.1).bind fun r55 =>
                  bif r55 then (
                    (m_retrospectlaw18_works n ).bind fun r57 =>
                    j50 r57)
                  else (
                    j50 false))
                else (
                  bif decide (r34.2.Kind = (1 : Int)) then (
                    (m_tree_Right r26.1).bind fun r59 =>
                    bif r59 then (
                      (m_retrospectlaw18_works n ).bind fun r61 =>
                      j50 r61)
                    else (
                      j50 false))
                  else (
                    j50 false)))
              else (
                bif decide (r34.2.Kind = (1 : Int)) then (
                  (m_tree_Right r26.1).bind fun r63 =>
                  bif r63 then (
                    (m_retrospectlaw18_works n ).bind fun r65 =>
                    j50 r65)
                  else (
                    j50 false))
                else (
                  j50 false))) (fun (s52 : Bool) =>
              some s52))))))
def m__show_piece__within (x0 : M_show_piece) (x1 : Int) : Option ((List UInt8)) :=
  bif decide (x0.rank < x1) then (
    (catS ([40] : List UInt8) x0.text).bind fun y1 =>
    (catS y1 ([41] : List UInt8)).bind fun y3 =>
    some y3)
  else (
    some x0.text)
def m_tree_copied (x0 : (List M_tree_Node)) : Option ((List M_tree_Node)) :=
  (rangeL (fun (_ : Nat) (x20 : M_tree_Node) (s18 : (List M_tree_Node)) =>
    (appM 4 ([] : List Nat) x20.N).bind fun y22 =>
    (appM 40 s18 ([(⟨x20.Op, x20.I, y22⟩ : M_tree_Node)] : List M_tree_Node)).bind fun y24 =>
    some (Lp.go y24)) x0 0 ([] : List M_tree_Node)).bind (lpK fun (s26 : (List M_tree_Node)) =>
  some s26)
def m_tree_Codes (x0 : M_tree_Field) : Option ((List (List M_tree_Node))) :=
  (rangeL (fun (_ : Nat) (x20 : M_tree_Let) (s18 : (List (List M_tree_Node))) =>
    (m_tree_copied x20.Code).bind fun r22 =>
    (appM 24 s18 ([r22] : List (List M_tree_Node))).bind fun y24 =>
    some (Lp.go y24)) x0.Lets 0 ([] : List (List M_tree_Node))).bind (lpK fun (s26 : (List (List M_tree_Node))) =>
  (rangeL (fun (_ : Nat) (x46 : (List M_tree_Node)) (s44 : (List (List M_tree_Node))) =>
    (m_tree_copied x46).bind fun r48 =>
    (appM 24 s44 ([r48] : List (List M_tree_Node))).bind fun y50 =>
    some (Lp.go y50)) x0.Outs 0 s26).bind (lpK fun (s52 : (List (List M_tree_Node))) =>
  some s52))
def m_tree_Size (x0 : M_tree_Field) : Option (Int) :=
  (m_tree_Codes x0).bind fun r1 =>
  (rangeL (fun (_ : Nat) (x14 : (List M_tree_Node)) (s12 : Int) =>
    some (Lp.go (wrap64 (s12 + (x14.length : Int))))) r1 0 (0 : Int)).bind (lpK fun (s16 : Int) =>
  some s16)
def m_check_whole (x0 : M_tree_Field) (x1 : Int) (x2 : Int) : Option (Bool) :=
  jn (fun (j3 : (Bool) → Option _) =>
    bif decide ((1 : Int) ≤ x1) then (
      bif decide (x1 ≤ (6 : Int)) then (
        bif decide ((0 : Int) ≤ x2) then (
          bif decide (x2 ≤ (6 : Int)) then (
            bif decide ((x0.Outs.length : Int) = x1) then (
              bif decide ((x0.Lets.length : Int) ≤ (10 : Int)) then (
                (m_tree_Size x0).bind fun r6 =>
                j3 (decide (r6 ≤ (300 : Int))))
              else (
                j3 false))
            else (
              j3 false))
          else (
            j3 false))
        else (
          j3 false))
      else (
        j3 false))
    else (
      j3 false)) (fun (s5 : Bool) =>
    some s5)
def m_lex_Right (n : Nat) (x0 : M_lex_Word) : Option (Bool) :=
  jn (fun (j7 : (Bool) → Option _) =>
    bif decide (x0.Text = ([] : List UInt8)) then (
      j7 true)
    else (
      bif decide (x0.Kind = (0 : Int)) then (
        j7 true)
      else (
        (getS x0.Text (0 : Int)).bind fun y12 =>
        (m_lex_kind n y12).bind fun r14 =>
        j7 (!decide (r14 = x0.Kind))))) (fun (s9 : Bool) =>
    bif s9 then (
      some false)
    else (
      jn (fun (j21 : (Bool) → Option _) =>
        (m_lex_first n x0.Text x0.Kind).bind fun r24 =>
        bif decide (r24 = (x0.Text.length : Int)) then (
          (m_lex_most x0.Kind).bind fun r27 =>
          j21 (decide ((x0.Text.length : Int) ≤ r27)))
        else (
          j21 false)) (fun (s23 : Bool) =>
        some s23)))
def m_check_Name (n : Nat) (x0 : (List UInt8)) : Option (Bool) :=
  jn (fun (j1 : (Bool) → Option _) =>
    bif decide (x0 = ([116] : List UInt8)) then (
      j1 (decide (x0 = ([116] : List UInt8))))
    else (
      bif decide (x0 = ([121] : List UInt8)) then (
        j1 (decide (x0 = ([121] : List UInt8))))
      else (
        bif decide (x0 = ([112] : List UInt8)) then (
          j1 (decide (x0 = ([112] : List UInt8))))
        else (
          j1 (decide (x0 = ([108, 101, 116] : List UInt8))))))) (fun (s3 : Bool) =>
    bif s3 then (
      some false)
    else (
      (m_lex_Right n (⟨(2 : Int), x0, 0⟩ : M_lex_Word)).bind fun r4 =>
      some r4))
def m_check_twice (n : Nat) (x0 : (List M_tree_Let)) (x1 : Int) : Option (Bool) :=
  (loopM (fun (s13 : Int) =>
    bif decide (s13 < x1) then (
      (getI x0 s13).bind fun y14 =>
      (getI x0 x1).bind fun y16 =>
      bif decide (y14.Name = y16.Name) then (
        some (Lp.out (Lp.out (true))))
      else (
        some (Lp.go (wrap64 (s13 + (1 : Int))))))
    else (
      some (Lp.out (Lp.go ())))) n (0 : Int)).bind (lpK fun (_ : Unit) =>
  some false)
def m_nat_Zero (n : Nat) (x0 : (List Nat)) : Option (Bool) :=
  (m_nat_trim n x0).bind fun r1 =>
  some (decide ((r1.length : Int) = (0 : Int)))
def m_limb_Div (x0 : Nat) (x1 : Nat) (x2 : Nat) : Option (Nat × Nat × Bool) :=
  bif decide (x2 ≤ x0) then (
    some (0, 0, false))
  else (
    (grd (x2 != 0)).bind fun _ =>
    (grd (x2 != 0)).bind fun _ =>
    some ((((((x0 * 2 ^ 32) % 18446744073709551616) ||| x1) / x2) % 4294967296), (((((x0 * 2 ^ 32) % 18446744073709551616) ||| x1) % x2) % 4294967296), true))
def m_quot_Word (n : Nat) (x0 : (List Nat)) (x1 : Nat) : Option ((List Nat) × Nat × Bool) :=
  bif decide (x1 = 0) then (
    some (([] : List Nat), 0, false))
  else (
    (mkM 4 (0 : Nat) (x0.length : Int)).bind fun y1 =>
    (loopM (fun (s20 : (List Nat) × Nat × Int) =>
      bif decide ((0 : Int) ≤ s20.2.2) then (
        (getI x0 s20.2.2).bind fun y21 =>
        (m_limb_Div s20.2.1 y21 x1).bind fun r23 =>
        (getI s20.1 s20.2.2).bind fun _ =>
        some (Lp.go ((List.set s20.1 (Int.toNat s20.2.2) r23.1), r23.2.1, wrap64 (s20.2.2 - (1 : Int)))))
      else (
        some (Lp.out (s20.1, s20.2.1)))) n (y1, 0, wrap64 ((x0.length : Int) - (1 : Int)))).bind fun (t18 : (List Nat) × Nat) =>
    (m_nat_Norm n t18.1).bind fun r27 =>
    some (r27, t18.2, true))
def m_digits_nine (n : Nat) (x0 : Nat) : Option ((List UInt8)) :=
  (loopM (fun (s7 : Nat × M_A9_u8 × Int) =>
    bif decide ((0 : Int) ≤ s7.2.2) then (
      (getI ([s7.2.1.a0, s7.2.1.a1, s7.2.1.a2, s7.2.1.a3, s7.2.1.a4, s7.2.1.a5, s7.2.1.a6, s7.2.1.a7, s7.2.1.a8] : List Nat) s7.2.2).bind fun _ =>
      some (Lp.go ((s7.1 / 10), (ofl_A9_u8 (List.set ([s7.2.1.a0, s7.2.1.a1, s7.2.1.a2, s7.2.1.a3, s7.2.1.a4, s7.2.1.a5, s7.2.1.a6, s7.2.1.a7, s7.2.1.a8] : List Nat) (Int.toNat s7.2.2) (((48 + (s7.1 % 10)) % 4294967296) % 256))), wrap64 (s7.2.2 - (1 : Int)))))
    else (
      some (Lp.out s7.2.1))) n (x0, (⟨0, 0, 0, 0, 0, 0, 0, 0, 0⟩ : M_A9_u8), (8 : Int))).bind fun (t5 : M_A9_u8) =>
  (some (([t5.a0, t5.a1, t5.a2, t5.a3, t5.a4, t5.a5, t5.a6, t5.a7, t5.a8] : List Nat))).bind fun z10 =>
  some (bS z10)
def m_digits_Text (n : Nat) (x0 : (List Nat)) : Option ((List UInt8)) :=
  (m_nat_Zero n x0).bind fun r1 =>
  bif r1 then (
    some ([48] : List UInt8))
  else (
    (loopM (fun (s23 : (List Nat) × (List (List UInt8))) =>
      (m_nat_Zero n s23.1).bind fun r24 =>
      bif !r24 then (
        (m_quot_Word n s23.1 1000000000).bind fun r26 =>
        (m_digits_nine n r26.2.1).bind fun r28 =>
        (appM 16 s23.2 ([r28] : List (List UInt8))).bind fun y30 =>
        some (Lp.go (r26.1, y30)))
      else (
        some (Lp.out s23.2))) n (x0, ([] : List (List UInt8)))).bind fun (t21 : (List (List UInt8))) =>
    (loopM (fun (s44 : (List UInt8) × Int) =>
      bif decide ((0 : Int) ≤ s44.2) then (
        (getI t21 s44.2).bind fun y45 =>
        (appM 1 s44.1 y45).bind fun y47 =>
        some (Lp.go (y47, wrap64 (s44.2 - (1 : Int)))))
      else (
        some (Lp.out s44.1))) n (([] : List UInt8), wrap64 ((t21.length : Int) - (1 : Int)))).bind fun (t42 : (List UInt8)) =>
    (m_strings_TrimLeft t42 ([48] : List UInt8)).bind fun r49 =>
    some r49)
def m_digits_Len (n : Nat) (x0 : (List Nat)) : Option (Int) :=
  (m_digits_Text n x0).bind fun r1 =>
  some (r1.length : Int)
def m_check_number (n : Nat) (x0 : (List Nat)) : Option (Bool) :=
  jn (fun (j5 : (Bool) → Option _) =>
    (m_nat_Norm n x0).bind fun r8 =>
    bif decide ((r8.length : Int) = (x0.length : Int)) then (
      (m_digits_Len n x0).bind fun r10 =>
      j5 (decide (r10 ≤ (60 : Int))))
    else (
      j5 false)) (fun (s7 : Bool) =>
    some s7)
def m_check_below (x0 : Int) (x1 : Int) : Option (Bool) :=
  jn (fun (j1 : (Bool) → Option _) =>
    bif decide ((0 : Int) ≤ x0) then (
      j1 (decide (x0 < x1)))
    else (
      j1 false)) (fun (s3 : Bool) =>
    some s3)
def m_check_Node (n : Nat) (x0 : M_tree_Node) (x1 : Int) (x2 : Int) (x3 : Int) : Option (Bool) :=
  jn (fun (j1 : (Bool) → Option _) =>
    bif !decide (x0.Op = (1 : Int)) then (
      j1 (decide ((0 : Int) < (x0.N.length : Int))))
    else (
      j1 false)) (fun (s3 : Bool) =>
    bif s3 then (
      some false)
    else (
      bif decide (x0.Op = (1 : Int)) then (
        jn (fun (j6 : (Bool) → Option _) =>
          bif decide (x0.I = (0 : Int)) then (
            (m_check_number n x0.N).bind fun r9 =>
            j6 r9)
          else (
            j6 false)) (fun (s8 : Bool) =>
          some s8))
      else (
        bif decide (x0.Op = (3 : Int)) then (
          (m_check_below x0.I x1).bind fun r11 =>
          some r11)
        else (
          bif decide (x0.Op = (4 : Int)) then (
            (m_check_below x0.I x2).bind fun r13 =>
            some r13)
          else (
            bif decide (x0.Op = (5 : Int)) then (
              (m_check_below x0.I x3).bind fun r15 =>
              some r15)
            else (
              bif decide (x0.Op = (11 : Int)) then (
                jn (fun (j17 : (Bool) → Option _) =>
                  bif decide ((-8 : Int) ≤ x0.I) then (
                    j17 (decide (x0.I ≤ (8 : Int))))
                  else (
                    j17 false)) (fun (s19 : Bool) =>
                  some s19))
              else (
                jn (fun (j22 : (Bool) → Option _) =>
                  bif decide (x0.I = (0 : Int)) then (
                    (m_tree_Arity x0.Op).bind fun r25 =>
                    j22 (decide ((0 : Int) ≤ r25)))
                  else (
                    j22 false)) (fun (s24 : Bool) =>
                  some s24))))))))
def m_check_Place (n : Nat) (x0 : (List M_tree_Node)) (x1 : Int) (x2 : Int) (x3 : Int) : Option (Int) :=
  (m_tree_Wrong x0).bind fun r1 =>
  (rangeL (fun (i16 : Nat) (x17 : M_tree_Node) (_ : Unit) =>
    jn (fun (j21 : (Bool) → Option _) =>
      bif decide ((i16 : Int) = r1) then (
        j21 true)
      else (
        (m_check_Node n x17 x1 x2 x3).bind fun r24 =>
        j21 (!r24))) (fun (s23 : Bool) =>
      bif s23 then (
        some (Lp.out ((i16 : Int))))
      else (
        some (Lp.go ())))) x0 0 ()).bind (lpK fun (_ : Unit) =>
  some r1)
def m_tree_Depth (n : Nat) (x0 : (List M_tree_Node)) : Option (Int) :=
  (m_tree_Right x0).bind fun r1 =>
  bif !r1 then (
    some (0 : Int))
  else (
    (rangeL (fun (_ : Nat) (x51 : M_tree_Node) (s49 : (List Int)) =>
      (m_tree_Arity x51.Op).bind fun r53 =>
      (loopM (fun (s62 : (List Int) × Int × Int) =>
        bif decide (s62.2.2 < r53) then (
          (getI s62.1 (wrap64 ((s62.1.length : Int) - (1 : Int)))).bind fun y63 =>
          (sub s62.1 (0 : Int) (wrap64 ((s62.1.length : Int) - (1 : Int)))).bind fun y65 =>
          some (Lp.go (y65, max s62.2.1 y63, wrap64 (s62.2.2 + (1 : Int)))))
        else (
          some (Lp.out (s62.1, s62.2.1)))) n (s49, (0 : Int), (0 : Int))).bind fun (t60 : (List Int) × Int) =>
      (appM 8 t60.1 ([wrap64 (t60.2 + (1 : Int))] : List Int)).bind fun y67 =>
      some (Lp.go y67)) x0 0 ([] : List Int)).bind (lpK fun (s69 : (List Int)) =>
    (getI s69 (0 : Int)).bind fun y70 =>
    some y70))
def m_check_part (n : Nat) (x0 : (List M_tree_Node)) (x1 : Int) (x2 : Int) (x3 : Int) (x4 : Int) : Option (M_api_Fault) :=
  (m_check_Place n x0 x2 x3 x4).bind fun r1 =>
  jn (fun (j10 : (Int) → Option _) =>
    jn (fun (j15 : (Bool) → Option _) =>
      bif decide (r1 < (0 : Int)) then (
        (m_tree_Depth n x0).bind fun r18 =>
        j15 (decide ((40 : Int) < r18)))
      else (
        j15 false)) (fun (s17 : Bool) =>
      bif s17 then (
        j10 (x0.length : Int))
      else (
        j10 r1))) (fun (s12 : Int) =>
    bif decide (s12 < (0 : Int)) then (
      some (⟨0, 0, 0, 0⟩ : M_api_Fault))
    else (
      some (⟨(2 : Int), x1, 0, s12⟩ : M_api_Fault)))
def m_check_Check (n : Nat) (x0 : M_tree_Field) (x1 : Int) (x2 : Int) : Option (M_api_Fault) :=
  (m_check_whole x0 x1 x2).bind fun r1 =>
  bif !r1 then (
    some (⟨(2 : Int), 0, 0, 0⟩ : M_api_Fault))
  else (
    (rangeL (fun (i22 : Nat) (x23 : M_tree_Let) (_ : Unit) =>
      jn (fun (j29 : (Bool) → Option _) =>
        (m_check_Name n x23.Name).bind fun r32 =>
        bif !r32 then (
          j29 true)
        else (
          (m_check_twice n x0.Lets (i22 : Int)).bind fun r34 =>
          j29 r34)) (fun (s31 : Bool) =>
        bif s31 then (
          some (Lp.out ((⟨(2 : Int), wrap64 ((i22 : Int) + (1 : Int)), (1 : Int), 0⟩ : M_api_Fault))))
        else (
          (m_check_part n x23.Code (wrap64 ((i22 : Int) + (1 : Int))) x1 x2 (i22 : Int)).bind fun r36 =>
          bif !(eqb_api_Fault r36 (⟨0, 0, 0, 0⟩ : M_api_Fault)) then (
            some (Lp.out (r36)))
          else (
            some (Lp.go ()))))) x0.Lets 0 ()).bind (lpK fun (_ : Unit) =>
    (rangeL (fun (i47 : Nat) (x48 : (List M_tree_Node)) (_ : Unit) =>
      (m_check_part n x48 (wrap64 ((wrap64 ((x0.Lets.length : Int) + (i47 : Int))) + (1 : Int))) x1 x2 (x0.Lets.length : Int)).bind fun r50 =>
      bif !(eqb_api_Fault r50 (⟨0, 0, 0, 0⟩ : M_api_Fault)) then (
        some (Lp.out (r50)))
      else (
        some (Lp.go ()))) x0.Outs 0 ()).bind (lpK fun (_ : Unit) =>
    some (⟨0, 0, 0, 0⟩ : M_api_Fault))))
def m_nat_Of (n : Nat) (x0 : Nat) : Option ((List Nat)) :=
  (m_nat_trim n ([(x0 % 4294967296), ((x0 / 2 ^ 32) % 4294967296)] : List Nat)).bind fun r1 =>
  some r1
def m_retrospectlaw17_To (n : Nat) (x0 : (List M_retrospectref17_Node)) : Option ((List M_tree_Node)) :=
  (loopM (fun (s21 : (List M_tree_Node) × Int) =>
    bif decide (s21.2 < (x0.length : Int)) then (
      (getI x0 s21.2).bind fun y22 =>
      (getI x0 s21.2).bind fun y24 =>
      (getI x0 s21.2).bind fun y26 =>
      (appM 40 s21.1 ([(⟨y22.Op, y24.I, y26.N⟩ : M_tree_Node)] : List M_tree_Node)).bind fun y28 =>
      some (Lp.go (y28, wrap64 (s21.2 + (1 : Int)))))
    else (
      some (Lp.out s21.1))) n (([] : List M_tree_Node), (0 : Int))).bind fun (t19 : (List M_tree_Node)) =>
  some t19
def m_retrospectlaw17_ToField (n : Nat) (x0 : M_retrospectref17_Field) : Option (M_tree_Field) :=
  (loopM (fun (s12 : (List M_tree_Let) × Int) =>
    bif decide (s12.2 < (x0.Lets.length : Int)) then (
      (getI x0.Lets s12.2).bind fun y13 =>
      (getI x0.Lets s12.2).bind fun y15 =>
      (m_retrospectlaw17_To n y15.Code).bind fun r17 =>
      (appM 40 s12.1 ([(⟨y13.Name, r17⟩ : M_tree_Let)] : List M_tree_Let)).bind fun y19 =>
      some (Lp.go (y19, wrap64 (s12.2 + (1 : Int)))))
    else (
      some (Lp.out s12.1))) n (([] : List M_tree_Let), (0 : Int))).bind fun (t10 : (List M_tree_Let)) =>
  (loopM (fun (s37 : (List (List M_tree_Node)) × Int) =>
    bif decide (s37.2 < (x0.Outs.length : Int)) then (
      (getI x0.Outs s37.2).bind fun y38 =>
      (m_retrospectlaw17_To n y38).bind fun r40 =>
      (appM 24 s37.1 ([r40] : List (List M_tree_Node))).bind fun y42 =>
      some (Lp.go (y42, wrap64 (s37.2 + (1 : Int)))))
    else (
      some (Lp.out s37.1))) n (([] : List (List M_tree_Node)), (0 : Int))).bind fun (t35 : (List (List M_tree_Node))) =>
  some (⟨t10, t35⟩ : M_tree_Field)
def m_retrospectref17_Long (n : Nat) (x0 : (List M_retrospectref17_Node)) (x1 : Int) (x2 : Int) : Option (Bool) :=
  (loopM (fun (s15 : Int) =>
    jn (fun (j16 : (Bool) → Option _) =>
      bif decide (s15 < (x0.length : Int)) then (
        j16 (decide (s15 < x1)))
      else (
        j16 false)) (fun (s18 : Bool) =>
      bif s18 then (
        (getI x0 s15).bind fun y19 =>
        bif decide (x2 < (y19.N.length : Int)) then (
          some (Lp.out (Lp.out (true))))
        else (
          some (Lp.go (wrap64 (s15 + (1 : Int))))))
      else (
        some (Lp.out (Lp.go ()))))) n (0 : Int)).bind (lpK fun (_ : Unit) =>
  some (decide (x1 < (x0.length : Int))))
def m_retrospectref17_LongField (n : Nat) (x0 : M_retrospectref17_Field) (x1 : Int) (x2 : Int) (x3 : Int) : Option (Bool) :=
  jn (fun (j1 : (Bool) → Option _) =>
    bif decide (x1 < (x0.Lets.length : Int)) then (
      j1 true)
    else (
      j1 (decide (x1 < (x0.Outs.length : Int))))) (fun (s3 : Bool) =>
    bif s3 then (
      some true)
    else (
      (loopM (fun (s38 : Int) =>
        bif decide (s38 < (x0.Lets.length : Int)) then (
          jn (fun (j45 : (Bool) → Option _) =>
            (getI x0.Lets s38).bind fun y48 =>
            bif decide ((100 : Int) < (y48.Name.length : Int)) then (
              j45 true)
            else (
              (getI x0.Lets s38).bind fun y50 =>
              (m_retrospectref17_Long n y50.Code x2 x3).bind fun r52 =>
              j45 r52)) (fun (s47 : Bool) =>
            bif s47 then (
              some (Lp.out (Lp.out (true))))
            else (
              some (Lp.go (wrap64 (s38 + (1 : Int)))))))
        else (
          some (Lp.out (Lp.go ())))) n (0 : Int)).bind (lpK fun (_ : Unit) =>
      (loopM (fun (s66 : Int) =>
        bif decide (s66 < (x0.Outs.length : Int)) then (
          (getI x0.Outs s66).bind fun y67 =>
          (m_retrospectref17_Long n y67 x2 x3).bind fun r69 =>
          bif r69 then (
            some (Lp.out (Lp.out (true))))
          else (
            some (Lp.go (wrap64 (s66 + (1 : Int))))))
        else (
          some (Lp.out (Lp.go ())))) n (0 : Int)).bind (lpK fun (_ : Unit) =>
      some false))))
def m_retrospectlaw19_works (n : Nat)  : Option (Bool) :=
  (some (([([(⟨(3 : Int), 0, []⟩ : M_tree_Node)] : List M_tree_Node)] : List (List M_tree_Node)))).bind fun z1 =>
  (some (([([(⟨(3 : Int), (1 : Int), []⟩ : M_tree_Node)] : List M_tree_Node)] : List (List M_tree_Node)))).bind fun z2 =>
  jn (fun (j11 : (Bool) → Option _) =>
    (m_check_Check n (⟨[], z1⟩ : M_tree_Field) (1 : Int) (0 : Int)).bind fun r14 =>
    bif (eqb_api_Fault r14 (⟨0, 0, 0, 0⟩ : M_api_Fault)) then (
      (m_check_Check n (⟨[], z2⟩ : M_tree_Field) (1 : Int) (0 : Int)).bind fun r16 =>
      bif (eqb_api_Fault r16 (⟨(2 : Int), (1 : Int), 0, 0⟩ : M_api_Fault)) then (
        (m_check_Name n ([97] : List UInt8)).bind fun r18 =>
        bif r18 then (
          (m_check_Name n ([116] : List UInt8)).bind fun r20 =>
          j11 (!r20))
        else (
          j11 false))
      else (
        j11 false))
    else (
      j11 false)) (fun (s13 : Bool) =>
    some s13)
def m_retrospectref17_Codes (n : Nat) (x0 : M_retrospectref17_Field) : Option ((List (List M_retrospectref17_Node))) :=
  (loopM (fun (s13 : (List (List M_retrospectref17_Node)) × Int) =>
    bif decide (s13.2 < (x0.Lets.length : Int)) then (
      (getI x0.Lets s13.2).bind fun y14 =>
      (appM 24 s13.1 ([y14.Code] : List (List M_retrospectref17_Node))).bind fun y16 =>
      some (Lp.go (y16, wrap64 (s13.2 + (1 : Int)))))
    else (
      some (Lp.out s13.1))) n (([] : List (List M_retrospectref17_Node)), (0 : Int))).bind fun (t11 : (List (List M_retrospectref17_Node))) =>
  (appM 24 t11 x0.Outs).bind fun y18 =>
  some y18
def m_retrospectref17_Size (n : Nat) (x0 : M_retrospectref17_Field) : Option (Int) :=
  (m_retrospectref17_Codes n x0).bind fun r1 =>
  (loopM (fun (s11 : Int × Int) =>
    bif decide (s11.2 < (r1.length : Int)) then (
      (getI r1 s11.2).bind fun y12 =>
      some (Lp.go (wrap64 (s11.1 + (y12.length : Int)), wrap64 (s11.2 + (1 : Int)))))
    else (
      some (Lp.out s11.1))) n ((0 : Int), (0 : Int))).bind fun (t9 : Int) =>
  some t9
def m_retrospectref16_digit (x0 : Nat) : Option (Bool) :=
  jn (fun (j1 : (Bool) → Option _) =>
    bif decide (48 ≤ x0) then (
      j1 (decide (x0 ≤ 57)))
    else (
      j1 false)) (fun (s3 : Bool) =>
    some s3)
def m_retrospectref16_letter (x0 : Nat) : Option (Bool) :=
  jn (fun (j1 : (Bool) → Option _) =>
    bif decide (97 ≤ x0) then (
      bif decide (x0 ≤ 122) then (
        j1 true)
      else (
        bif decide (65 ≤ x0) then (
          bif decide (x0 ≤ 90) then (
            j1 true)
          else (
            j1 (decide (x0 = 95))))
        else (
          j1 (decide (x0 = 95)))))
    else (
      bif decide (65 ≤ x0) then (
        bif decide (x0 ≤ 90) then (
          j1 true)
        else (
          j1 (decide (x0 = 95))))
      else (
        j1 (decide (x0 = 95))))) (fun (s3 : Bool) =>
    some s3)
def m_retrospectref16_more (x0 : Int) (x1 : Nat) : Option (Bool) :=
  jn (fun (j11 : (Bool) → Option _) =>
    bif decide (x0 = (1 : Int)) then (
      (m_retrospectref16_digit x1).bind fun r14 =>
      bif r14 then (
        j11 true)
      else (
        bif decide (x0 = (2 : Int)) then (
          (m_retrospectref16_digit x1).bind fun r16 =>
          bif r16 then (
            j11 true)
          else (
            (m_retrospectref16_letter x1).bind fun r18 =>
            j11 r18))
        else (
          j11 false)))
    else (
      bif decide (x0 = (2 : Int)) then (
        (m_retrospectref16_digit x1).bind fun r20 =>
        bif r20 then (
          j11 true)
        else (
          (m_retrospectref16_letter x1).bind fun r22 =>
          j11 r22))
      else (
        j11 false))) (fun (s13 : Bool) =>
    some s13)
def m_retrospectref16_Kind (n : Nat) (x0 : Nat) : Option (Int) :=
  (m_retrospectref16_digit x0).bind fun r1 =>
  bif r1 then (
    some (1 : Int))
  else (
    (m_retrospectref16_letter x0).bind fun r3 =>
    bif r3 then (
      some (2 : Int))
    else (
      (loopM (fun (s15 : Int) =>
        (some ((([43, 45, 42, 47, 94, 40, 41, 91, 93, 44, 59, 61] : List UInt8).length : Int))).bind fun z16 =>
        bif decide (s15 < z16) then (
          (getS ([43, 45, 42, 47, 94, 40, 41, 91, 93, 44, 59, 61] : List UInt8) s15).bind fun y17 =>
          bif decide (y17 = x0) then (
            some (Lp.out (Lp.out ((3 : Int)))))
          else (
            some (Lp.go (wrap64 (s15 + (1 : Int))))))
        else (
          some (Lp.out (Lp.go ())))) n (0 : Int)).bind (lpK fun (_ : Unit) =>
      some (0 : Int))))
def m_retrospectref16_Most (x0 : Int) : Option (Int) :=
  bif decide (x0 = (1 : Int)) then (
    some (60 : Int))
  else (
    bif decide (x0 = (2 : Int)) then (
      some (12 : Int))
    else (
      some (1 : Int)))
def m_retrospectref16_Scan (n : Nat) (x0 : (List UInt8)) : Option ((List M_retrospectref16_Word) × Int) :=
  bif decide ((4000 : Int) < (x0.length : Int)) then (
    some (([] : List M_retrospectref16_Word), (4000 : Int)))
  else (
    (loopM (fun (s407 : (List M_retrospectref16_Word) × Bool × Int) =>
      bif decide (s407.2.2 < (x0.length : Int)) then (
        jn (fun (j507 : ((List M_retrospectref16_Word) × Bool) → Option _) =>
          (getS x0 s407.2.2).bind fun y510 =>
          jn (fun (j512 : (Bool) → Option _) =>
            bif decide (y510 = 10) then (
              j512 false)
            else (
              j512 s407.2.1)) (fun (s514 : Bool) =>
            jn (fun (j515 : (Bool) → Option _) =>
              bif decide (y510 = 35) then (
                j515 true)
              else (
                j515 s514)) (fun (s517 : Bool) =>
              jn (fun (j518 : (Bool) → Option _) =>
                bif s517 then (
                  j518 true)
                else (
                  bif decide (y510 = 32) then (
                    j518 true)
                  else (
                    bif decide (y510 = 9) then (
                      j518 true)
                    else (
                      bif decide (y510 = 10) then (
                        j518 true)
                      else (
                        j518 (decide (y510 = 13))))))) (fun (s520 : Bool) =>
                bif s520 then (
                  j507 (s407.1, s517))
                else (
                  jn (fun (j558 : ((List M_retrospectref16_Word)) → Option _) =>
                    jn (fun (j571 : (Bool) → Option _) =>
                      bif decide ((0 : Int) < (s407.1.length : Int)) then (
                        (getI s407.1 (wrap64 ((s407.1.length : Int) - (1 : Int)))).bind fun y575 =>
                        (getI s407.1 (wrap64 ((s407.1.length : Int) - (1 : Int)))).bind fun y577 =>
                        bif decide ((wrap64 (y575.At + (y577.Text.length : Int))) = s407.2.2) then (
                          (getI s407.1 (wrap64 ((s407.1.length : Int) - (1 : Int)))).bind fun y580 =>
                          (m_retrospectref16_more y580.Kind y510).bind fun r582 =>
                          j571 r582)
                        else (
                          j571 false))
                      else (
                        j571 false)) (fun (s573 : Bool) =>
                      bif s573 then (
                        (getI s407.1 (wrap64 ((s407.1.length : Int) - (1 : Int)))).bind fun y584 =>
                        (sub x0 s407.2.2 (wrap64 (s407.2.2 + (1 : Int)))).bind fun y586 =>
                        (catS y584.Text y586).bind fun y588 =>
                        (getI s407.1 (wrap64 ((s407.1.length : Int) - (1 : Int)))).bind fun y590 =>
                        j558 (List.set s407.1 (Int.toNat (wrap64 ((s407.1.length : Int) - (1 : Int)))) (⟨y590.Kind, y588, y590.At⟩ : M_retrospectref16_Word)))
                      else (
                        (m_retrospectref16_Kind n y510).bind fun r592 =>
                        (sub x0 s407.2.2 (wrap64 (s407.2.2 + (1 : Int)))).bind fun y594 =>
                        (appM 32 s407.1 ([(⟨r592, y594, s407.2.2⟩ : M_retrospectref16_Word)] : List M_retrospectref16_Word)).bind fun y596 =>
                        j558 y596))) (fun (s560 : (List M_retrospectref16_Word)) =>
                    (getI s560 (wrap64 ((s560.length : Int) - (1 : Int)))).bind fun y598 =>
                    jn (fun (j603 : (Bool) → Option _) =>
                      bif decide (y598.Kind = (0 : Int)) then (
                        j603 true)
                      else (
                        (m_retrospectref16_Most y598.Kind).bind fun r607 =>
                        j603 (decide (r607 < (y598.Text.length : Int))))) (fun (s605 : Bool) =>
                      bif s605 then (
                        some (Lp.out (Lp.out ((([] : List M_retrospectref16_Word), s407.2.2)))))
                      else (
                        j507 (s560, s517))))))))) (fun (s509 : (List M_retrospectref16_Word) × Bool) =>
          some (Lp.go (s509.1, s509.2, wrap64 (s407.2.2 + (1 : Int))))))
      else (
        some (Lp.out (Lp.go s407.1)))) n (([] : List M_retrospectref16_Word), false, (0 : Int))).bind (lpK fun (t405 : (List M_retrospectref16_Word)) =>
    some (t405, (-1 : Int))))
def m_retrospectref16_Right (n : Nat) (x0 : M_retrospectref16_Word) : Option (Bool) :=
  (m_retrospectref16_Scan n x0.Text).bind fun r1 =>
  jn (fun (j10 : (Bool) → Option _) =>
    bif decide (r1.2 < (0 : Int)) then (
      bif decide ((r1.1.length : Int) = (1 : Int)) then (
        (getI r1.1 (0 : Int)).bind fun y15 =>
        bif decide (y15.Kind = x0.Kind) then (
          (getI r1.1 (0 : Int)).bind fun y18 =>
          j10 (decide (y18.Text = x0.Text)))
        else (
          j10 false))
      else (
        j10 false))
    else (
      j10 false)) (fun (s12 : Bool) =>
    some s12)
def m_retrospectref19_Name (n : Nat) (x0 : (List UInt8)) : Option (Bool) :=
  jn (fun (j3 : (Bool) → Option _) =>
    (m_retrospectref16_Right n (⟨(2 : Int), x0, 0⟩ : M_retrospectref16_Word)).bind fun r6 =>
    bif r6 then (
      bif !decide (x0 = ([116] : List UInt8)) then (
        bif !decide (x0 = ([121] : List UInt8)) then (
          bif !decide (x0 = ([112] : List UInt8)) then (
            j3 (!decide (x0 = ([108, 101, 116] : List UInt8))))
          else (
            j3 false))
        else (
          j3 false))
      else (
        j3 false))
    else (
      j3 false)) (fun (s5 : Bool) =>
    some s5)
def m_retrospectref17_Arity (x0 : Int) : Option (Int) :=
  jn (fun (j1 : (Bool) → Option _) =>
    bif decide ((1 : Int) ≤ x0) then (
      j1 (decide (x0 ≤ (5 : Int))))
    else (
      j1 false)) (fun (s3 : Bool) =>
    bif s3 then (
      some (0 : Int))
    else (
      jn (fun (j4 : (Bool) → Option _) =>
        bif decide (x0 = (6 : Int)) then (
          j4 true)
        else (
          j4 (decide (x0 = (11 : Int))))) (fun (s6 : Bool) =>
        bif s6 then (
          some (1 : Int))
        else (
          jn (fun (j7 : (Bool) → Option _) =>
            bif decide ((7 : Int) ≤ x0) then (
              j7 (decide (x0 ≤ (10 : Int))))
            else (
              j7 false)) (fun (s9 : Bool) =>
            bif s9 then (
              some (2 : Int))
            else (
              some (-1 : Int)))))))
def m_retrospectref17_Wrong (n : Nat) (x0 : (List M_retrospectref17_Node)) : Option (Int) :=
  (loopM (fun (s19 : Int × Int) =>
    bif decide (s19.2 < (x0.length : Int)) then (
      (getI x0 s19.2).bind fun y20 =>
      (m_retrospectref17_Arity y20.Op).bind fun r22 =>
      jn (fun (j24 : (Bool) → Option _) =>
        bif decide (r22 < (0 : Int)) then (
          j24 true)
        else (
          j24 (decide (s19.1 < r22)))) (fun (s26 : Bool) =>
        bif s26 then (
          some (Lp.out (Lp.out (s19.2))))
        else (
          some (Lp.go (wrap64 ((wrap64 (s19.1 - r22)) + (1 : Int)), wrap64 (s19.2 + (1 : Int)))))))
    else (
      some (Lp.out (Lp.go s19.1)))) n ((0 : Int), (0 : Int))).bind (lpK fun (t17 : Int) =>
  bif decide (t17 = (1 : Int)) then (
    some (-1 : Int))
  else (
    some (x0.length : Int)))
def m_retrospectref02_Norm (n : Nat) (x0 : (List Nat)) : Option ((List Nat)) :=
  (loopM (fun (s19 : Int) =>
    jn (fun (j22 : (Bool) → Option _) =>
      bif decide ((0 : Int) < s19) then (
        (getI x0 (wrap64 (s19 - (1 : Int)))).bind fun y25 =>
        j22 (decide (y25 = 0)))
      else (
        j22 false)) (fun (s24 : Bool) =>
      bif s24 then (
        some (Lp.go (wrap64 (s19 - (1 : Int)))))
      else (
        some (Lp.out s19)))) n (x0.length : Int)).bind fun (t17 : Int) =>
  (sub x0 (0 : Int) t17).bind fun y27 =>
  (appM 4 ([] : List Nat) y27).bind fun y29 =>
  some y29
def m_retrospectref02_Same (n : Nat) (x0 : (List Nat)) (x1 : (List Nat)) : Option (Bool) :=
  bif !decide ((x0.length : Int) = (x1.length : Int)) then (
    some false)
  else (
    (loopM (fun (s13 : Int) =>
      bif decide (s13 < (x0.length : Int)) then (
        (getI x0 s13).bind fun y14 =>
        (getI x1 s13).bind fun y16 =>
        bif !decide (y14 = y16) then (
          some (Lp.out (Lp.out (false))))
        else (
          some (Lp.go (wrap64 (s13 + (1 : Int))))))
      else (
        some (Lp.out (Lp.go ())))) n (0 : Int)).bind (lpK fun (_ : Unit) =>
    some true))
def m_retrospectref07_ten (n : Nat) (x0 : (List Nat)) : Option (Nat × (List Nat)) :=
  (loopM (fun (s16 : (List Nat) × Nat × Int) =>
    bif decide ((0 : Int) ≤ s16.2.2) then (
      (getI s16.1 s16.2.2).bind fun y17 =>
      (some (((((s16.2.1 * 4294967296) % 18446744073709551616) + y17) % 18446744073709551616))).bind fun z19 =>
      (getI s16.1 s16.2.2).bind fun _ =>
      some (Lp.go ((List.set s16.1 (Int.toNat s16.2.2) ((z19 / 10) % 4294967296)), (z19 % 10), wrap64 (s16.2.2 - (1 : Int)))))
    else (
      some (Lp.out (s16.1, s16.2.1)))) n (x0, 0, wrap64 ((x0.length : Int) - (1 : Int)))).bind fun (t14 : (List Nat) × Nat) =>
  some (t14.2, t14.1)
def m_retrospectref07_Text (n : Nat) (x0 : (List Nat)) : Option ((List UInt8)) :=
  (m_retrospectref02_Norm n x0).bind fun r1 =>
  (loopM (fun (s29 : (List Nat) × (List UInt8)) =>
    jn (fun (j30 : (Bool) → Option _) =>
      bif decide ((0 : Int) < (s29.1.length : Int)) then (
        j30 true)
      else (
        j30 (decide (s29.2 = ([] : List UInt8))))) (fun (s32 : Bool) =>
      bif s32 then (
        (m_retrospectref07_ten n s29.1).bind fun r33 =>
        (sub ([48, 49, 50, 51, 52, 53, 54, 55, 56, 57] : List UInt8) (r33.1 : Int) (((r33.1 + 1) % 18446744073709551616) : Int)).bind fun y35 =>
        (catS y35 s29.2).bind fun y37 =>
        (m_retrospectref02_Norm n r33.2).bind fun r39 =>
        some (Lp.go (r39, y37)))
      else (
        some (Lp.out s29.2)))) n (r1, ([] : List UInt8))).bind fun (t27 : (List UInt8)) =>
  some t27
def m_retrospectref19_Node (n : Nat) (x0 : M_retrospectref17_Node) (x1 : Int) (x2 : Int) (x3 : Int) : Option (Bool) :=
  bif decide (x0.Op = (1 : Int)) then (
    jn (fun (j9 : (Bool) → Option _) =>
      bif decide (x0.I = (0 : Int)) then (
        (m_retrospectref02_Norm n x0.N).bind fun r13 =>
        (m_retrospectref02_Same n r13 x0.N).bind fun r15 =>
        bif r15 then (
          (m_retrospectref07_Text n x0.N).bind fun r18 =>
          j9 (decide ((r18.length : Int) ≤ (60 : Int))))
        else (
          j9 false))
      else (
        j9 false)) (fun (s11 : Bool) =>
      some s11))
  else (
    jn (fun (j20 : (Bool) → Option _) =>
      bif decide ((0 : Int) < (x0.N.length : Int)) then (
        j20 true)
      else (
        bif decide (x0.Op < (1 : Int)) then (
          j20 true)
        else (
          j20 (decide ((11 : Int) < x0.Op))))) (fun (s22 : Bool) =>
      bif s22 then (
        some false)
      else (
        bif decide (x0.Op = (3 : Int)) then (
          jn (fun (j23 : (Bool) → Option _) =>
            bif decide ((0 : Int) ≤ x0.I) then (
              j23 (decide (x0.I < x1)))
            else (
              j23 false)) (fun (s25 : Bool) =>
            some s25))
        else (
          bif decide (x0.Op = (4 : Int)) then (
            jn (fun (j26 : (Bool) → Option _) =>
              bif decide ((0 : Int) ≤ x0.I) then (
                j26 (decide (x0.I < x2)))
              else (
                j26 false)) (fun (s28 : Bool) =>
              some s28))
          else (
            bif decide (x0.Op = (5 : Int)) then (
              jn (fun (j29 : (Bool) → Option _) =>
                bif decide ((0 : Int) ≤ x0.I) then (
                  j29 (decide (x0.I < x3)))
                else (
                  j29 false)) (fun (s31 : Bool) =>
                some s31))
            else (
              bif decide (x0.Op = (11 : Int)) then (
                jn (fun (j32 : (Bool) → Option _) =>
                  bif decide ((-8 : Int) ≤ x0.I) then (
                    j32 (decide (x0.I ≤ (8 : Int))))
                  else (
                    j32 false)) (fun (s34 : Bool) =>
                  some s34))
              else (
                some (decide (x0.I = (0 : Int))))))))))
def m_retrospectref19_Place (n : Nat) (x0 : (List M_retrospectref17_Node)) (x1 : Int) (x2 : Int) (x3 : Int) : Option (Int) :=
  (m_retrospectref17_Wrong n x0).bind fun r1 =>
  (loopM (fun (s29 : Int) =>
    bif decide (s29 < (x0.length : Int)) then (
      jn (fun (j34 : (Bool) → Option _) =>
        bif decide (s29 = r1) then (
          j34 true)
        else (
          (getI x0 s29).bind fun y37 =>
          (m_retrospectref19_Node n y37 x1 x2 x3).bind fun r39 =>
          j34 (!r39))) (fun (s36 : Bool) =>
        bif s36 then (
          some (Lp.out (Lp.out (s29))))
        else (
          some (Lp.go (wrap64 (s29 + (1 : Int)))))))
    else (
      some (Lp.out (Lp.go ())))) n (0 : Int)).bind (lpK fun (_ : Unit) =>
  some r1)
def m_retrospectref17_Deep : Nat → (List M_retrospectref17_Node) → Int → Option (Int × Int)
  | 0, _, _ => none
  | n + 1, x0, x1 =>
    (getI x0 x1).bind fun y1 =>
    (m_retrospectref17_Arity y1.Op).bind fun r3 =>
    (loopM (fun (s13 : Int × Int × Int) =>
      bif decide ((0 : Int) < s13.2.2) then (
        (m_retrospectref17_Deep n x0 (wrap64 (s13.2.1 - (1 : Int)))).bind fun r14 =>
        some (Lp.go (max s13.1 r14.1, r14.2, wrap64 (s13.2.2 - (1 : Int)))))
      else (
        some (Lp.out (s13.1, s13.2.1)))) n ((0 : Int), x1, r3)).bind fun (t11 : Int × Int) =>
    some (wrap64 (t11.1 + (1 : Int)), t11.2)
def m_retrospectref17_Depth (n : Nat) (x0 : (List M_retrospectref17_Node)) : Option (Int) :=
  (m_retrospectref17_Wrong n x0).bind fun r1 =>
  bif decide ((0 : Int) ≤ r1) then (
    some (0 : Int))
  else (
    (m_retrospectref17_Deep n x0 (wrap64 ((x0.length : Int) - (1 : Int)))).bind fun r3 =>
    some r3.1)
def m_retrospectref19_Check (n : Nat) (x0 : M_retrospectref17_Field) (x1 : Int) (x2 : Int) : Option (Bool × M_A3_i64) :=
  jn (fun (j3 : (Bool) → Option _) =>
    bif decide (x1 < (1 : Int)) then (
      j3 true)
    else (
      bif decide ((6 : Int) < x1) then (
        j3 true)
      else (
        bif decide (x2 < (0 : Int)) then (
          j3 true)
        else (
          bif decide ((6 : Int) < x2) then (
            j3 true)
          else (
            bif !decide ((x0.Outs.length : Int) = x1) then (
              j3 true)
            else (
              bif decide ((10 : Int) < (x0.Lets.length : Int)) then (
                j3 true)
              else (
                (m_retrospectref17_Size n x0).bind fun r6 =>
                j3 (decide ((300 : Int) < r6))))))))) (fun (s5 : Bool) =>
    bif s5 then (
      some (true, (⟨0, 0, 0⟩ : M_A3_i64)))
    else (
      (m_retrospectref17_Codes n x0).bind fun r8 =>
      (loopM (fun (s190 : Int) =>
        bif decide (s190 < (r8.length : Int)) then (
          jn (fun (j225 : (Unit) → Option _) =>
            bif decide (s190 < (x0.Lets.length : Int)) then (
              (getI x0.Lets s190).bind fun y228 =>
              (m_retrospectref19_Name n y228.Name).bind fun r230 =>
              (loopM (fun (s248 : Bool × Int) =>
                bif decide (s248.2 < s190) then (
                  jn (fun (j254 : (Bool) → Option _) =>
                    bif s248.1 then (
                      (getI x0.Lets s248.2).bind fun y258 =>
                      (getI x0.Lets s190).bind fun y260 =>
                      j254 (!decide (y258.Name = y260.Name)))
                    else (
                      j254 false)) (fun (s256 : Bool) =>
                    some (Lp.go (s256, wrap64 (s248.2 + (1 : Int))))))
                else (
                  some (Lp.out s248.1))) n (r230, (0 : Int))).bind fun (t246 : Bool) =>
              bif !t246 then (
                some (Lp.out (Lp.out ((true, (⟨wrap64 (s190 + (1 : Int)), (1 : Int), (0 : Int)⟩ : M_A3_i64))))))
              else (
                j225 ()))
            else (
              j225 ())) (fun (_ : Unit) =>
            (getI r8 s190).bind fun y262 =>
            (m_retrospectref19_Place n y262 x1 x2 (min s190 (x0.Lets.length : Int))).bind fun r264 =>
            bif decide ((0 : Int) ≤ r264) then (
              some (Lp.out (Lp.out ((true, (⟨wrap64 (s190 + (1 : Int)), (0 : Int), r264⟩ : M_A3_i64))))))
            else (
              (getI r8 s190).bind fun y266 =>
              (m_retrospectref17_Depth n y266).bind fun r268 =>
              bif decide ((40 : Int) < r268) then (
                (getI r8 s190).bind fun y270 =>
                some (Lp.out (Lp.out ((true, (⟨wrap64 (s190 + (1 : Int)), (0 : Int), (y270.length : Int)⟩ : M_A3_i64))))))
              else (
                some (Lp.go (wrap64 (s190 + (1 : Int))))))))
        else (
          some (Lp.out (Lp.go ())))) n (0 : Int)).bind (lpK fun (_ : Unit) =>
      some (false, (⟨0, 0, 0⟩ : M_A3_i64)))))
def m_retrospectlaw19_Fault (x0 : Bool) (x1 : M_A3_i64) : Option (M_api_Fault) :=
  bif !x0 then (
    some (⟨0, 0, 0, 0⟩ : M_api_Fault))
  else (
    some (⟨(2 : Int), x1.a0, x1.a1, x1.a2⟩ : M_api_Fault))
def m_retrospectlaw19_CheckFields (n : Nat) (x0 : M_retrospectref17_Field) (x1 : Int) (x2 : Int) : Option (Bool) :=
  (m_retrospectref17_LongField n x0 (12 : Int) (310 : Int) (9 : Int)).bind fun r1 =>
  bif r1 then (
    (m_retrospectlaw19_works n ).bind fun r3 =>
    some r3)
  else (
    (m_retrospectref19_Check n x0 x1 x2).bind fun r5 =>
    jn (fun (j16 : (Bool) → Option _) =>
      (m_retrospectlaw17_ToField n x0).bind fun r19 =>
      (m_check_Check n r19 x1 x2).bind fun r21 =>
      (m_retrospectlaw19_Fault r5.1 r5.2).bind fun r23 =>
      bif (eqb_api_Fault r21 r23) then (
        (m_retrospectlaw19_works n ).bind fun r26 =>
        j16 r26)
      else (
        j16 false)) (fun (s18 : Bool) =>
      some s18))
def m_retrospectlaw19_CheckMore (n : Nat) (x0 : M_retrospectref17_Field) (x1 : Int) (x2 : Int) : Option (Bool) :=
  jn (fun (j3 : (Bool) → Option _) =>
    (m_retrospectref17_LongField n x0 (6 : Int) (60 : Int) (9 : Int)).bind fun r6 =>
    bif r6 then (
      j3 true)
    else (
      bif decide (x2 < (0 : Int)) then (
        j3 true)
      else (
        j3 (decide ((6 : Int) < x2))))) (fun (s5 : Bool) =>
    bif s5 then (
      (m_retrospectlaw19_works n ).bind fun r8 =>
      some r8)
    else (
      (m_retrospectlaw17_ToField n x0).bind fun r10 =>
      (m_check_Check n r10 (r10.Outs.length : Int) x1).bind fun r12 =>
      bif !(eqb_api_Fault r12 (⟨0, 0, 0, 0⟩ : M_api_Fault)) then (
        (m_retrospectlaw19_works n ).bind fun r14 =>
        some r14)
      else (
        (m_tree_Codes r10).bind fun r16 =>
        (loopM (fun (s60 : Int) =>
          bif decide (s60 < (r16.length : Int)) then (
            jn (fun (j69 : (Bool) → Option _) =>
              (getI r16 s60).bind fun y72 =>
              (m_tree_Right y72).bind fun r74 =>
              bif !r74 then (
                j69 true)
              else (
                (getI r16 s60).bind fun y76 =>
                (m_tree_Depth n y76).bind fun r78 =>
                j69 (decide ((40 : Int) < r78)))) (fun (s71 : Bool) =>
              bif s71 then (
                some (Lp.out (Lp.out (false))))
              else (
                some (Lp.go (wrap64 (s60 + (1 : Int)))))))
          else (
            some (Lp.out (Lp.go ())))) n (0 : Int)).bind (lpK fun (_ : Unit) =>
        jn (fun (j82 : (Bool) → Option _) =>
          bif decide ((wrap64 (x1 + x2)) ≤ (6 : Int)) then (
            (m_check_Check n r10 (r10.Outs.length : Int) (wrap64 (x1 + x2))).bind fun r85 =>
            j82 (!(eqb_api_Fault r85 (⟨0, 0, 0, 0⟩ : M_api_Fault))))
          else (
            j82 false)) (fun (s84 : Bool) =>
          bif s84 then (
            some false)
          else (
            (appM 24 ([] : List (List M_tree_Node)) r10.Outs).bind fun y93 =>
            (appM 24 y93 ([([(⟨(3 : Int), (r10.Outs.length : Int), []⟩ : M_tree_Node)] : List M_tree_Node)] : List (List M_tree_Node))).bind fun y95 =>
            (some (([(⟨(3 : Int), (r10.Outs.length : Int), []⟩ : M_tree_Node)] : List M_tree_Node))).bind fun _ =>
            jn (fun (j100 : (Bool) → Option _) =>
              bif decide ((r10.Outs.length : Int) < (6 : Int)) then (
                (m_tree_Size r10).bind fun r103 =>
                j100 (decide (r103 < (300 : Int))))
              else (
                j100 false)) (fun (s102 : Bool) =>
              jn (fun (j109 : (Bool) → Option _) =>
                (m_check_Check n (⟨r10.Lets, y95⟩ : M_tree_Field) (wrap64 ((r10.Outs.length : Int) + (1 : Int))) x1).bind fun r112 =>
                bif ((eqb_api_Fault r112 (⟨0, 0, 0, 0⟩ : M_api_Fault)) == s102) then (
                  (m_retrospectlaw19_works n ).bind fun r114 =>
                  j109 r114)
                else (
                  j109 false)) (fun (s111 : Bool) =>
                some s111))))))))
def m_retrospectlaw19_CheckNodes (n : Nat) (x0 : (List M_retrospectref17_Node)) (x1 : M_A3_i64) (x2 : (List UInt8)) : Option (Bool) :=
  jn (fun (j3 : (Bool) → Option _) =>
    (m_retrospectref17_Long n x0 (100 : Int) (9 : Int)).bind fun r6 =>
    bif r6 then (
      j3 true)
    else (
      j3 (decide ((100 : Int) < (x2.length : Int))))) (fun (s5 : Bool) =>
    bif s5 then (
      (m_retrospectlaw19_works n ).bind fun r8 =>
      some r8)
    else (
      (m_retrospectlaw17_To n x0).bind fun r10 =>
      (loopM (fun (s32 : Int) =>
        bif decide (s32 < (x0.length : Int)) then (
          (getI r10 s32).bind fun y33 =>
          (m_check_Node n y33 x1.a0 x1.a1 x1.a2).bind fun r35 =>
          (getI x0 s32).bind fun y37 =>
          (m_retrospectref19_Node n y37 x1.a0 x1.a1 x1.a2).bind fun r39 =>
          bif (r35 != r39) then (
            some (Lp.out (Lp.out (false))))
          else (
            some (Lp.go (wrap64 (s32 + (1 : Int))))))
        else (
          some (Lp.out (Lp.go ())))) n (0 : Int)).bind (lpK fun (_ : Unit) =>
      jn (fun (j53 : (Bool) → Option _) =>
        (m_check_Place n r10 x1.a0 x1.a1 x1.a2).bind fun r56 =>
        (m_retrospectref19_Place n x0 x1.a0 x1.a1 x1.a2).bind fun r58 =>
        bif decide (r56 = r58) then (
          (m_check_Name n x2).bind fun r61 =>
          (m_retrospectref19_Name n x2).bind fun r63 =>
          bif (r61 == r63) then (
            (m_retrospectlaw19_works n ).bind fun r66 =>
            j53 r66)
          else (
            j53 false))
        else (
          j53 false)) (fun (s55 : Bool) =>
        some s55))))
def m_show_rank (x0 : Int) : Option (Int) :=
  jn (fun (j1 : (Bool) → Option _) =>
    bif decide (x0 = (7 : Int)) then (
      j1 (decide (x0 = (7 : Int))))
    else (
      j1 (decide (x0 = (8 : Int))))) (fun (s3 : Bool) =>
    bif s3 then (
      some (1 : Int))
    else (
      jn (fun (j4 : (Bool) → Option _) =>
        bif decide (x0 = (9 : Int)) then (
          j4 (decide (x0 = (9 : Int))))
        else (
          j4 (decide (x0 = (10 : Int))))) (fun (s6 : Bool) =>
        bif s6 then (
          some (2 : Int))
        else (
          bif decide (x0 = (6 : Int)) then (
            some (3 : Int))
          else (
            bif decide (x0 = (11 : Int)) then (
              some (4 : Int))
            else (
              some (5 : Int)))))))
def m_show_leaf (n : Nat) (x0 : M_tree_Node) (x1 : (List (List UInt8))) : Option ((List UInt8)) :=
  bif decide (x0.Op = (1 : Int)) then (
    (m_digits_Text n x0.N).bind fun r1 =>
    some r1)
  else (
    bif decide (x0.Op = (3 : Int)) then (
      (m_strconv_Itoa x0.I).bind fun r3 =>
      (catS ([121, 91] : List UInt8) r3).bind fun y5 =>
      (catS y5 ([93] : List UInt8)).bind fun y7 =>
      some y7)
    else (
      bif decide (x0.Op = (4 : Int)) then (
        (m_strconv_Itoa x0.I).bind fun r9 =>
        (catS ([112, 91] : List UInt8) r9).bind fun y11 =>
        (catS y11 ([93] : List UInt8)).bind fun y13 =>
        some y13)
      else (
        bif decide (x0.Op = (5 : Int)) then (
          (getI x1 x0.I).bind fun y15 =>
          some y15)
        else (
          some ([116] : List UInt8)))))
def m_show_sign (x0 : Int) : Option ((List UInt8)) :=
  bif decide (x0 = (7 : Int)) then (
    some ([32, 43, 32] : List UInt8))
  else (
    bif decide (x0 = (8 : Int)) then (
      some ([32, 45, 32] : List UInt8))
    else (
      bif decide (x0 = (9 : Int)) then (
        some ([32, 42, 32] : List UInt8))
      else (
        some ([32, 47, 32] : List UInt8))))
def m_show_write (n : Nat) (x0 : (List M_tree_Node)) (x1 : (List (List UInt8))) : Option ((List UInt8)) :=
  (rangeL (fun (_ : Nat) (x168 : M_tree_Node) (s166 : (List M_show_piece)) =>
    (m_show_rank x168.Op).bind fun r170 =>
    jn (fun (j206 : (Int × (List UInt8)) → Option _) =>
      (m_tree_Arity x168.Op).bind fun r209 =>
      bif decide (r209 = (0 : Int)) then (
        (m_show_leaf n x168 x1).bind fun r211 =>
        j206 ((s166.length : Int), r211))
      else (
        bif decide (r209 = (1 : Int)) then (
          bif decide (x168.Op = (6 : Int)) then (
            (getI s166 (wrap64 ((s166.length : Int) - (1 : Int)))).bind fun y213 =>
            (m__show_piece__within y213 (3 : Int)).bind fun r215 =>
            (catS ([45] : List UInt8) r215).bind fun y217 =>
            j206 (wrap64 ((s166.length : Int) - (1 : Int)), y217))
          else (
            (getI s166 (wrap64 ((s166.length : Int) - (1 : Int)))).bind fun y219 =>
            (m__show_piece__within y219 (5 : Int)).bind fun r221 =>
            (catS r221 ([94] : List UInt8)).bind fun y223 =>
            (m_strconv_Itoa x168.I).bind fun r225 =>
            (catS y223 r225).bind fun y227 =>
            j206 (wrap64 ((s166.length : Int) - (1 : Int)), y227)))
        else (
          (getI s166 (wrap64 ((s166.length : Int) - (2 : Int)))).bind fun y229 =>
          (m__show_piece__within y229 r170).bind fun r231 =>
          (m_show_sign x168.Op).bind fun r233 =>
          (catS r231 r233).bind fun y235 =>
          (getI s166 (wrap64 ((wrap64 ((s166.length : Int) - (2 : Int))) + (1 : Int)))).bind fun y237 =>
          (m__show_piece__within y237 (wrap64 (r170 + (1 : Int)))).bind fun r239 =>
          (catS y235 r239).bind fun y241 =>
          j206 (wrap64 ((s166.length : Int) - (2 : Int)), y241)))) (fun (s208 : Int × (List UInt8)) =>
      (sub s166 (0 : Int) s208.1).bind fun y243 =>
      (appM 24 y243 ([(⟨s208.2, r170⟩ : M_show_piece)] : List M_show_piece)).bind fun y245 =>
      some (Lp.go y245))) x0 0 ([] : List M_show_piece)).bind (lpK fun (s247 : (List M_show_piece)) =>
  (getI s247 (0 : Int)).bind fun y248 =>
  some y248.text)
def m_show_Expr (n : Nat) (x0 : (List M_tree_Node)) (x1 : (List (List UInt8))) : Option ((List UInt8) × Bool) :=
  (m_check_Place n x0 (6 : Int) (6 : Int) (x1.length : Int)).bind fun r1 =>
  bif decide ((0 : Int) ≤ r1) then (
    some (([] : List UInt8), false))
  else (
    (m_show_write n x0 x1).bind fun r3 =>
    some (r3, true))
def m_retrospectlaw20_works (n : Nat)  : Option (Bool) :=
  (m_parse_Expr n ([49, 45, 40, 50, 45, 51, 41] : List UInt8) ([] : List (List UInt8))).bind fun r1 =>
  (m_parse_Expr n ([40, 40, 49, 32, 45, 32, 50, 41, 41, 45, 51] : List UInt8) ([] : List (List UInt8))).bind fun r3 =>
  (m_parse_Expr n ([40, 45, 116, 41, 94, 50] : List UInt8) ([] : List (List UInt8))).bind fun r5 =>
  (m_show_Expr n r1.1 ([] : List (List UInt8))).bind fun r7 =>
  (m_show_Expr n r3.1 ([] : List (List UInt8))).bind fun r9 =>
  (m_show_Expr n r5.1 ([] : List (List UInt8))).bind fun r11 =>
  jn (fun (j14 : (Bool) → Option _) =>
    bif (eqb_api_Fault r1.2 (⟨0, 0, 0, 0⟩ : M_api_Fault)) then (
      bif (eqb_api_Fault r3.2 (⟨0, 0, 0, 0⟩ : M_api_Fault)) then (
        bif (eqb_api_Fault r5.2 (⟨0, 0, 0, 0⟩ : M_api_Fault)) then (
          bif r7.2 then (
            bif r9.2 then (
              bif r11.2 then (
                (some (decide (r7.1 = ([49, 32, 45, 32, 40, 50, 32, 45, 32, 51, 41] : List UInt8)))).bind fun z17 =>
                bif z17 then (
                  bif decide (r9.1 = ([49, 32, 45, 32, 50, 32, 45, 32, 51] : List UInt8)) then (
                    j14 (decide (r11.1 = ([40, 45, 116, 41, 94, 50] : List UInt8))))
                  else (
                    j14 false))
                else (
                  j14 false))
              else (
                j14 false))
            else (
              j14 false))
          else (
            j14 false))
        else (
          j14 false))
      else (
        j14 false))
    else (
      j14 false)) (fun (s16 : Bool) =>
    some s16)
def m_show_Field (n : Nat) (x0 : M_tree_Field) : Option ((List UInt8) × Bool) :=
  (m_check_Check n x0 (x0.Outs.length : Int) (6 : Int)).bind fun r1 =>
  bif !(eqb_api_Fault r1 (⟨0, 0, 0, 0⟩ : M_api_Fault)) then (
    some (([] : List UInt8), false))
  else (
    (rangeL (fun (_ : Nat) (x24 : M_tree_Let) (s22 : (List UInt8) × (List (List UInt8))) =>
      (catS ([108, 101, 116, 32] : List UInt8) x24.Name).bind fun y26 =>
      (catS y26 ([32, 61, 32] : List UInt8)).bind fun y28 =>
      (m_show_write n x24.Code s22.2).bind fun r30 =>
      (catS y28 r30).bind fun y32 =>
      (catS y32 ([59, 10] : List UInt8)).bind fun y34 =>
      (appM 1 s22.1 y34).bind fun y36 =>
      (appM 16 s22.2 ([x24.Name] : List (List UInt8))).bind fun y38 =>
      some (Lp.go (y36, y38))) x0.Lets 0 (([] : List UInt8), ([] : List (List UInt8)))).bind (lpK fun (s40 : (List UInt8) × (List (List UInt8))) =>
    (rangeL (fun (_ : Nat) (x60 : (List M_tree_Node)) (s58 : (List (List UInt8))) =>
      (m_show_write n x60 s40.2).bind fun r62 =>
      (appM 16 s58 ([r62] : List (List UInt8))).bind fun y64 =>
      some (Lp.go y64)) x0.Outs 0 ([] : List (List UInt8))).bind (lpK fun (s66 : (List (List UInt8))) =>
    (m_strings_Join s66 ([44, 32] : List UInt8)).bind fun r67 =>
    (catS ([91] : List UInt8) r67).bind fun y69 =>
    (catS y69 ([93] : List UInt8)).bind fun y71 =>
    (appM 1 s40.1 y71).bind fun y73 =>
    some (y73, true))))
def m_retrospectlaw20_ShowBack (n : Nat) (x0 : M_retrospectref17_Field) : Option (Bool) :=
  (m_retrospectref17_LongField n x0 (12 : Int) (60 : Int) (9 : Int)).bind fun r1 =>
  bif r1 then (
    (m_retrospectlaw20_works n ).bind fun r3 =>
    some r3)
  else (
    (m_retrospectlaw17_ToField n x0).bind fun r5 =>
    (m_show_Field n r5).bind fun r7 =>
    jn (fun (j9 : (Bool) → Option _) =>
      bif !r7.2 then (
        j9 true)
      else (
        j9 (decide ((4000 : Int) < (r7.1.length : Int))))) (fun (s11 : Bool) =>
      bif s11 then (
        (m_retrospectlaw20_works n ).bind fun r12 =>
        some r12)
      else (
        (m_parse_Parse n r7.1).bind fun r14 =>
        jn (fun (j22 : (Bool) → Option _) =>
          bif (eqb_api_Fault r14.2 (⟨0, 0, 0, 0⟩ : M_api_Fault)) then (
            (m_tree_SameField n r5 r14.1).bind fun r25 =>
            bif r25 then (
              (m_check_Check n r14.1 (r14.1.Outs.length : Int) (6 : Int)).bind fun r27 =>
              bif (eqb_api_Fault r27 (⟨0, 0, 0, 0⟩ : M_api_Fault)) then (
                (m_retrospectlaw20_works n ).bind fun r29 =>
                j22 r29)
              else (
                j22 false))
            else (
              j22 false))
          else (
            j22 false)) (fun (s24 : Bool) =>
          some s24))))
def m_show_Rank (x0 : (List M_tree_Node)) : Option (Int) :=
  (m_tree_Right x0).bind fun r1 =>
  bif !r1 then (
    some (0 : Int))
  else (
    (getI x0 (wrap64 ((x0.length : Int) - (1 : Int)))).bind fun y3 =>
    (m_show_rank y3.Op).bind fun r5 =>
    some r5)
def m_retrospectref20_Rank (n : Nat) (x0 : (List M_retrospectref17_Node)) : Option (Int) :=
  (m_retrospectref17_Wrong n x0).bind fun r1 =>
  bif decide ((0 : Int) ≤ r1) then (
    some (0 : Int))
  else (
    (getI x0 (wrap64 ((x0.length : Int) - (1 : Int)))).bind fun y3 =>
    jn (fun (j5 : (Bool) → Option _) =>
      bif decide (y3.Op = (7 : Int)) then (
        j5 true)
      else (
        j5 (decide (y3.Op = (8 : Int))))) (fun (s7 : Bool) =>
      bif s7 then (
        some (1 : Int))
      else (
        jn (fun (j8 : (Bool) → Option _) =>
          bif decide (y3.Op = (9 : Int)) then (
            j8 true)
          else (
            j8 (decide (y3.Op = (10 : Int))))) (fun (s10 : Bool) =>
          bif s10 then (
            some (2 : Int))
          else (
            bif decide (y3.Op = (6 : Int)) then (
              some (3 : Int))
            else (
              bif decide (y3.Op = (11 : Int)) then (
                some (4 : Int))
              else (
                some (5 : Int))))))))
def m_retrospectref17_Parts (n : Nat) (x0 : (List M_retrospectref17_Node)) : Option ((List (List M_retrospectref17_Node))) :=
  (getI x0 (wrap64 ((x0.length : Int) - (1 : Int)))).bind fun y1 =>
  (m_retrospectref17_Arity y1.Op).bind fun r3 =>
  bif decide (r3 = (0 : Int)) then (
    some ([] : List (List M_retrospectref17_Node)))
  else (
    (m_retrospectref17_Deep n x0 (wrap64 ((wrap64 ((x0.length : Int) - (1 : Int))) - (1 : Int)))).bind fun r5 =>
    bif decide (r3 = (1 : Int)) then (
      (sub x0 (0 : Int) (wrap64 ((x0.length : Int) - (1 : Int)))).bind fun y7 =>
      some ([y7] : List (List M_retrospectref17_Node)))
    else (
      (sub x0 (0 : Int) r5.2).bind fun y9 =>
      (sub x0 r5.2 (wrap64 ((x0.length : Int) - (1 : Int)))).bind fun y11 =>
      some ([y9, y11] : List (List M_retrospectref17_Node))))
def m_retrospectref02_Of (n : Nat) (x0 : Nat) : Option ((List Nat)) :=
  (some (([((x0 % 4294967296) % 4294967296), ((x0 / 4294967296) % 4294967296)] : List Nat))).bind fun z1 =>
  (m_retrospectref02_Norm n z1).bind fun r2 =>
  some r2
def m_retrospectref02_At (x0 : (List Nat)) (x1 : Int) : Option (Nat) :=
  bif decide (x1 < (x0.length : Int)) then (
    (getI x0 x1).bind fun y1 =>
    some y1)
  else (
    some 0)
def m_retrospectref02_Add (n : Nat) (x0 : (List Nat)) (x1 : (List Nat)) : Option ((List Nat)) :=
  (mkM 4 (0 : Nat) (wrap64 ((max (x0.length : Int) (x1.length : Int)) + (1 : Int)))).bind fun y1 =>
  (loopM (fun (s24 : (List Nat) × Nat × Int) =>
    (some (decide (s24.2.2 < (wrap64 ((max (x0.length : Int) (x1.length : Int)) + (1 : Int)))))).bind fun z25 =>
    bif z25 then (
      (m_retrospectref02_At x0 s24.2.2).bind fun r26 =>
      (m_retrospectref02_At x1 s24.2.2).bind fun r28 =>
      (some (((s24.2.1 + ((r26 + r28) % 18446744073709551616)) % 18446744073709551616))).bind fun z30 =>
      (getI s24.1 s24.2.2).bind fun _ =>
      some (Lp.go ((List.set s24.1 (Int.toNat s24.2.2) ((z30 % 4294967296) % 4294967296)), (z30 / 4294967296), wrap64 (s24.2.2 + (1 : Int)))))
    else (
      some (Lp.out s24.1))) n (y1, 0, (0 : Int))).bind fun (t22 : (List Nat)) =>
  (m_retrospectref02_Norm n t22).bind fun r33 =>
  some r33
def m_retrospectref06_One (x0 : (List Nat)) : Option (Bool) :=
  jn (fun (j3 : (Bool) → Option _) =>
    bif decide ((x0.length : Int) = (1 : Int)) then (
      (getI x0 (0 : Int)).bind fun y6 =>
      j3 (decide (y6 = 1)))
    else (
      j3 false)) (fun (s5 : Bool) =>
    some s5)
def m_retrospectref01_Zeros (n : Nat) (x0 : Nat) : Option (Int) :=
  bif decide (x0 = 0) then (
    some (32 : Int))
  else (
    (loopM (fun (s5 : Nat × Int) =>
      bif decide ((s5.1 % 2) = 0) then (
        some (Lp.go ((s5.1 / 2), wrap64 (s5.2 + (1 : Int)))))
      else (
        some (Lp.out s5.2))) n (x0, (0 : Int))).bind fun (t3 : Int) =>
    some t3)
def m_retrospectref06_down (n : Nat) (x0 : (List Nat)) (x0o : Nat) (x0l : Nat) (x1 : Int) : Option (Nat × Nat × (List Nat)) :=
  (loopM (fun (s41 : (List Nat) × Int) =>
    bif decide (s41.2 < (x0l : Int)) then (
      jn (fun (j45 : (Nat) → Option _) =>
        bif decide ((wrap64 (s41.2 + (1 : Int))) < (x0l : Int)) then (
          (grd (winS (wrap64 (s41.2 + (1 : Int))) x0l)).bind fun _ =>
          (getI s41.1 ((x0o : Int) + (wrap64 (s41.2 + (1 : Int))))).bind fun y48 =>
          j45 y48)
        else (
          j45 0)) (fun (s47 : Nat) =>
        (grd (winS s41.2 x0l)).bind fun _ =>
        (getI s41.1 ((x0o : Int) + s41.2)).bind fun y51 =>
        (some (((((s47 * 4294967296) % 18446744073709551616) + y51) % 18446744073709551616))).bind fun z54 =>
        (grd (decide (0 ≤ x1))).bind fun _ =>
        (grd (winS s41.2 x0l)).bind fun _ =>
        (getI s41.1 ((x0o : Int) + s41.2)).bind fun _ =>
        (some ((List.set s41.1 (Int.toNat ((x0o : Int) + s41.2)) ((z54 / 2 ^ (min (Int.toNat x1) 64)) % 4294967296)))).bind fun z59 =>
        some (Lp.go (z59, wrap64 (s41.2 + (1 : Int))))))
    else (
      some (Lp.out s41.1))) n (x0, (0 : Int))).bind fun (t39 : (List Nat)) =>
  (loopM (fun (s84 : Nat × Nat) =>
    jn (fun (j88 : (Bool) → Option _) =>
      bif decide ((0 : Int) < (s84.2 : Int)) then (
        (grd (winS (wrap64 ((s84.2 : Int) - (1 : Int))) s84.2)).bind fun _ =>
        (getI t39 ((s84.1 : Int) + (wrap64 ((s84.2 : Int) - (1 : Int))))).bind fun y91 =>
        j88 (decide (y91 = 0)))
      else (
        j88 false)) (fun (s90 : Bool) =>
      bif s90 then (
        (grd (winC (0 : Int) (wrap64 ((s84.2 : Int) - (1 : Int))) s84.2)).bind fun _ =>
        some (Lp.go ((s84.1 + Int.toNat (0 : Int)), (Int.toNat (wrap64 ((s84.2 : Int) - (1 : Int))) - Int.toNat (0 : Int)))))
      else (
        some (Lp.out (s84.1, s84.2))))) n (x0o, x0l)).bind fun (t82 : Nat × Nat) =>
  some (t82.1, t82.2, t39)
def m_retrospectref06_odd (n : Nat) (x0 : (List Nat)) (x0o : Nat) (x0l : Nat) : Option (Nat × Nat × Int × (List Nat)) :=
  (loopM (fun (s13 : Nat × Nat × Int) =>
    (grd (winS (0 : Int) s13.2.1)).bind fun _ =>
    (getI x0 ((s13.1 : Int) + (0 : Int))).bind fun y14 =>
    bif decide (y14 = 0) then (
      (grd (winC (1 : Int) (s13.2.1 : Int) s13.2.1)).bind fun _ =>
      some (Lp.go ((s13.1 + Int.toNat (1 : Int)), (Int.toNat (s13.2.1 : Int) - Int.toNat (1 : Int)), wrap64 (s13.2.2 + (32 : Int)))))
    else (
      some (Lp.out (s13.1, s13.2.1, s13.2.2)))) n (x0o, x0l, (0 : Int))).bind fun (t11 : Nat × Nat × Int) =>
  (grd (winS (0 : Int) t11.2.1)).bind fun _ =>
  (getI x0 ((t11.1 : Int) + (0 : Int))).bind fun y18 =>
  (m_retrospectref01_Zeros n y18).bind fun r21 =>
  (m_retrospectref06_down n x0 t11.1 t11.2.1 r21).bind fun r23 =>
  some (r23.1, r23.2.1, wrap64 (t11.2.2 + r21), r23.2.2)
def m_retrospectref02_Cmp (n : Nat) (x0 : (List Nat)) (x1 : (List Nat)) : Option (Int) :=
  (loopM (fun (s15 : Int) =>
    bif decide ((0 : Int) ≤ s15) then (
      (m_retrospectref02_At x0 s15).bind fun r16 =>
      (m_retrospectref02_At x1 s15).bind fun r18 =>
      bif decide (r16 < r18) then (
        some (Lp.out (Lp.out ((-1 : Int)))))
      else (
        bif decide (r18 < r16) then (
          some (Lp.out (Lp.out ((1 : Int)))))
        else (
          some (Lp.go (wrap64 (s15 - (1 : Int)))))))
    else (
      some (Lp.out (Lp.go ())))) n (wrap64 ((max (x0.length : Int) (x1.length : Int)) - (1 : Int)))).bind (lpK fun (_ : Unit) =>
  some (0 : Int))
def m_retrospectref05_Less (n : Nat) (x0 : (List Nat)) (x0o : Nat) (x0l : Nat) (x1 : (List Nat)) : Option ((List Nat)) :=
  (loopM (fun (s30 : (List Nat) × Nat × Int) =>
    bif decide (s30.2.2 < (x0l : Int)) then (
      (grd (winS s30.2.2 x0l)).bind fun _ =>
      (getI s30.1 ((x0o : Int) + s30.2.2)).bind fun y31 =>
      (m_retrospectref02_At x1 s30.2.2).bind fun r34 =>
      jn (fun (j36 : (Nat × Nat) → Option _) =>
        bif decide (y31 < ((r34 + s30.2.1) % 18446744073709551616)) then (
          j36 (1, ((y31 + 4294967296) % 18446744073709551616)))
        else (
          j36 (0, y31))) (fun (s38 : Nat × Nat) =>
        (some (((s38.2 + 18446744073709551616 - ((r34 + s30.2.1) % 18446744073709551616)) % 18446744073709551616))).bind fun z39 =>
        (grd (winS s30.2.2 x0l)).bind fun _ =>
        (getI s30.1 ((x0o : Int) + s30.2.2)).bind fun _ =>
        (some ((List.set s30.1 (Int.toNat ((x0o : Int) + s30.2.2)) (z39 % 4294967296)))).bind fun z43 =>
        some (Lp.go (z43, s38.1, wrap64 (s30.2.2 + (1 : Int))))))
    else (
      some (Lp.out s30.1))) n (x0, 0, (0 : Int))).bind fun (t28 : (List Nat)) =>
  some t28
def m_retrospectref04_Mul (n : Nat) (x0 : (List Nat)) (x1 : (List Nat)) : Option ((List Nat)) :=
  (mkM 4 (0 : Nat) (wrap64 ((x0.length : Int) + (x1.length : Int)))).bind fun y1 =>
  (loopM (fun (s77 : (List Nat) × Int) =>
    bif decide (s77.2 < (x0.length : Int)) then (
      (loopM (fun (s92 : (List Nat) × Nat × Int) =>
        bif decide (s92.2.2 < (x1.length : Int)) then (
          (getI x0 s77.2).bind fun y93 =>
          (getI x1 s92.2.2).bind fun y95 =>
          (getI s92.1 (wrap64 (s77.2 + s92.2.2))).bind fun y97 =>
          (some (((s92.2.1 + ((((y93 * y95) % 18446744073709551616) + y97) % 18446744073709551616)) % 18446744073709551616))).bind fun z99 =>
          (some (((s92.2.1 + ((((y93 * y95) % 18446744073709551616) + y97) % 18446744073709551616)) % 18446744073709551616))).bind fun _ =>
          (getI s92.1 (wrap64 (s77.2 + s92.2.2))).bind fun _ =>
          (some ((List.set s92.1 (Int.toNat (wrap64 (s77.2 + s92.2.2))) ((z99 % 4294967296) % 4294967296)))).bind fun z103 =>
          some (Lp.go (z103, (z99 / 4294967296), wrap64 (s92.2.2 + (1 : Int)))))
        else (
          some (Lp.out (s92.1, s92.2.1)))) n (s77.1, 0, (0 : Int))).bind fun (t90 : (List Nat) × Nat) =>
      (getI t90.1 (wrap64 (s77.2 + (x1.length : Int)))).bind fun _ =>
      (some ((List.set t90.1 (Int.toNat (wrap64 (s77.2 + (x1.length : Int)))) (t90.2 % 4294967296)))).bind fun z106 =>
      some (Lp.go (z106, wrap64 (s77.2 + (1 : Int)))))
    else (
      some (Lp.out s77.1))) n (y1, (0 : Int))).bind fun (t75 : (List Nat)) =>
  (m_retrospectref02_Norm n t75).bind fun r107 =>
  some r107
def m_retrospectref06_double (n : Nat) (x0 : (List Nat)) (x1 : Int) : Option ((List Nat)) :=
  (mkM 4 (0 : Nat) (wrap64 (Int.tdiv x1 (32 : Int)))).bind fun y1 =>
  (appM 4 y1 x0).bind fun y3 =>
  (grd (decide (0 ≤ Int.tmod x1 (32 : Int)))).bind fun _ =>
  (some (([((1 * 2 ^ (min (Int.toNat (Int.tmod x1 (32 : Int))) 32)) % 4294967296)] : List Nat))).bind fun z6 =>
  (m_retrospectref04_Mul n y3 z6).bind fun r7 =>
  some r7
def m_retrospectref06_Gcd (n : Nat) (x0 : (List Nat)) (x1 : (List Nat)) : Option ((List Nat)) :=
  (m_retrospectref02_Norm n x0).bind fun r1 =>
  (m_retrospectref02_Norm n x1).bind fun r3 =>
  bif decide ((r1.length : Int) = (0 : Int)) then (
    some r3)
  else (
    bif decide ((r3.length : Int) = (0 : Int)) then (
      some r1)
    else (
      (m_retrospectref06_odd n r1 0 r1.length).bind fun r5 =>
      (m_retrospectref06_odd n r3 0 r3.length).bind fun r7 =>
      (loopM (fun (s43 : (List Nat) × Nat × Nat × (List Nat) × Nat × Nat) =>
        (subW s43.1 s43.2.1 s43.2.2.1).bind fun y44 =>
        (subW s43.2.2.2.1 s43.2.2.2.2.1 s43.2.2.2.2.2).bind fun y46 =>
        (m_retrospectref02_Cmp n y44 y46).bind fun r48 =>
        bif decide (r48 = (0 : Int)) then (
          some (Lp.out (s43.1, s43.2.1, s43.2.2.1)))
        else (
          jn (fun (j50 : ((List Nat) × Nat × Nat × (List Nat) × Nat × Nat) → Option _) =>
            bif decide (r48 < (0 : Int)) then (
              j50 (s43.2.2.2.1, s43.2.2.2.2.1, s43.2.2.2.2.2, s43.1, s43.2.1, s43.2.2.1))
            else (
              j50 (s43.1, s43.2.1, s43.2.2.1, s43.2.2.2.1, s43.2.2.2.2.1, s43.2.2.2.2.2))) (fun (s52 : (List Nat) × Nat × Nat × (List Nat) × Nat × Nat) =>
            (subW s52.2.2.2.1 s52.2.2.2.2.1 s52.2.2.2.2.2).bind fun y53 =>
            (m_retrospectref05_Less n s52.1 s52.2.1 s52.2.2.1 y53).bind fun r55 =>
            (m_retrospectref06_odd n r55 s52.2.1 s52.2.2.1).bind fun r57 =>
            some (Lp.go (r57.2.2.2, r57.1, r57.2.1, s52.2.2.2.1, s52.2.2.2.2.1, s52.2.2.2.2.2))))) n (r5.2.2.2, r5.1, r5.2.1, r7.2.2.2, r7.1, r7.2.1)).bind fun (t41 : (List Nat) × Nat × Nat) =>
      (subW t41.1 t41.2.1 t41.2.2).bind fun y59 =>
      (m_retrospectref06_double n y59 (min r5.2.2.1 r7.2.2.1)).bind fun r61 =>
      some r61))
def m_retrospectref03_Has (n : Nat) (x0 : (List Nat)) (x1 : Int) : Option (Bool) :=
  jn (fun (j1 : (Bool) → Option _) =>
    bif decide (x1 < (0 : Int)) then (
      j1 true)
    else (
      j1 (decide ((x0.length : Int) ≤ (wrap64 (Int.tdiv x1 (32 : Int))))))) (fun (s3 : Bool) =>
    bif s3 then (
      some false)
    else (
      (getI x0 (wrap64 (Int.tdiv x1 (32 : Int)))).bind fun y4 =>
      (loopM (fun (s10 : Nat × Int) =>
        bif decide (s10.2 < (Int.tmod x1 (32 : Int))) then (
          some (Lp.go ((s10.1 / 2), wrap64 (s10.2 + (1 : Int)))))
        else (
          some (Lp.out s10.1))) n (y4, (0 : Int))).bind fun (t8 : Nat) =>
      some (decide ((t8 % 2) = 1))))
def m_retrospectref03_Len (n : Nat) (x0 : (List Nat)) : Option (Int) :=
  (loopM (fun (s19 : Int) =>
    jn (fun (j22 : (Bool) → Option _) =>
      bif decide ((0 : Int) < s19) then (
        (m_retrospectref03_Has n x0 (wrap64 (s19 - (1 : Int)))).bind fun r25 =>
        j22 (!r25))
      else (
        j22 false)) (fun (s24 : Bool) =>
      bif s24 then (
        some (Lp.go (wrap64 (s19 - (1 : Int)))))
      else (
        some (Lp.out s19)))) n (wrap64 ((32 : Int) * (x0.length : Int)))).bind fun (t17 : Int) =>
  some t17
def m_retrospectref05_Double (n : Nat) (x0 : (List Nat)) (x1 : Bool) : Option ((List Nat)) :=
  jn (fun (j1 : (Nat) → Option _) =>
    bif x1 then (
      j1 1)
    else (
      j1 0)) (fun (s3 : Nat) =>
    (loopM (fun (s22 : (List Nat) × Nat × Int) =>
      bif decide (s22.2.2 < (s22.1.length : Int)) then (
        (getI s22.1 s22.2.2).bind fun y23 =>
        (getI s22.1 s22.2.2).bind fun y25 =>
        (getI s22.1 s22.2.2).bind fun _ =>
        (some ((List.set s22.1 (Int.toNat s22.2.2) ((((y25 * 2) % 4294967296) + s22.2.1) % 4294967296)))).bind fun z29 =>
        some (Lp.go (z29, (y23 / 2147483648), wrap64 (s22.2.2 + (1 : Int)))))
      else (
        some (Lp.out s22.1))) n (x0, s3, (0 : Int))).bind fun (t20 : (List Nat)) =>
    some t20)
def m_retrospectref05_Div (n : Nat) (x0 : (List Nat)) (x1 : (List Nat)) : Option ((List Nat) × (List Nat)) :=
  (mkM 4 (0 : Nat) (x0.length : Int)).bind fun y1 =>
  (mkM 4 (0 : Nat) (wrap64 ((x1.length : Int) + (1 : Int)))).bind fun y3 =>
  (m_retrospectref03_Len n x0).bind fun r5 =>
  (loopM (fun (s97 : (List Nat) × (List Nat) × Int) =>
    bif decide ((0 : Int) ≤ s97.2.2) then (
      jn (fun (j118 : ((List Nat) × (List Nat)) → Option _) =>
        (getI x0 (wrap64 (Int.tdiv s97.2.2 (32 : Int)))).bind fun y121 =>
        (grd (decide (0 ≤ Int.tmod s97.2.2 (32 : Int)))).bind fun _ =>
        (grd (((1 * 2 ^ (min (Int.toNat (Int.tmod s97.2.2 (32 : Int))) 32)) % 4294967296) != 0)).bind fun _ =>
        (m_retrospectref05_Double n s97.2.1 (decide (((y121 / ((1 * 2 ^ (min (Int.toNat (Int.tmod s97.2.2 (32 : Int))) 32)) % 4294967296)) % 2) = 1))).bind fun r125 =>
        (some (((1 * 2 ^ (min (Int.toNat (Int.tmod s97.2.2 (32 : Int))) 32)) % 4294967296))).bind fun _ =>
        (some ((y121 / ((1 * 2 ^ (min (Int.toNat (Int.tmod s97.2.2 (32 : Int))) 32)) % 4294967296)))).bind fun _ =>
        (some (((y121 / ((1 * 2 ^ (min (Int.toNat (Int.tmod s97.2.2 (32 : Int))) 32)) % 4294967296)) % 2))).bind fun _ =>
        (some (decide (((y121 / ((1 * 2 ^ (min (Int.toNat (Int.tmod s97.2.2 (32 : Int))) 32)) % 4294967296)) % 2) = 1))).bind fun _ =>
        (m_retrospectref05_Double n s97.1 false).bind fun r131 =>
        (m_retrospectref02_Cmp n r125 x1).bind fun r133 =>
        bif decide ((0 : Int) ≤ r133) then (
          (m_retrospectref05_Less n r125 0 r125.length x1).bind fun r135 =>
          (getI r131 (0 : Int)).bind fun y137 =>
          (getI r131 (0 : Int)).bind fun _ =>
          j118 ((List.set r131 (Int.toNat (0 : Int)) ((y137 + 1) % 4294967296)), r135))
        else (
          j118 (r131, r125))) (fun (s120 : (List Nat) × (List Nat)) =>
        some (Lp.go (s120.1, s120.2, wrap64 (s97.2.2 - (1 : Int))))))
    else (
      some (Lp.out (s97.1, s97.2.1)))) n (y1, y3, wrap64 (r5 - (1 : Int)))).bind fun (t95 : (List Nat) × (List Nat)) =>
  (m_retrospectref02_Norm n t95.1).bind fun r141 =>
  (m_retrospectref02_Norm n t95.2).bind fun r143 =>
  some (r141, r143)
def m_retrospectref06_Over (n : Nat) (x0 : (List Nat)) (x1 : (List Nat)) : Option ((List Nat)) :=
  (m_retrospectref06_One x1).bind fun r1 =>
  bif r1 then (
    (m_retrospectref02_Norm n x0).bind fun r3 =>
    some r3)
  else (
    (m_retrospectref05_Div n x0 x1).bind fun r5 =>
    some r5.1)
def m_retrospectref09_Norm (n : Nat) (x0 : M_retrospectref09_Frac) : Option (M_retrospectref09_Frac) :=
  (m_retrospectref02_Norm n x0.D).bind fun r1 =>
  (m_retrospectref02_Norm n x0.N).bind fun r3 =>
  jn (fun (j5 : (Bool) → Option _) =>
    bif decide ((r1.length : Int) = (0 : Int)) then (
      j5 true)
    else (
      j5 (decide ((r3.length : Int) = (0 : Int))))) (fun (s7 : Bool) =>
    bif s7 then (
      some (⟨false, ([] : List Nat), ([1] : List Nat)⟩ : M_retrospectref09_Frac))
    else (
      jn (fun (j32 : ((List Nat) × (List Nat)) → Option _) =>
        (m_retrospectref06_One r1).bind fun r35 =>
        bif !r35 then (
          (m_retrospectref06_Gcd n r3 r1).bind fun r37 =>
          (m_retrospectref06_Over n r3 r37).bind fun r39 =>
          (m_retrospectref06_Over n r1 r37).bind fun r41 =>
          j32 (r41, r39))
        else (
          j32 (r1, r3))) (fun (s34 : (List Nat) × (List Nat)) =>
        some (⟨x0.Neg, s34.2, s34.1⟩ : M_retrospectref09_Frac))))
def m_retrospectref09_Int (n : Nat) (x0 : Int) : Option (M_retrospectref09_Frac) :=
  bif decide (x0 < (0 : Int)) then (
    (some ((Int.toNat ((wrap64 (-(wrap64 (x0 + (1 : Int))))) % 18446744073709551616)))).bind fun z1 =>
    (m_retrospectref02_Of n z1).bind fun r2 =>
    (m_retrospectref02_Add n r2 ([1] : List Nat)).bind fun r4 =>
    (m_retrospectref09_Norm n (⟨true, r4, ([1] : List Nat)⟩ : M_retrospectref09_Frac)).bind fun r6 =>
    some r6)
  else (
    (m_retrospectref02_Of n (Int.toNat (x0 % 18446744073709551616))).bind fun r8 =>
    (m_retrospectref09_Norm n (⟨false, r8, ([1] : List Nat)⟩ : M_retrospectref09_Frac)).bind fun r10 =>
    some r10)
def m_retrospectref09_Up (x0 : M_retrospectref09_Frac) : Option (M_retrospectref08_Whole) :=
  some (⟨x0.Neg, x0.N⟩ : M_retrospectref08_Whole)
def m_retrospectref08_Norm (n : Nat) (x0 : M_retrospectref08_Whole) : Option (M_retrospectref08_Whole) :=
  (m_retrospectref02_Norm n x0.Abs).bind fun r1 =>
  jn (fun (j3 : (M_retrospectref08_Whole) → Option _) =>
    bif x0.Neg then (
      j3 (⟨decide ((0 : Int) < (r1.length : Int)), r1⟩ : M_retrospectref08_Whole))
    else (
      j3 (⟨false, r1⟩ : M_retrospectref08_Whole))) (fun (s5 : M_retrospectref08_Whole) =>
    some s5)
def m_retrospectref08_Sign (n : Nat) (x0 : M_retrospectref08_Whole) : Option (Int) :=
  (m_retrospectref08_Norm n x0).bind fun r1 =>
  bif decide ((r1.Abs.length : Int) = (0 : Int)) then (
    some (0 : Int))
  else (
    bif r1.Neg then (
      some (-1 : Int))
    else (
      some (1 : Int)))
def m_retrospectref08_Text (n : Nat) (x0 : M_retrospectref08_Whole) : Option ((List UInt8)) :=
  (m_retrospectref07_Text n x0.Abs).bind fun r1 =>
  jn (fun (j7 : ((List UInt8)) → Option _) =>
    (m_retrospectref08_Sign n x0).bind fun r10 =>
    bif decide (r10 < (0 : Int)) then (
      (catS ([45] : List UInt8) r1).bind fun y12 =>
      j7 y12)
    else (
      j7 r1)) (fun (s9 : (List UInt8)) =>
    some s9)
def m_retrospectref20_Int (n : Nat) (x0 : Int) : Option ((List UInt8)) :=
  (m_retrospectref09_Int n x0).bind fun r1 =>
  (m_retrospectref09_Up r1).bind fun r3 =>
  (m_retrospectref08_Text n r3).bind fun r5 =>
  some r5
def m_retrospectref20_within (me_retrospectref20_Write : (List M_retrospectref17_Node) → (List (List UInt8)) → Option ((List UInt8))) (n : Nat) (x0 : (List M_retrospectref17_Node)) (x1 : (List (List UInt8))) (x2 : Int) : Option ((List UInt8)) :=
  (me_retrospectref20_Write x0 x1).bind fun r1 =>
  (m_retrospectref20_Rank n x0).bind fun r3 =>
  bif decide (r3 < x2) then (
    (catS ([40] : List UInt8) r1).bind fun y5 =>
    (catS y5 ([41] : List UInt8)).bind fun y7 =>
    some y7)
  else (
    some r1)
def m_retrospectref20_Write : Nat → (List M_retrospectref17_Node) → (List (List UInt8)) → Option ((List UInt8))
  | 0, _, _ => none
  | n + 1, x0, x1 =>
    (getI x0 (wrap64 ((x0.length : Int) - (1 : Int)))).bind fun y1 =>
    (m_retrospectref17_Parts n x0).bind fun r3 =>
    bif decide (y1.Op = (1 : Int)) then (
      (m_retrospectref07_Text n y1.N).bind fun r5 =>
      some r5)
    else (
      bif decide (y1.Op = (2 : Int)) then (
        some ([116] : List UInt8))
      else (
        bif decide (y1.Op = (3 : Int)) then (
          (m_retrospectref20_Int n y1.I).bind fun r7 =>
          (catS ([121, 91] : List UInt8) r7).bind fun y9 =>
          (catS y9 ([93] : List UInt8)).bind fun y11 =>
          some y11)
        else (
          bif decide (y1.Op = (4 : Int)) then (
            (m_retrospectref20_Int n y1.I).bind fun r13 =>
            (catS ([112, 91] : List UInt8) r13).bind fun y15 =>
            (catS y15 ([93] : List UInt8)).bind fun y17 =>
            some y17)
          else (
            bif decide (y1.Op = (5 : Int)) then (
              (getI x1 y1.I).bind fun y19 =>
              some y19)
            else (
              bif decide (y1.Op = (6 : Int)) then (
                (getI r3 (0 : Int)).bind fun y21 =>
                (m_retrospectref20_within (m_retrospectref20_Write n) n y21 x1 (3 : Int)).bind fun r23 =>
                (catS ([45] : List UInt8) r23).bind fun y25 =>
                some y25)
              else (
                bif decide (y1.Op = (11 : Int)) then (
                  (getI r3 (0 : Int)).bind fun y27 =>
                  (m_retrospectref20_within (m_retrospectref20_Write n) n y27 x1 (5 : Int)).bind fun r29 =>
                  (catS r29 ([94] : List UInt8)).bind fun y31 =>
                  (m_retrospectref20_Int n y1.I).bind fun r33 =>
                  (catS y31 r33).bind fun y35 =>
                  some y35)
                else (
                  (m_retrospectref20_Rank n x0).bind fun r37 =>
                  (getI r3 (0 : Int)).bind fun y39 =>
                  (m_retrospectref20_within (m_retrospectref20_Write n) n y39 x1 r37).bind fun r41 =>
                  (catS r41 ([32] : List UInt8)).bind fun y43 =>
                  (sub ([43, 45, 42, 47] : List UInt8) (wrap64 (y1.Op - (7 : Int))) (wrap64 (y1.Op - (6 : Int)))).bind fun y45 =>
                  (catS y43 y45).bind fun y47 =>
                  (catS y47 ([32] : List UInt8)).bind fun y49 =>
                  (getI r3 (1 : Int)).bind fun y51 =>
                  (m_retrospectref20_within (m_retrospectref20_Write n) n y51 x1 (wrap64 (r37 + (1 : Int)))).bind fun r53 =>
                  (catS y49 r53).bind fun y55 =>
                  some y55)))))))
def m_retrospectlaw20_ShowExprs (n : Nat) (x0 : (List M_retrospectref17_Node)) (x1 : (List (List UInt8))) : Option (Bool) :=
  jn (fun (j3 : (Bool) → Option _) =>
    (m_retrospectref17_Long n x0 (60 : Int) (9 : Int)).bind fun r6 =>
    bif r6 then (
      j3 true)
    else (
      j3 (decide ((10 : Int) < (x1.length : Int))))) (fun (s5 : Bool) =>
    bif s5 then (
      (m_retrospectlaw20_works n ).bind fun r8 =>
      some r8)
    else (
      (loopM (fun (s22 : Int) =>
        bif decide (s22 < (x1.length : Int)) then (
          (getI x1 s22).bind fun y23 =>
          bif decide ((100 : Int) < (y23.length : Int)) then (
            (m_retrospectlaw20_works n ).bind fun r25 =>
            some (Lp.out (Lp.out (r25))))
          else (
            some (Lp.go (wrap64 (s22 + (1 : Int))))))
        else (
          some (Lp.out (Lp.go ())))) n (0 : Int)).bind (lpK fun (_ : Unit) =>
      (m_retrospectlaw17_To n x0).bind fun r27 =>
      (m_show_Expr n r27 x1).bind fun r29 =>
      (m_retrospectref19_Place n x0 (6 : Int) (6 : Int) (x1.length : Int)).bind fun r31 =>
      jn (fun (j37 : (Bool) → Option _) =>
        (m_show_Rank r27).bind fun r40 =>
        (m_retrospectref20_Rank n x0).bind fun r42 =>
        bif !decide (r40 = r42) then (
          j37 true)
        else (
          j37 (r29.2 != (decide (r31 < (0 : Int)))))) (fun (s39 : Bool) =>
        bif s39 then (
          some false)
        else (
          bif !(decide (r31 < (0 : Int))) then (
            jn (fun (j46 : (Bool) → Option _) =>
              bif decide (r29.1 = ([] : List UInt8)) then (
                (m_retrospectlaw20_works n ).bind fun r49 =>
                j46 r49)
              else (
                j46 false)) (fun (s48 : Bool) =>
              some s48))
          else (
            jn (fun (j55 : (Bool) → Option _) =>
              (m_retrospectref20_Write n x0 x1).bind fun r58 =>
              bif decide (r29.1 = r58) then (
                (m_retrospectlaw20_works n ).bind fun r60 =>
                j55 r60)
              else (
                j55 false)) (fun (s57 : Bool) =>
              some s57)))))))
def m_retrospectref19_Fine (n : Nat) (x0 : M_retrospectref17_Field) (x1 : Int) (x2 : Int) : Option (Bool) :=
  (m_retrospectref19_Check n x0 x1 x2).bind fun r1 =>
  some (!r1.1)
def m_retrospectref20_Fine (n : Nat) (x0 : M_retrospectref17_Field) : Option (Bool) :=
  (m_retrospectref19_Fine n x0 (x0.Outs.length : Int) (6 : Int)).bind fun r1 =>
  some r1
def m_retrospectref20_Field (n : Nat) (x0 : M_retrospectref17_Field) : Option ((List UInt8)) :=
  (loopM (fun (s45 : (List UInt8) × (List (List UInt8)) × Int) =>
    bif decide (s45.2.2 < (x0.Lets.length : Int)) then (
      (getI x0.Lets s45.2.2).bind fun y46 =>
      (catS ([108, 101, 116, 32] : List UInt8) y46.Name).bind fun y48 =>
      (catS y48 ([32, 61, 32] : List UInt8)).bind fun y50 =>
      (getI x0.Lets s45.2.2).bind fun y52 =>
      (m_retrospectref20_Write n y52.Code s45.2.1).bind fun r54 =>
      (catS y50 r54).bind fun y56 =>
      (catS y56 ([59, 10] : List UInt8)).bind fun y58 =>
      (catS s45.1 y58).bind fun y60 =>
      (getI x0.Lets s45.2.2).bind fun y62 =>
      (appM 16 s45.2.1 ([y62.Name] : List (List UInt8))).bind fun y64 =>
      some (Lp.go (y60, y64, wrap64 (s45.2.2 + (1 : Int)))))
    else (
      some (Lp.out (s45.1, s45.2.1)))) n (([] : List UInt8), ([] : List (List UInt8)), (0 : Int))).bind fun (t43 : (List UInt8) × (List (List UInt8))) =>
  (catS t43.1 ([91] : List UInt8)).bind fun y66 =>
  (loopM (fun (s98 : (List UInt8) × Int) =>
    bif decide (s98.2 < (x0.Outs.length : Int)) then (
      jn (fun (j101 : ((List UInt8)) → Option _) =>
        bif decide ((0 : Int) < s98.2) then (
          (catS s98.1 ([44, 32] : List UInt8)).bind fun y104 =>
          j101 y104)
        else (
          j101 s98.1)) (fun (s103 : (List UInt8)) =>
        (getI x0.Outs s98.2).bind fun y106 =>
        (m_retrospectref20_Write n y106 t43.2).bind fun r108 =>
        (catS s103 r108).bind fun y110 =>
        some (Lp.go (y110, wrap64 (s98.2 + (1 : Int))))))
    else (
      some (Lp.out s98.1))) n (y66, (0 : Int))).bind fun (t96 : (List UInt8)) =>
  (catS t96 ([93] : List UInt8)).bind fun y112 =>
  some y112
def m_retrospectlaw20_ShowFields (n : Nat) (x0 : M_retrospectref17_Field) : Option (Bool) :=
  (m_retrospectref17_LongField n x0 (12 : Int) (60 : Int) (9 : Int)).bind fun r1 =>
  bif r1 then (
    (m_retrospectlaw20_works n ).bind fun r3 =>
    some r3)
  else (
    (m_retrospectlaw17_ToField n x0).bind fun r5 =>
    (m_show_Field n r5).bind fun r7 =>
    (m_retrospectref20_Fine n x0).bind fun r9 =>
    bif !r9 then (
      jn (fun (j13 : (Bool) → Option _) =>
        bif decide (r7.1 = ([] : List UInt8)) then (
          bif !r7.2 then (
            (m_retrospectlaw20_works n ).bind fun r16 =>
            j13 r16)
          else (
            j13 false))
        else (
          j13 false)) (fun (s15 : Bool) =>
        some s15))
    else (
      jn (fun (j22 : (Bool) → Option _) =>
        (m_retrospectref20_Field n x0).bind fun r25 =>
        bif decide (r7.1 = r25) then (
          bif r7.2 then (
            (m_retrospectlaw20_works n ).bind fun r27 =>
            j22 r27)
          else (
            j22 false))
        else (
          j22 false)) (fun (s24 : Bool) =>
        some s24)))
def m_retrospectlaw20_ShowTexts (n : Nat) (x0 : (List UInt8)) : Option (Bool) :=
  bif decide ((1500 : Int) < (x0.length : Int)) then (
    (m_retrospectlaw20_works n ).bind fun r1 =>
    some r1)
  else (
    (m_parse_Parse n x0).bind fun r3 =>
    bif !(eqb_api_Fault r3.2 (⟨0, 0, 0, 0⟩ : M_api_Fault)) then (
      (m_retrospectlaw20_works n ).bind fun r5 =>
      some r5)
    else (
      (m_show_Field n r3.1).bind fun r7 =>
      jn (fun (j9 : (Bool) → Option _) =>
        bif !r7.2 then (
          j9 true)
        else (
          j9 (decide ((4000 : Int) < (r7.1.length : Int))))) (fun (s11 : Bool) =>
        bif s11 then (
          (m_retrospectlaw20_works n ).bind fun r12 =>
          some r12)
        else (
          (m_parse_Parse n r7.1).bind fun r14 =>
          (m_show_Field n r14.1).bind fun r16 =>
          jn (fun (j22 : (Bool) → Option _) =>
            bif (eqb_api_Fault r14.2 (⟨0, 0, 0, 0⟩ : M_api_Fault)) then (
              (m_tree_SameField n r3.1 r14.1).bind fun r25 =>
              bif r25 then (
                bif r16.2 then (
                  bif decide (r7.1 = r16.1) then (
                    (m_retrospectlaw20_works n ).bind fun r27 =>
                    j22 r27)
                  else (
                    j22 false))
                else (
                  j22 false))
              else (
                j22 false))
            else (
              j22 false)) (fun (s24 : Bool) =>
            some s24)))))
def m_retrospectref07_Read (n : Nat) (x0 : (List UInt8)) : Option ((List Nat)) :=
  (loopM (fun (s28 : (List Nat) × Int) =>
    bif decide (s28.2 < (x0.length : Int)) then (
      (m_retrospectref04_Mul n s28.1 ([10] : List Nat)).bind fun r29 =>
      (getS x0 s28.2).bind fun y31 =>
      (m_retrospectref02_Add n r29 ([((y31 + 4294967296 - 48) % 4294967296)] : List Nat)).bind fun r33 =>
      some (Lp.go (r33, wrap64 (s28.2 + (1 : Int)))))
    else (
      some (Lp.out s28.1))) n (([] : List Nat), (0 : Int))).bind fun (t26 : (List Nat)) =>
  some t26
def m_retrospectref07_Trim (n : Nat) (x0 : (List UInt8)) : Option ((List UInt8)) :=
  (loopM (fun (s23 : (List UInt8)) =>
    jn (fun (j26 : (Bool) → Option _) =>
      bif decide ((1 : Int) < (s23.length : Int)) then (
        (getS s23 (0 : Int)).bind fun y29 =>
        j26 (decide (y29 = 48)))
      else (
        j26 false)) (fun (s28 : Bool) =>
      bif s28 then (
        (sub s23 (1 : Int) (s23.length : Int)).bind fun y31 =>
        some (Lp.go y31))
      else (
        some (Lp.out s23)))) n x0).bind fun (t21 : (List UInt8)) =>
  some t21
def m_retrospectref07_Wrong (n : Nat) (x0 : (List UInt8)) : Option (Int) :=
  bif decide (x0 = ([] : List UInt8)) then (
    some (0 : Int))
  else (
    (loopM (fun (s27 : Int) =>
      bif decide (s27 < (x0.length : Int)) then (
        jn (fun (j32 : (Bool) → Option _) =>
          (getS x0 s27).bind fun y35 =>
          bif decide (y35 < 48) then (
            j32 true)
          else (
            (getS x0 s27).bind fun y37 =>
            bif decide (57 < y37) then (
              j32 true)
            else (
              j32 (decide ((60 : Int) ≤ s27))))) (fun (s34 : Bool) =>
          bif s34 then (
            some (Lp.out (Lp.out (s27))))
          else (
            some (Lp.go (wrap64 (s27 + (1 : Int)))))))
      else (
        some (Lp.out (Lp.go ())))) n (0 : Int)).bind (lpK fun (_ : Unit) =>
    some (-1 : Int)))
end Go.Proofs.YtpomhkkhdojpiaaDoor
