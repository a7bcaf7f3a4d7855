import Derived.Test.YtpomhkkhdojpiaaGreatDoorLibM
set_option maxRecDepth 100000
set_option maxHeartbeats 4000000
namespace Go.Proofs.YtpomhkkhdojpiaaGreatDoor
open Go Go.RowKit
structure M_tree_Node where
  Op : Int
  I : Int
  N : (List Nat)
structure M_tree_Let where
  Name : (List UInt8)
  Code : (List M_tree_Node)
structure M_tree_Field where
  Lets : (List M_tree_Let)
  Outs : (List (List M_tree_Node))
structure M_api_Fault where
  Kind : Int
  Step : Int
  Stage : Int
  At : Int
structure M_lex_Word where
  Kind : Int
  Text : (List UInt8)
  At : Int
structure M_parse_reader where
  words : (List M_lex_Word)
  at_ : Int
  end_ : Int
  deep : Int
  names : (List (List UInt8))
def eqb_api_Fault (x y : M_api_Fault) : Bool := ((x.Kind == y.Kind) && ((x.Step == y.Step) && ((x.Stage == y.Stage) && ((x.At == y.At) && true))))
structure M_retrospectref17_Node where
  Op : Int
  I : Int
  N : (List Nat)
structure M_retrospectref17_Let where
  Name : (List UInt8)
  Code : (List M_retrospectref17_Node)
structure M_retrospectref17_Field where
  Lets : (List M_retrospectref17_Let)
  Outs : (List (List M_retrospectref17_Node))
structure M_retrospectref16_Word where
  Kind : Int
  Text : (List UInt8)
  At : Int
structure M_retrospectref18_P where
  W : (List M_retrospectref16_Word)
  I : Int
  End : Int
  Deep : Int
  Names : (List (List UInt8))
  Bad : Int
structure M_A9_u8 where
  a0 : Nat
  a1 : Nat
  a2 : Nat
  a3 : Nat
  a4 : Nat
  a5 : Nat
  a6 : Nat
  a7 : Nat
  a8 : Nat
def ofl_A9_u8 : List Nat → M_A9_u8
  | [a0, a1, a2, a3, a4, a5, a6, a7, a8] => ⟨a0, a1, a2, a3, a4, a5, a6, a7, a8⟩
  | _ => (⟨0, 0, 0, 0, 0, 0, 0, 0, 0⟩ : M_A9_u8)
def B_S_u32 (xs : List Nat) : Prop := xs.length ≤ maxLen ∧ ∀ x ∈ xs, (x < 4294967296)
def B_retrospectref17_Node (x : M_retrospectref17_Node) : Prop := (-9223372036854775808 ≤ x.Op ∧ x.Op ≤ 9223372036854775807) ∧ (-9223372036854775808 ≤ x.I ∧ x.I ≤ 9223372036854775807) ∧ B_S_u32 x.N ∧ True
def B_S_retrospectref17_Node (xs : List M_retrospectref17_Node) : Prop := xs.length ≤ maxLen ∧ ∀ x ∈ xs, B_retrospectref17_Node x
def B_retrospectref17_Let (x : M_retrospectref17_Let) : Prop := (x.Name.length ≤ maxLen) ∧ B_S_retrospectref17_Node x.Code ∧ True
def B_S_retrospectref17_Let (xs : List M_retrospectref17_Let) : Prop := xs.length ≤ maxLen ∧ ∀ x ∈ xs, B_retrospectref17_Let x
def B_S_S_retrospectref17_Node (xs : List (List M_retrospectref17_Node)) : Prop := xs.length ≤ maxLen ∧ ∀ x ∈ xs, B_S_retrospectref17_Node x
def B_retrospectref17_Field (x : M_retrospectref17_Field) : Prop := B_S_retrospectref17_Let x.Lets ∧ B_S_S_retrospectref17_Node x.Outs ∧ True
def B_S_string (xs : List (List UInt8)) : Prop := xs.length ≤ maxLen ∧ ∀ x ∈ xs, (x.length ≤ maxLen)
def m_lex_skip (n : Nat) (x0 : (List UInt8)) (x1 : Int) : Option (Int) :=
  (loopM (fun (s23 : Int) =>
    bif decide (s23 < (x0.length : Int)) then (
      (getS x0 s23).bind fun y24 =>
      jn (fun (j26 : (Bool) → Option _) =>
        bif decide (y24 = 32) then (
          j26 (decide (y24 = 32)))
        else (
          bif decide (y24 = 9) then (
            j26 (decide (y24 = 9)))
          else (
            bif decide (y24 = 10) then (
              j26 (decide (y24 = 10)))
            else (
              j26 (decide (y24 = 13)))))) (fun (s28 : Bool) =>
        bif s28 then (
          some (Lp.go (wrap64 (s23 + (1 : Int)))))
        else (
          bif decide (y24 = 35) then (
            (sub x0 s23 (x0.length : Int)).bind fun y29 =>
            (m_strings_Cut y29 ([10] : List UInt8)).bind fun r31 =>
            some (Lp.go (wrap64 (s23 + (r31.1.length : Int)))))
          else (
            some (Lp.out (Lp.out (s23)))))))
    else (
      some (Lp.out (Lp.go s23)))) n x1).bind (lpK fun (t21 : Int) =>
  some t21)
def m_lex_digit (x0 : Nat) : Option (Bool) :=
  jn (fun (j1 : (Bool) → Option _) =>
    bif decide (48 ≤ x0) then (
      j1 (decide (x0 ≤ 57)))
    else (
      j1 false)) (fun (s3 : Bool) =>
    some s3)
def m_lex_letter (x0 : Nat) : Option (Bool) :=
  jn (fun (j1 : (Bool) → Option _) =>
    bif decide (97 ≤ x0) then (
      bif decide (x0 ≤ 122) then (
        j1 true)
      else (
        bif decide (65 ≤ x0) then (
          bif decide (x0 ≤ 90) then (
            j1 true)
          else (
            j1 (decide (x0 = 95))))
        else (
          j1 (decide (x0 = 95)))))
    else (
      bif decide (65 ≤ x0) then (
        bif decide (x0 ≤ 90) then (
          j1 true)
        else (
          j1 (decide (x0 = 95))))
      else (
        j1 (decide (x0 = 95))))) (fun (s3 : Bool) =>
    some s3)
def m_lex_sign (n : Nat) (x0 : Nat) : Option (Bool) :=
  (loopM (fun (s9 : Nat) =>
    bif decide (s9 < ([43, 45, 42, 47, 94, 40, 41, 91, 93, 44, 59, 61] : List UInt8).length) then (
      (some (((decR ([43, 45, 42, 47, 94, 40, 41, 91, 93, 44, 59, 61] : List UInt8) s9 : Nat) : Int))).bind fun z11 =>
      bif decide ((Int.toNat (z11 % 256)) = x0) then (
        some (Lp.out (Lp.out (true))))
      else (
        some (Lp.go (s9 + decW ([43, 45, 42, 47, 94, 40, 41, 91, 93, 44, 59, 61] : List UInt8) s9))))
    else (
      some (Lp.out (Lp.go ())))) n 0).bind (lpK fun (_ : Unit) =>
  some false)
def m_lex_kind (n : Nat) (x0 : Nat) : Option (Int) :=
  (m_lex_digit x0).bind fun r1 =>
  bif r1 then (
    some (1 : Int))
  else (
    (m_lex_letter x0).bind fun r3 =>
    bif r3 then (
      some (2 : Int))
    else (
      (m_lex_sign n x0).bind fun r5 =>
      bif r5 then (
        some (3 : Int))
      else (
        some (0 : Int))))
def m_lex_goes (x0 : Int) (x1 : Nat) : Option (Bool) :=
  jn (fun (j11 : (Bool) → Option _) =>
    bif decide (x0 = (1 : Int)) then (
      (m_lex_digit x1).bind fun r14 =>
      bif r14 then (
        j11 true)
      else (
        bif decide (x0 = (2 : Int)) then (
          (m_lex_letter x1).bind fun r16 =>
          bif r16 then (
            j11 true)
          else (
            (m_lex_digit x1).bind fun r18 =>
            j11 r18))
        else (
          j11 false)))
    else (
      bif decide (x0 = (2 : Int)) then (
        (m_lex_letter x1).bind fun r20 =>
        bif r20 then (
          j11 true)
        else (
          (m_lex_digit x1).bind fun r22 =>
          j11 r22))
      else (
        j11 false))) (fun (s13 : Bool) =>
    some s13)
def m_lex_first (n : Nat) (x0 : (List UInt8)) (x1 : Int) : Option (Int) :=
  (loopM (fun (s27 : Int) =>
    jn (fun (j32 : (Bool) → Option _) =>
      bif decide (s27 < (x0.length : Int)) then (
        (getS x0 s27).bind fun y35 =>
        (m_lex_goes x1 y35).bind fun r37 =>
        j32 r37)
      else (
        j32 false)) (fun (s34 : Bool) =>
      bif s34 then (
        some (Lp.go (wrap64 (s27 + (1 : Int)))))
      else (
        some (Lp.out s27)))) n (1 : Int)).bind fun (t25 : Int) =>
  some t25
def m_lex_most (x0 : Int) : Option (Int) :=
  bif decide (x0 = (1 : Int)) then (
    some (60 : Int))
  else (
    bif decide (x0 = (2 : Int)) then (
      some (12 : Int))
    else (
      some (1 : Int)))
def m_lex_Scan (n : Nat) (x0 : (List UInt8)) : Option ((List M_lex_Word) × M_api_Fault) :=
  bif decide ((4000 : Int) < (x0.length : Int)) then (
    some (([] : List M_lex_Word), (⟨(1 : Int), 0, 0, (4000 : Int)⟩ : M_api_Fault)))
  else (
    (m_lex_skip n x0 (0 : Int)).bind fun r1 =>
    (loopM (fun (s43 : (List M_lex_Word) × Int) =>
      bif decide (s43.2 < (x0.length : Int)) then (
        (getS x0 s43.2).bind fun y44 =>
        (m_lex_kind n y44).bind fun r46 =>
        bif decide (r46 = (0 : Int)) then (
          some (Lp.out (Lp.out ((([] : List M_lex_Word), (⟨(1 : Int), 0, 0, s43.2⟩ : M_api_Fault))))))
        else (
          (sub x0 s43.2 (x0.length : Int)).bind fun y48 =>
          (m_lex_first n y48 r46).bind fun r50 =>
          (m_lex_most r46).bind fun r52 =>
          bif decide (r52 < r50) then (
            (m_lex_most r46).bind fun r54 =>
            some (Lp.out (Lp.out ((([] : List M_lex_Word), (⟨(1 : Int), 0, 0, wrap64 (s43.2 + r54)⟩ : M_api_Fault))))))
          else (
            (sub x0 s43.2 (wrap64 (s43.2 + r50))).bind fun y56 =>
            (appM 32 s43.1 ([(⟨r46, y56, s43.2⟩ : M_lex_Word)] : List M_lex_Word)).bind fun y58 =>
            (m_lex_skip n x0 (wrap64 (s43.2 + r50))).bind fun r60 =>
            some (Lp.go (y58, r60)))))
      else (
        some (Lp.out (Lp.go s43.1)))) n (([] : List M_lex_Word), r1)).bind (lpK fun (t41 : (List M_lex_Word)) =>
    some (t41, (⟨0, 0, 0, 0⟩ : M_api_Fault))))
def m_parse_begin (n : Nat) (x0 : (List UInt8)) (x1 : (List (List UInt8))) : Option ((List M_lex_Word) × Int × Int × Int × (List (List UInt8)) × M_api_Fault) :=
  (m_lex_Scan n x0).bind fun r1 =>
  (appM 16 ([] : List (List UInt8)) x1).bind fun y3 =>
  some (r1.1, 0, (x0.length : Int), 0, y3, r1.2)
def m___parse_reader__next (x0_words : (List M_lex_Word)) (x0_at_ : Int) (x0_end_ : Int) (x0_deep : Int) (x0_names : (List (List UInt8))) : Option (M_lex_Word) :=
  bif decide (x0_at_ < (x0_words.length : Int)) then (
    (getI x0_words x0_at_).bind fun y1 =>
    some y1)
  else (
    some (⟨0, [], 0⟩ : M_lex_Word))
def m___parse_reader__has (x0_words : (List M_lex_Word)) (x0_at_ : Int) (x0_end_ : Int) (x0_deep : Int) (x0_names : (List (List UInt8))) (x1 : (List UInt8)) : Option (Bool × (List M_lex_Word) × Int × Int × Int) :=
  (m___parse_reader__next x0_words x0_at_ x0_end_ x0_deep x0_names).bind fun r1 =>
  bif !decide (r1.Text = x1) then (
    some (false, x0_words, x0_at_, x0_end_, x0_deep))
  else (
    some (true, x0_words, wrap64 (x0_at_ + (1 : Int)), x0_end_, x0_deep))
def m_parse_reserved (x0 : (List UInt8)) : Option (Bool) :=
  jn (fun (j1 : (Bool) → Option _) =>
    bif decide (x0 = ([116] : List UInt8)) then (
      j1 true)
    else (
      bif decide (x0 = ([121] : List UInt8)) then (
        j1 true)
      else (
        bif decide (x0 = ([112] : List UInt8)) then (
          j1 true)
        else (
          j1 (decide (x0 = ([108, 101, 116] : List UInt8))))))) (fun (s3 : Bool) =>
    some s3)
def m___parse_reader__fail (x0_words : (List M_lex_Word)) (x0_at_ : Int) (x0_end_ : Int) (x0_deep : Int) (x0_names : (List (List UInt8))) : Option (Except M_api_Fault (Unit)) :=
  jn (fun (j3 : (Int) → Option _) =>
    bif decide (x0_at_ < (x0_words.length : Int)) then (
      (getI x0_words x0_at_).bind fun y6 =>
      j3 y6.At)
    else (
      j3 x0_end_)) (fun (s5 : Int) =>
    some (Except.error (⟨(1 : Int), 0, 0, s5⟩ : M_api_Fault)))
def m___parse_reader__name (x0_words : (List M_lex_Word)) (x0_at_ : Int) (x0_end_ : Int) (x0_deep : Int) (x0_names : (List (List UInt8))) : Option (Except M_api_Fault ((List UInt8) × (List M_lex_Word) × Int × Int × Int)) :=
  (m___parse_reader__next x0_words x0_at_ x0_end_ x0_deep x0_names).bind fun r1 =>
  jn (fun (j12 : (Unit) → Option _) =>
    jn (fun (j17 : (Bool) → Option _) =>
      bif !decide (r1.Kind = (2 : Int)) then (
        j17 true)
      else (
        (m_parse_reserved r1.Text).bind fun r20 =>
        j17 r20)) (fun (s19 : Bool) =>
      bif s19 then (
        (m___parse_reader__fail x0_words x0_at_ x0_end_ x0_deep x0_names).bind (exK (fun e =>
          some (Except.error e)) fun _ =>
        j12 ()))
      else (
        j12 ()))) (fun (_ : Unit) =>
    some (Except.ok (r1.Text, x0_words, wrap64 (x0_at_ + (1 : Int)), x0_end_, x0_deep)))
def m___parse_reader__need (x0_words : (List M_lex_Word)) (x0_at_ : Int) (x0_end_ : Int) (x0_deep : Int) (x0_names : (List (List UInt8))) (x1 : (List UInt8)) : Option (Except M_api_Fault ((List M_lex_Word) × Int × Int × Int)) :=
  (m___parse_reader__has x0_words x0_at_ x0_end_ x0_deep x0_names x1).bind fun r1 =>
  bif !r1.1 then (
    (m___parse_reader__fail r1.2.1 r1.2.2.1 r1.2.2.2.1 r1.2.2.2.2 x0_names).bind (exK (fun e =>
      some (Except.error e)) fun _ =>
    some (Except.ok (r1.2.1, r1.2.2.1, r1.2.2.2.1, r1.2.2.2.2))))
  else (
    some (Except.ok (r1.2.1, r1.2.2.1, r1.2.2.2.1, r1.2.2.2.2)))
def m_digits_wrong (n : Nat) (x0 : (List UInt8)) : Option (Int) :=
  (loopM (fun (s27 : Int) =>
    bif decide (s27 < (x0.length : Int)) then (
      jn (fun (j32 : (Bool) → Option _) =>
        (getS x0 s27).bind fun y35 =>
        bif decide (y35 < 48) then (
          j32 true)
        else (
          (getS x0 s27).bind fun y37 =>
          bif decide (57 < y37) then (
            j32 true)
          else (
            j32 (decide (s27 = (60 : Int)))))) (fun (s34 : Bool) =>
        bif s34 then (
          some (Lp.out (Lp.out (s27))))
        else (
          some (Lp.go (wrap64 (s27 + (1 : Int)))))))
    else (
      some (Lp.out (Lp.go ())))) n (0 : Int)).bind (lpK fun (_ : Unit) =>
  bif decide (x0 = ([] : List UInt8)) then (
    some (0 : Int))
  else (
    some (-1 : Int)))
def m_limb_Mul (x0 : Nat) (x1 : Nat) (x2 : Nat) (x3 : Nat) : Option (Nat × Nat) :=
  (some (((((((x0 * x1) % 18446744073709551616) + x2) % 18446744073709551616) + x3) % 18446744073709551616))).bind fun z1 =>
  some (((z1 / 2 ^ 32) % 4294967296), (z1 % 4294967296))
def m_prod_row (x0 : (List Nat)) (x1 : Int) (x2 : (List Nat)) (x3 : Nat) (x4 : Nat) : Option ((List Nat)) :=
  (rangeL (fun (i23 : Nat) (x24 : Nat) (s22 : (List Nat) × Nat) =>
    (getI s22.1 (wrap64 (x1 + (i23 : Int)))).bind fun y26 =>
    (m_limb_Mul x3 x24 y26 s22.2).bind fun r28 =>
    (getI s22.1 (wrap64 (x1 + (i23 : Int)))).bind fun _ =>
    some (Lp.go ((List.set s22.1 (Int.toNat (wrap64 (x1 + (i23 : Int)))) r28.2), r28.1))) x2 0 (x0, x4)).bind (lpK fun (s32 : (List Nat) × Nat) =>
  (getI s32.1 (wrap64 (x1 + (x2.length : Int)))).bind fun _ =>
  some (List.set s32.1 (Int.toNat (wrap64 (x1 + (x2.length : Int)))) s32.2))
def m_nat_trim (n : Nat) (x0 : (List Nat)) : Option ((List Nat)) :=
  (loopM (fun (s19 : Int) =>
    jn (fun (j22 : (Bool) → Option _) =>
      bif decide ((0 : Int) < s19) then (
        (getI x0 (wrap64 (s19 - (1 : Int)))).bind fun y25 =>
        j22 (decide (y25 = 0)))
      else (
        j22 false)) (fun (s24 : Bool) =>
      bif s24 then (
        some (Lp.go (wrap64 (s19 - (1 : Int)))))
      else (
        some (Lp.out s19)))) n (x0.length : Int)).bind fun (t17 : Int) =>
  (sub x0 (0 : Int) t17).bind fun y27 =>
  some y27
def m_nat_fresh (x0 : (List Nat)) (x1 : Int) : Option ((List Nat)) :=
  (mkM 4 (0 : Nat) (wrap64 ((x0.length : Int) + x1))).bind fun y1 =>
  some (cpyL y1 x0)
def m_nat_Norm (n : Nat) (x0 : (List Nat)) : Option ((List Nat)) :=
  (m_nat_trim n x0).bind fun r1 =>
  (m_nat_fresh r1 (0 : Int)).bind fun r3 =>
  some r3
def m_prod_Word (n : Nat) (x0 : (List Nat)) (x1 : Nat) (x2 : Nat) : Option ((List Nat)) :=
  (mkM 4 (0 : Nat) (wrap64 ((x0.length : Int) + (1 : Int)))).bind fun y1 =>
  (m_prod_row y1 (0 : Int) x0 x1 x2).bind fun r3 =>
  (m_nat_Norm n r3).bind fun r5 =>
  some r5
def m_digits_Read (n : Nat) (x0 : (List UInt8)) : Option ((List Nat) × M_api_Fault) :=
  (m_digits_wrong n x0).bind fun r1 =>
  bif decide ((0 : Int) ≤ r1) then (
    some (([] : List Nat), (⟨(1 : Int), 0, 0, r1⟩ : M_api_Fault)))
  else (
    (loopM (fun (s49 : (List Nat) × Int) =>
      bif decide (s49.2 < (x0.length : Int)) then (
        (loopM (fun (s59 : Int × Nat × Nat × Int) =>
          jn (fun (j60 : (Bool) → Option _) =>
            bif decide (s59.2.2.2 < (9 : Int)) then (
              j60 (decide (s59.1 < (x0.length : Int))))
            else (
              j60 false)) (fun (s62 : Bool) =>
            bif s62 then (
              (getS x0 s59.1).bind fun y63 =>
              (some (((((s59.2.1 * 10) % 4294967296) + ((y63 + 256 - 48) % 256)) % 4294967296))).bind fun z65 =>
              some (Lp.go (wrap64 (s59.1 + (1 : Int)), z65, ((s59.2.2.1 * 10) % 4294967296), wrap64 (s59.2.2.2 + (1 : Int)))))
            else (
              some (Lp.out (s59.1, s59.2.1, s59.2.2.1))))) n (s49.2, 0, 1, (0 : Int))).bind fun (t57 : Int × Nat × Nat) =>
        (m_prod_Word n s49.1 t57.2.2 t57.2.1).bind fun r66 =>
        some (Lp.go (r66, t57.1)))
      else (
        some (Lp.out s49.1))) n (([] : List Nat), (0 : Int))).bind fun (t47 : (List Nat)) =>
    some (t47, (⟨0, 0, 0, 0⟩ : M_api_Fault)))
def m___parse_reader__small (x0_words : (List M_lex_Word)) (x0_at_ : Int) (x0_end_ : Int) (x0_deep : Int) (x0_names : (List (List UInt8))) : Option (Except M_api_Fault (Int × (List M_lex_Word) × Int × Int × Int)) :=
  (m___parse_reader__next x0_words x0_at_ x0_end_ x0_deep x0_names).bind fun r1 =>
  jn (fun (j8 : (Unit) → Option _) =>
    jn (fun (j11 : (Bool) → Option _) =>
      bif !decide (r1.Kind = (1 : Int)) then (
        j11 true)
      else (
        j11 (decide ((3 : Int) < (r1.Text.length : Int))))) (fun (s13 : Bool) =>
      bif s13 then (
        (m___parse_reader__fail x0_words x0_at_ x0_end_ x0_deep x0_names).bind (exK (fun e =>
          some (Except.error e)) fun _ =>
        j8 ()))
      else (
        j8 ()))) (fun (_ : Unit) =>
    (m_strconv_Atoi r1.Text).bind fun r16 =>
    some (Except.ok (r16.1, x0_words, wrap64 (x0_at_ + (1 : Int)), x0_end_, x0_deep)))
def m___parse_reader__component (x0_words : (List M_lex_Word)) (x0_at_ : Int) (x0_end_ : Int) (x0_deep : Int) (x0_names : (List (List UInt8))) (x1 : Int) : Option (Except M_api_Fault ((List M_tree_Node) × (List M_lex_Word) × Int × Int × Int)) :=
  (m___parse_reader__need x0_words (wrap64 (x0_at_ + (1 : Int))) x0_end_ x0_deep x0_names ([91] : List UInt8)).bind (exK (fun e =>
    some (Except.error e)) fun r1 =>
  (m___parse_reader__small r1.1 r1.2.1 r1.2.2.1 r1.2.2.2 x0_names).bind (exK (fun e =>
    some (Except.error e)) fun r3 =>
  (m___parse_reader__need r3.2.1 r3.2.2.1 r3.2.2.2.1 r3.2.2.2.2 x0_names ([93] : List UInt8)).bind (exK (fun e =>
    some (Except.error e)) fun r5 =>
  some (Except.ok (([(⟨x1, r3.1, []⟩ : M_tree_Node)] : List M_tree_Node), r5.1, r5.2.1, r5.2.2.1, r5.2.2.2)))))
def m___parse_reader__open (x0_words : (List M_lex_Word)) (x0_at_ : Int) (x0_end_ : Int) (x0_deep : Int) (x0_names : (List (List UInt8))) : Option (Except M_api_Fault ((List M_lex_Word) × Int × Int × Int)) :=
  jn (fun (j3 : (Int) → Option _) =>
    bif decide (x0_deep = (40 : Int)) then (
      (m___parse_reader__fail x0_words (wrap64 (x0_at_ - (1 : Int))) x0_end_ x0_deep x0_names).bind (exK (fun e =>
        some (Except.error e)) fun _ =>
      j3 (wrap64 (x0_at_ - (1 : Int)))))
    else (
      j3 x0_at_)) (fun (s5 : Int) =>
    some (Except.ok (x0_words, s5, x0_end_, wrap64 (x0_deep + (1 : Int)))))
def m___parse_reader__meant (x0_words : (List M_lex_Word)) (x0_at_ : Int) (x0_end_ : Int) (x0_deep : Int) (x0_names : (List (List UInt8))) (x1 : (List UInt8)) : Option (Int) :=
  (rangeL (fun (i7 : Nat) (x8 : (List UInt8)) (_ : Unit) =>
    bif decide (x8 = x1) then (
      some (Lp.out ((i7 : Int))))
    else (
      some (Lp.go ()))) x0_names 0 ()).bind (lpK fun (_ : Unit) =>
  some (-1 : Int))
def m___parse_reader__atom (me___parse_reader__expr : (List M_lex_Word) → Int → Int → Int → (List (List UInt8)) → Option (Except M_api_Fault ((List M_tree_Node) × (List M_lex_Word) × Int × Int × Int × (List (List UInt8))))) (n : Nat) (x0_words : (List M_lex_Word)) (x0_at_ : Int) (x0_end_ : Int) (x0_deep : Int) (x0_names : (List (List UInt8))) : Option (Except M_api_Fault ((List M_tree_Node) × (List M_lex_Word) × Int × Int × Int × (List (List UInt8)))) :=
  (m___parse_reader__next x0_words x0_at_ x0_end_ x0_deep x0_names).bind fun r1 =>
  bif decide (r1.Kind = (1 : Int)) then (
    (m_digits_Read n r1.Text).bind fun r3 =>
    (m_nat_Norm n r3.1).bind fun r5 =>
    some (Except.ok (([(⟨(1 : Int), 0, r5⟩ : M_tree_Node)] : List M_tree_Node), x0_words, wrap64 (x0_at_ + (1 : Int)), x0_end_, x0_deep, x0_names)))
  else (
    bif decide (r1.Text = ([116] : List UInt8)) then (
      some (Except.ok (([(⟨(2 : Int), 0, []⟩ : M_tree_Node)] : List M_tree_Node), x0_words, wrap64 (x0_at_ + (1 : Int)), x0_end_, x0_deep, x0_names)))
    else (
      bif decide (r1.Text = ([121] : List UInt8)) then (
        (m___parse_reader__component x0_words x0_at_ x0_end_ x0_deep x0_names (3 : Int)).bind (exK (fun e =>
          some (Except.error e)) fun r7 =>
        some (Except.ok (r7.1, r7.2.1, r7.2.2.1, r7.2.2.2.1, r7.2.2.2.2, x0_names))))
      else (
        bif decide (r1.Text = ([112] : List UInt8)) then (
          (m___parse_reader__component x0_words x0_at_ x0_end_ x0_deep x0_names (4 : Int)).bind (exK (fun e =>
            some (Except.error e)) fun r9 =>
          some (Except.ok (r9.1, r9.2.1, r9.2.2.1, r9.2.2.2.1, r9.2.2.2.2, x0_names))))
        else (
          (m___parse_reader__has x0_words x0_at_ x0_end_ x0_deep x0_names ([40] : List UInt8)).bind fun r11 =>
          bif r11.1 then (
            (m___parse_reader__open r11.2.1 r11.2.2.1 r11.2.2.2.1 r11.2.2.2.2 x0_names).bind (exK (fun e =>
              some (Except.error e)) fun r13 =>
            (me___parse_reader__expr r13.1 r13.2.1 r13.2.2.1 r13.2.2.2 x0_names).bind (exK (fun e =>
              some (Except.error e)) fun r15 =>
            (m___parse_reader__need r15.2.1 r15.2.2.1 r15.2.2.2.1 r15.2.2.2.2.1 r15.2.2.2.2.2 ([41] : List UInt8)).bind (exK (fun e =>
              some (Except.error e)) fun r17 =>
            some (Except.ok (r15.1, r17.1, r17.2.1, r17.2.2.1, wrap64 (r17.2.2.2 - (1 : Int)), r15.2.2.2.2.2))))))
          else (
            (m___parse_reader__name r11.2.1 r11.2.2.1 r11.2.2.2.1 r11.2.2.2.2 x0_names).bind (exK (fun e =>
              some (Except.error e)) fun r19 =>
            (m___parse_reader__meant r19.2.1 r19.2.2.1 r19.2.2.2.1 r19.2.2.2.2 x0_names r19.1).bind fun r21 =>
            some (Except.ok (([(⟨(5 : Int), r21, []⟩ : M_tree_Node)] : List M_tree_Node), r19.2.1, r19.2.2.1, r19.2.2.2.1, r19.2.2.2.2, x0_names))))))))
def m___parse_reader__power (me___parse_reader__expr : (List M_lex_Word) → Int → Int → Int → (List (List UInt8)) → Option (Except M_api_Fault ((List M_tree_Node) × (List M_lex_Word) × Int × Int × Int × (List (List UInt8))))) (n : Nat) (x0_words : (List M_lex_Word)) (x0_at_ : Int) (x0_end_ : Int) (x0_deep : Int) (x0_names : (List (List UInt8))) : Option (Except M_api_Fault ((List M_tree_Node) × (List M_lex_Word) × Int × Int × Int × (List (List UInt8)))) :=
  (m___parse_reader__atom me___parse_reader__expr n x0_words x0_at_ x0_end_ x0_deep x0_names).bind (exK (fun e =>
    some (Except.error e)) fun r1 =>
  (m___parse_reader__has r1.2.1 r1.2.2.1 r1.2.2.2.1 r1.2.2.2.2.1 r1.2.2.2.2.2 ([94] : List UInt8)).bind fun r3 =>
  bif !r3.1 then (
    some (Except.ok (r1.1, r3.2.1, r3.2.2.1, r3.2.2.2.1, r3.2.2.2.2, r1.2.2.2.2.2)))
  else (
    (m___parse_reader__has r3.2.1 r3.2.2.1 r3.2.2.2.1 r3.2.2.2.2 r1.2.2.2.2.2 ([45] : List UInt8)).bind fun r5 =>
    (m___parse_reader__small r5.2.1 r5.2.2.1 r5.2.2.2.1 r5.2.2.2.2 r1.2.2.2.2.2).bind (exK (fun e =>
      some (Except.error e)) fun r7 =>
    jn (fun (j9 : (Int) → Option _) =>
      bif r5.1 then (
        j9 (wrap64 (-r7.1)))
      else (
        j9 r7.1)) (fun (s11 : Int) =>
      (appM 40 r1.1 ([(⟨(11 : Int), s11, []⟩ : M_tree_Node)] : List M_tree_Node)).bind fun y12 =>
      some (Except.ok (y12, r7.2.1, r7.2.2.1, r7.2.2.2.1, r7.2.2.2.2, r1.2.2.2.2.2))))))
def m___parse_reader__factor (me___parse_reader__expr : (List M_lex_Word) → Int → Int → Int → (List (List UInt8)) → Option (Except M_api_Fault ((List M_tree_Node) × (List M_lex_Word) × Int × Int × Int × (List (List UInt8))))) : Nat → (List M_lex_Word) → Int → Int → Int → (List (List UInt8)) → Option (Except M_api_Fault ((List M_tree_Node) × (List M_lex_Word) × Int × Int × Int × (List (List UInt8))))
  | 0, _, _, _, _, _ => none
  | n + 1, x0_words, x0_at_, x0_end_, x0_deep, x0_names =>
    (m___parse_reader__has x0_words x0_at_ x0_end_ x0_deep x0_names ([45] : List UInt8)).bind fun r1 =>
    bif !r1.1 then (
      (m___parse_reader__power me___parse_reader__expr n r1.2.1 r1.2.2.1 r1.2.2.2.1 r1.2.2.2.2 x0_names).bind (exK (fun e =>
        some (Except.error e)) fun r3 =>
      some (Except.ok (r3.1, r3.2.1, r3.2.2.1, r3.2.2.2.1, r3.2.2.2.2.1, r3.2.2.2.2.2))))
    else (
      (m___parse_reader__open r1.2.1 r1.2.2.1 r1.2.2.2.1 r1.2.2.2.2 x0_names).bind (exK (fun e =>
        some (Except.error e)) fun r5 =>
      (m___parse_reader__factor me___parse_reader__expr n r5.1 r5.2.1 r5.2.2.1 r5.2.2.2 x0_names).bind (exK (fun e =>
        some (Except.error e)) fun r7 =>
      (appM 40 r7.1 ([(⟨(6 : Int), 0, []⟩ : M_tree_Node)] : List M_tree_Node)).bind fun y9 =>
      some (Except.ok (y9, r7.2.1, r7.2.2.1, r7.2.2.2.1, wrap64 (r7.2.2.2.2.1 - (1 : Int)), r7.2.2.2.2.2)))))
def m___parse_reader__chain_o1___parse_reader__factor (me___parse_reader__expr : (List M_lex_Word) → Int → Int → Int → (List (List UInt8)) → Option (Except M_api_Fault ((List M_tree_Node) × (List M_lex_Word) × Int × Int × Int × (List (List UInt8))))) (n : Nat) (x0_words : (List M_lex_Word)) (x0_at_ : Int) (x0_end_ : Int) (x0_deep : Int) (x0_names : (List (List UInt8))) (x2 : (List UInt8)) (x3 : (List UInt8)) (x4 : Int) (x5 : Int) : Option (Except M_api_Fault ((List M_tree_Node) × (List M_lex_Word) × Int × Int × Int × (List (List UInt8)))) :=
  (m___parse_reader__factor me___parse_reader__expr n x0_words x0_at_ x0_end_ x0_deep x0_names).bind (exK (fun e =>
    some (Except.error e)) fun r1 =>
  loopM (fun (s41 : (List M_lex_Word) × Int × Int × Int × (List (List UInt8)) × (List M_tree_Node)) =>
    jn (fun (j46 : ((List M_lex_Word) × Int × Int × Int × Int) → Option _) =>
      (m___parse_reader__has s41.1 s41.2.1 s41.2.2.1 s41.2.2.2.1 s41.2.2.2.2.1 x2).bind fun r49 =>
      bif r49.1 then (
        j46 (r49.2.1, r49.2.2.1, r49.2.2.2.1, r49.2.2.2.2, x4))
      else (
        (m___parse_reader__has r49.2.1 r49.2.2.1 r49.2.2.2.1 r49.2.2.2.2 s41.2.2.2.2.1 x3).bind fun r51 =>
        bif r51.1 then (
          j46 (r51.2.1, r51.2.2.1, r51.2.2.2.1, r51.2.2.2.2, x5))
        else (
          some (Lp.out (Except.ok (s41.2.2.2.2.2, r51.2.1, r51.2.2.1, r51.2.2.2.1, r51.2.2.2.2, s41.2.2.2.2.1)))))) (fun (s48 : (List M_lex_Word) × Int × Int × Int × Int) =>
      (m___parse_reader__factor me___parse_reader__expr n s48.1 s48.2.1 s48.2.2.1 s48.2.2.2.1 s41.2.2.2.2.1).bind (exK (fun e =>
        some (Lp.out (Except.error e))) fun r53 =>
      (appM 40 s41.2.2.2.2.2 r53.1).bind fun y55 =>
      (appM 40 y55 ([(⟨s48.2.2.2.2, 0, []⟩ : M_tree_Node)] : List M_tree_Node)).bind fun y57 =>
      some (Lp.go (r53.2.1, r53.2.2.1, r53.2.2.2.1, r53.2.2.2.2.1, r53.2.2.2.2.2, y57))))) n (r1.2.1, r1.2.2.1, r1.2.2.2.1, r1.2.2.2.2.1, r1.2.2.2.2.2, r1.1))
def m___parse_reader__term (me___parse_reader__expr : (List M_lex_Word) → Int → Int → Int → (List (List UInt8)) → Option (Except M_api_Fault ((List M_tree_Node) × (List M_lex_Word) × Int × Int × Int × (List (List UInt8))))) (n : Nat) (x0_words : (List M_lex_Word)) (x0_at_ : Int) (x0_end_ : Int) (x0_deep : Int) (x0_names : (List (List UInt8))) : Option (Except M_api_Fault ((List M_tree_Node) × (List M_lex_Word) × Int × Int × Int × (List (List UInt8)))) :=
  (m___parse_reader__chain_o1___parse_reader__factor me___parse_reader__expr n x0_words x0_at_ x0_end_ x0_deep x0_names ([42] : List UInt8) ([47] : List UInt8) (9 : Int) (10 : Int)).bind (exK (fun e =>
    some (Except.error e)) fun r1 =>
  some (Except.ok (r1.1, r1.2.1, r1.2.2.1, r1.2.2.2.1, r1.2.2.2.2.1, r1.2.2.2.2.2)))
def m___parse_reader__chain_o1___parse_reader__term (me___parse_reader__expr : (List M_lex_Word) → Int → Int → Int → (List (List UInt8)) → Option (Except M_api_Fault ((List M_tree_Node) × (List M_lex_Word) × Int × Int × Int × (List (List UInt8))))) (n : Nat) (x0_words : (List M_lex_Word)) (x0_at_ : Int) (x0_end_ : Int) (x0_deep : Int) (x0_names : (List (List UInt8))) (x2 : (List UInt8)) (x3 : (List UInt8)) (x4 : Int) (x5 : Int) : Option (Except M_api_Fault ((List M_tree_Node) × (List M_lex_Word) × Int × Int × Int × (List (List UInt8)))) :=
  (m___parse_reader__term me___parse_reader__expr n x0_words x0_at_ x0_end_ x0_deep x0_names).bind (exK (fun e =>
    some (Except.error e)) fun r1 =>
  loopM (fun (s41 : (List M_lex_Word) × Int × Int × Int × (List (List UInt8)) × (List M_tree_Node)) =>
    jn (fun (j46 : ((List M_lex_Word) × Int × Int × Int × Int) → Option _) =>
      (m___parse_reader__has s41.1 s41.2.1 s41.2.2.1 s41.2.2.2.1 s41.2.2.2.2.1 x2).bind fun r49 =>
      bif r49.1 then (
        j46 (r49.2.1, r49.2.2.1, r49.2.2.2.1, r49.2.2.2.2, x4))
      else (
        (m___parse_reader__has r49.2.1 r49.2.2.1 r49.2.2.2.1 r49.2.2.2.2 s41.2.2.2.2.1 x3).bind fun r51 =>
        bif r51.1 then (
          j46 (r51.2.1, r51.2.2.1, r51.2.2.2.1, r51.2.2.2.2, x5))
        else (
          some (Lp.out (Except.ok (s41.2.2.2.2.2, r51.2.1, r51.2.2.1, r51.2.2.2.1, r51.2.2.2.2, s41.2.2.2.2.1)))))) (fun (s48 : (List M_lex_Word) × Int × Int × Int × Int) =>
      (m___parse_reader__term me___parse_reader__expr n s48.1 s48.2.1 s48.2.2.1 s48.2.2.2.1 s41.2.2.2.2.1).bind (exK (fun e =>
        some (Lp.out (Except.error e))) fun r53 =>
      (appM 40 s41.2.2.2.2.2 r53.1).bind fun y55 =>
      (appM 40 y55 ([(⟨s48.2.2.2.2, 0, []⟩ : M_tree_Node)] : List M_tree_Node)).bind fun y57 =>
      some (Lp.go (r53.2.1, r53.2.2.1, r53.2.2.2.1, r53.2.2.2.2.1, r53.2.2.2.2.2, y57))))) n (r1.2.1, r1.2.2.1, r1.2.2.2.1, r1.2.2.2.2.1, r1.2.2.2.2.2, r1.1))
def m___parse_reader__expr : Nat → (List M_lex_Word) → Int → Int → Int → (List (List UInt8)) → Option (Except M_api_Fault ((List M_tree_Node) × (List M_lex_Word) × Int × Int × Int × (List (List UInt8))))
  | 0, _, _, _, _, _ => none
  | n + 1, x0_words, x0_at_, x0_end_, x0_deep, x0_names =>
    (m___parse_reader__chain_o1___parse_reader__term (m___parse_reader__expr n) n x0_words x0_at_ x0_end_ x0_deep x0_names ([43] : List UInt8) ([45] : List UInt8) (7 : Int) (8 : Int)).bind (exK (fun e =>
      some (Except.error e)) fun r1 =>
    some (Except.ok (r1.1, r1.2.1, r1.2.2.1, r1.2.2.2.1, r1.2.2.2.2.1, r1.2.2.2.2.2)))
def m___parse_reader__field (n : Nat) (x0_words : (List M_lex_Word)) (x0_at_ : Int) (x0_end_ : Int) (x0_deep : Int) (x0_names : (List (List UInt8))) : Option (Except M_api_Fault (M_tree_Field × (List M_lex_Word) × Int × Int × Int × (List (List UInt8)))) :=
  (loopM (fun (s18 : (List M_lex_Word) × Int × Int × Int × (List (List UInt8)) × (List M_tree_Let)) =>
    (m___parse_reader__has s18.1 s18.2.1 s18.2.2.1 s18.2.2.2.1 s18.2.2.2.2.1 ([108, 101, 116] : List UInt8)).bind fun r19 =>
    bif r19.1 then (
      (m___parse_reader__name r19.2.1 r19.2.2.1 r19.2.2.2.1 r19.2.2.2.2 s18.2.2.2.2.1).bind (exK (fun e =>
        some (Lp.out (Lp.out (Except.error e)))) fun r21 =>
      (m___parse_reader__need r21.2.1 r21.2.2.1 r21.2.2.2.1 r21.2.2.2.2 s18.2.2.2.2.1 ([61] : List UInt8)).bind (exK (fun e =>
        some (Lp.out (Lp.out (Except.error e)))) fun r23 =>
      (m___parse_reader__expr n r23.1 r23.2.1 r23.2.2.1 r23.2.2.2 s18.2.2.2.2.1).bind (exK (fun e =>
        some (Lp.out (Lp.out (Except.error e)))) fun r25 =>
      (appM 40 s18.2.2.2.2.2 ([(⟨r21.1, r25.1⟩ : M_tree_Let)] : List M_tree_Let)).bind fun y27 =>
      (m___parse_reader__need r25.2.1 r25.2.2.1 r25.2.2.2.1 r25.2.2.2.2.1 r25.2.2.2.2.2 ([59] : List UInt8)).bind (exK (fun e =>
        some (Lp.out (Lp.out (Except.error e)))) fun r29 =>
      (appM 16 r25.2.2.2.2.2 ([r21.1] : List (List UInt8))).bind fun y31 =>
      some (Lp.go (r29.1, r29.2.1, r29.2.2.1, r29.2.2.2, y31, y27)))))))
    else (
      some (Lp.out (Lp.go (r19.2.1, r19.2.2.1, r19.2.2.2.1, r19.2.2.2.2, s18.2.2.2.2.1, s18.2.2.2.2.2))))) n (x0_words, x0_at_, x0_end_, x0_deep, x0_names, ([] : List M_tree_Let))).bind (lpK fun (t16 : (List M_lex_Word) × Int × Int × Int × (List (List UInt8)) × (List M_tree_Let)) =>
  (m___parse_reader__need t16.1 t16.2.1 t16.2.2.1 t16.2.2.2.1 t16.2.2.2.2.1 ([91] : List UInt8)).bind (exK (fun e =>
    some (Except.error e)) fun r33 =>
  (m___parse_reader__expr n r33.1 r33.2.1 r33.2.2.1 r33.2.2.2 t16.2.2.2.2.1).bind (exK (fun e =>
    some (Except.error e)) fun r35 =>
  (appM 24 ([] : List (List M_tree_Node)) ([r35.1] : List (List M_tree_Node))).bind fun y37 =>
  (loopM (fun (s57 : (List M_lex_Word) × Int × Int × Int × (List (List UInt8)) × (List (List M_tree_Node))) =>
    (m___parse_reader__has s57.1 s57.2.1 s57.2.2.1 s57.2.2.2.1 s57.2.2.2.2.1 ([44] : List UInt8)).bind fun r58 =>
    bif r58.1 then (
      (m___parse_reader__expr n r58.2.1 r58.2.2.1 r58.2.2.2.1 r58.2.2.2.2 s57.2.2.2.2.1).bind (exK (fun e =>
        some (Lp.out (Lp.out (Except.error e)))) fun r60 =>
      (appM 24 s57.2.2.2.2.2 ([r60.1] : List (List M_tree_Node))).bind fun y62 =>
      some (Lp.go (r60.2.1, r60.2.2.1, r60.2.2.2.1, r60.2.2.2.2.1, r60.2.2.2.2.2, y62))))
    else (
      some (Lp.out (Lp.go (r58.2.1, r58.2.2.1, r58.2.2.2.1, r58.2.2.2.2, s57.2.2.2.2.1, s57.2.2.2.2.2))))) n (r35.2.1, r35.2.2.1, r35.2.2.2.1, r35.2.2.2.2.1, r35.2.2.2.2.2, y37)).bind (lpK fun (t55 : (List M_lex_Word) × Int × Int × Int × (List (List UInt8)) × (List (List M_tree_Node))) =>
  (m___parse_reader__need t55.1 t55.2.1 t55.2.2.1 t55.2.2.2.1 t55.2.2.2.2.1 ([93] : List UInt8)).bind (exK (fun e =>
    some (Except.error e)) fun r64 =>
  some (Except.ok ((⟨t16.2.2.2.2.2, t55.2.2.2.2.2⟩ : M_tree_Field), r64.1, r64.2.1, r64.2.2.1, r64.2.2.2, t55.2.2.2.2.1)))))))
def m_parse_caught_o1_api_Fault (x0 : M_api_Fault) (x1 : M_api_Fault) : Option (Bool × M_api_Fault) :=
  some (true, x1)
def m_parse_Parse_1_opan (x0 : M_api_Fault) (x1 : M_tree_Field) (e : M_api_Fault) : Option (M_api_Fault × M_tree_Field) :=
  (m_parse_caught_o1_api_Fault x0 e).bind fun r1 =>
  bif r1.1 then (
    some (r1.2, (⟨[], []⟩ : M_tree_Field)))
  else (
    some (r1.2, x1))
def m___parse_reader__over (x0_words : (List M_lex_Word)) (x0_at_ : Int) (x0_end_ : Int) (x0_deep : Int) (x0_names : (List (List UInt8))) : Option (Except M_api_Fault (Unit)) :=
  bif decide (x0_at_ < (x0_words.length : Int)) then (
    (m___parse_reader__fail x0_words x0_at_ x0_end_ x0_deep x0_names).bind (exK (fun e =>
      some (Except.error e)) fun _ =>
    some (Except.ok ())))
  else (
    some (Except.ok ()))
def m_parse_caught_o1_nil (x0 : M_api_Fault) : Option (Bool) :=
  some false
def m_parse_Parse_1_oret (x0 : M_api_Fault) (x1 : M_tree_Field) : Option (M_tree_Field) :=
  (m_parse_caught_o1_nil x0).bind fun r1 =>
  bif r1 then (
    some (⟨[], []⟩ : M_tree_Field))
  else (
    some x1)
def m_parse_Parse (n : Nat) (x0 : (List UInt8)) : Option (M_tree_Field × M_api_Fault) :=
  (m_parse_begin n x0 ([] : List (List UInt8))).bind fun r1 =>
  bif !(eqb_api_Fault r1.2.2.2.2.2 (⟨0, 0, 0, 0⟩ : M_api_Fault)) then (
    some ((⟨[], []⟩ : M_tree_Field), r1.2.2.2.2.2))
  else (
    (m___parse_reader__field n r1.1 r1.2.1 r1.2.2.1 r1.2.2.2.1 r1.2.2.2.2.1).bind (exK (fun e =>
      (m_parse_Parse_1_opan r1.2.2.2.2.2 (⟨[], []⟩ : M_tree_Field) e).bind fun y9 =>
      some (y9.2, y9.1)) fun r7 =>
    (m___parse_reader__over r7.2.1 r7.2.2.1 r7.2.2.2.1 r7.2.2.2.2.1 r7.2.2.2.2.2).bind (exK (fun e =>
      (m_parse_Parse_1_opan r1.2.2.2.2.2 r7.1 e).bind fun y13 =>
      some (y13.2, y13.1)) fun _ =>
    (m_parse_Parse_1_oret (⟨0, 0, 0, 0⟩ : M_api_Fault) r7.1).bind fun y15 =>
    some (y15, (⟨0, 0, 0, 0⟩ : M_api_Fault)))))
def m_retrospectlaw18_works (n : Nat)  : Option (Bool) :=
  (m_parse_Parse n ([91, 45, 121, 91, 48, 93, 32, 43, 32, 50, 42, 116, 93] : List UInt8)).bind fun r1 =>
  (m_parse_Parse n ([91, 49] : List UInt8)).bind fun r3 =>
  jn (fun (j11 : (Bool) → Option _) =>
    bif (eqb_api_Fault r1.2 (⟨0, 0, 0, 0⟩ : M_api_Fault)) then (
      bif decide ((r1.1.Outs.length : Int) = (1 : Int)) then (
        (getI r1.1.Outs (0 : Int)).bind fun y14 =>
        bif decide ((y14.length : Int) = (6 : Int)) then (
          (getI r1.1.Outs (0 : Int)).bind fun y16 =>
          (getI y16 (5 : Int)).bind fun y18 =>
          bif decide (y18.Op = (7 : Int)) then (
            j11 (eqb_api_Fault r3.2 (⟨(1 : Int), 0, 0, (2 : Int)⟩ : M_api_Fault)))
          else (
            j11 false))
        else (
          j11 false))
      else (
        j11 false))
    else (
      j11 false)) (fun (s13 : Bool) =>
    some s13)
def m_retrospectref16_digit (x0 : Nat) : Option (Bool) :=
  jn (fun (j1 : (Bool) → Option _) =>
    bif decide (48 ≤ x0) then (
      j1 (decide (x0 ≤ 57)))
    else (
      j1 false)) (fun (s3 : Bool) =>
    some s3)
def m_retrospectref16_letter (x0 : Nat) : Option (Bool) :=
  jn (fun (j1 : (Bool) → Option _) =>
    bif decide (97 ≤ x0) then (
      bif decide (x0 ≤ 122) then (
        j1 true)
      else (
        bif decide (65 ≤ x0) then (
          bif decide (x0 ≤ 90) then (
            j1 true)
          else (
            j1 (decide (x0 = 95))))
        else (
          j1 (decide (x0 = 95)))))
    else (
      bif decide (65 ≤ x0) then (
        bif decide (x0 ≤ 90) then (
          j1 true)
        else (
          j1 (decide (x0 = 95))))
      else (
        j1 (decide (x0 = 95))))) (fun (s3 : Bool) =>
    some s3)
def m_retrospectref16_more (x0 : Int) (x1 : Nat) : Option (Bool) :=
  jn (fun (j11 : (Bool) → Option _) =>
    bif decide (x0 = (1 : Int)) then (
      (m_retrospectref16_digit x1).bind fun r14 =>
      bif r14 then (
        j11 true)
      else (
        bif decide (x0 = (2 : Int)) then (
          (m_retrospectref16_digit x1).bind fun r16 =>
          bif r16 then (
            j11 true)
          else (
            (m_retrospectref16_letter x1).bind fun r18 =>
            j11 r18))
        else (
          j11 false)))
    else (
      bif decide (x0 = (2 : Int)) then (
        (m_retrospectref16_digit x1).bind fun r20 =>
        bif r20 then (
          j11 true)
        else (
          (m_retrospectref16_letter x1).bind fun r22 =>
          j11 r22))
      else (
        j11 false))) (fun (s13 : Bool) =>
    some s13)
def m_retrospectref16_Kind (n : Nat) (x0 : Nat) : Option (Int) :=
  (m_retrospectref16_digit x0).bind fun r1 =>
  bif r1 then (
    some (1 : Int))
  else (
    (m_retrospectref16_letter x0).bind fun r3 =>
    bif r3 then (
      some (2 : Int))
    else (
      (loopM (fun (s15 : Int) =>
        (some ((([43, 45, 42, 47, 94, 40, 41, 91, 93, 44, 59, 61] : List UInt8).length : Int))).bind fun z16 =>
        bif decide (s15 < z16) then (
          (getS ([43, 45, 42, 47, 94, 40, 41, 91, 93, 44, 59, 61] : List UInt8) s15).bind fun y17 =>
          bif decide (y17 = x0) then (
            some (Lp.out (Lp.out ((3 : Int)))))
          else (
            some (Lp.go (wrap64 (s15 + (1 : Int))))))
        else (
          some (Lp.out (Lp.go ())))) n (0 : Int)).bind (lpK fun (_ : Unit) =>
      some (0 : Int))))
def m_retrospectref16_Most (x0 : Int) : Option (Int) :=
  bif decide (x0 = (1 : Int)) then (
    some (60 : Int))
  else (
    bif decide (x0 = (2 : Int)) then (
      some (12 : Int))
    else (
      some (1 : Int)))
def m_retrospectref16_Scan (n : Nat) (x0 : (List UInt8)) : Option ((List M_retrospectref16_Word) × Int) :=
  bif decide ((4000 : Int) < (x0.length : Int)) then (
    some (([] : List M_retrospectref16_Word), (4000 : Int)))
  else (
    (loopM (fun (s407 : (List M_retrospectref16_Word) × Bool × Int) =>
      bif decide (s407.2.2 < (x0.length : Int)) then (
        jn (fun (j507 : ((List M_retrospectref16_Word) × Bool) → Option _) =>
          (getS x0 s407.2.2).bind fun y510 =>
          jn (fun (j512 : (Bool) → Option _) =>
            bif decide (y510 = 10) then (
              j512 false)
            else (
              j512 s407.2.1)) (fun (s514 : Bool) =>
            jn (fun (j515 : (Bool) → Option _) =>
              bif decide (y510 = 35) then (
                j515 true)
              else (
                j515 s514)) (fun (s517 : Bool) =>
              jn (fun (j518 : (Bool) → Option _) =>
                bif s517 then (
                  j518 true)
                else (
                  bif decide (y510 = 32) then (
                    j518 true)
                  else (
                    bif decide (y510 = 9) then (
                      j518 true)
                    else (
                      bif decide (y510 = 10) then (
                        j518 true)
                      else (
                        j518 (decide (y510 = 13))))))) (fun (s520 : Bool) =>
                bif s520 then (
                  j507 (s407.1, s517))
                else (
                  jn (fun (j558 : ((List M_retrospectref16_Word)) → Option _) =>
                    jn (fun (j571 : (Bool) → Option _) =>
                      bif decide ((0 : Int) < (s407.1.length : Int)) then (
                        (getI s407.1 (wrap64 ((s407.1.length : Int) - (1 : Int)))).bind fun y575 =>
                        (getI s407.1 (wrap64 ((s407.1.length : Int) - (1 : Int)))).bind fun y577 =>
                        bif decide ((wrap64 (y575.At + (y577.Text.length : Int))) = s407.2.2) then (
                          (getI s407.1 (wrap64 ((s407.1.length : Int) - (1 : Int)))).bind fun y580 =>
                          (m_retrospectref16_more y580.Kind y510).bind fun r582 =>
                          j571 r582)
                        else (
                          j571 false))
                      else (
                        j571 false)) (fun (s573 : Bool) =>
                      bif s573 then (
                        (getI s407.1 (wrap64 ((s407.1.length : Int) - (1 : Int)))).bind fun y584 =>
                        (sub x0 s407.2.2 (wrap64 (s407.2.2 + (1 : Int)))).bind fun y586 =>
                        (catS y584.Text y586).bind fun y588 =>
                        (getI s407.1 (wrap64 ((s407.1.length : Int) - (1 : Int)))).bind fun y590 =>
                        j558 (List.set s407.1 (Int.toNat (wrap64 ((s407.1.length : Int) - (1 : Int)))) (⟨y590.Kind, y588, y590.At⟩ : M_retrospectref16_Word)))
                      else (
                        (m_retrospectref16_Kind n y510).bind fun r592 =>
                        (sub x0 s407.2.2 (wrap64 (s407.2.2 + (1 : Int)))).bind fun y594 =>
                        (appM 32 s407.1 ([(⟨r592, y594, s407.2.2⟩ : M_retrospectref16_Word)] : List M_retrospectref16_Word)).bind fun y596 =>
                        j558 y596))) (fun (s560 : (List M_retrospectref16_Word)) =>
                    (getI s560 (wrap64 ((s560.length : Int) - (1 : Int)))).bind fun y598 =>
                    jn (fun (j603 : (Bool) → Option _) =>
                      bif decide (y598.Kind = (0 : Int)) then (
                        j603 true)
                      else (
                        (m_retrospectref16_Most y598.Kind).bind fun r607 =>
                        j603 (decide (r607 < (y598.Text.length : Int))))) (fun (s605 : Bool) =>
                      bif s605 then (
                        some (Lp.out (Lp.out ((([] : List M_retrospectref16_Word), s407.2.2)))))
                      else (
                        j507 (s560, s517))))))))) (fun (s509 : (List M_retrospectref16_Word) × Bool) =>
          some (Lp.go (s509.1, s509.2, wrap64 (s407.2.2 + (1 : Int))))))
      else (
        some (Lp.out (Lp.go s407.1)))) n (([] : List M_retrospectref16_Word), false, (0 : Int))).bind (lpK fun (t405 : (List M_retrospectref16_Word)) =>
    some (t405, (-1 : Int))))
def m_retrospectref18_Begin (n : Nat) (x0 : (List UInt8)) (x1 : (List (List UInt8))) : Option ((List M_retrospectref16_Word) × Int × Int × Int × (List (List UInt8)) × Int) :=
  (m_retrospectref16_Scan n x0).bind fun r1 =>
  (appM 16 ([] : List (List UInt8)) x1).bind fun y3 =>
  some (r1.1, 0, (x0.length : Int), 0, y3, r1.2)
def m___retrospectref18_P__sees (x0_W : (List M_retrospectref16_Word)) (x0_I : Int) (x0_End : Int) (x0_Deep : Int) (x0_Names : (List (List UInt8))) (x0_Bad : Int) (x1 : (List UInt8)) : Option (Bool) :=
  jn (fun (j5 : (Bool) → Option _) =>
    bif decide (x0_Bad < (0 : Int)) then (
      bif decide (x0_I < (x0_W.length : Int)) then (
        (getI x0_W x0_I).bind fun y10 =>
        j5 (decide (y10.Text = x1)))
      else (
        j5 false))
    else (
      j5 false)) (fun (s7 : Bool) =>
    some s7)
def m___retrospectref18_P__kind (x0_W : (List M_retrospectref16_Word)) (x0_I : Int) (x0_End : Int) (x0_Deep : Int) (x0_Names : (List (List UInt8))) (x0_Bad : Int) : Option (Int) :=
  jn (fun (j2 : (Bool) → Option _) =>
    bif decide (x0_Bad < (0 : Int)) then (
      j2 (decide (x0_I < (x0_W.length : Int))))
    else (
      j2 false)) (fun (s4 : Bool) =>
    bif s4 then (
      (getI x0_W x0_I).bind fun y6 =>
      some y6.Kind)
    else (
      some (0 : Int)))
def m___retrospectref18_P__free (x0_W : (List M_retrospectref16_Word)) (x0_I : Int) (x0_End : Int) (x0_Deep : Int) (x0_Names : (List (List UInt8))) (x0_Bad : Int) : Option (Bool) :=
  jn (fun (j11 : (Bool) → Option _) =>
    (m___retrospectref18_P__kind x0_W x0_I x0_End x0_Deep x0_Names x0_Bad).bind fun r14 =>
    bif decide (r14 = (2 : Int)) then (
      (m___retrospectref18_P__sees x0_W x0_I x0_End x0_Deep x0_Names x0_Bad ([116] : List UInt8)).bind fun r16 =>
      bif !r16 then (
        (m___retrospectref18_P__sees x0_W x0_I x0_End x0_Deep x0_Names x0_Bad ([121] : List UInt8)).bind fun r18 =>
        bif !r18 then (
          (m___retrospectref18_P__sees x0_W x0_I x0_End x0_Deep x0_Names x0_Bad ([112] : List UInt8)).bind fun r20 =>
          bif !r20 then (
            (m___retrospectref18_P__sees x0_W x0_I x0_End x0_Deep x0_Names x0_Bad ([108, 101, 116] : List UInt8)).bind fun r22 =>
            j11 (!r22))
          else (
            j11 false))
        else (
          j11 false))
      else (
        j11 false))
    else (
      j11 false)) (fun (s13 : Bool) =>
    some s13)
def m___retrospectref18_P__bad (x0_W : (List M_retrospectref16_Word)) (x0_I : Int) (x0_End : Int) (x0_Deep : Int) (x0_Names : (List (List UInt8))) (x0_Bad : Int) : Option ((List M_retrospectref16_Word) × Int × Int × Int × Int) :=
  bif decide ((0 : Int) ≤ x0_Bad) then (
    some (x0_W, x0_I, x0_End, x0_Deep, x0_Bad))
  else (
    bif decide (x0_I < (x0_W.length : Int)) then (
      (getI x0_W x0_I).bind fun y1 =>
      some (x0_W, x0_I, x0_End, x0_Deep, y1.At))
    else (
      some (x0_W, x0_I, x0_End, x0_Deep, x0_End)))
def m___retrospectref18_P__must (x0_W : (List M_retrospectref16_Word)) (x0_I : Int) (x0_End : Int) (x0_Deep : Int) (x0_Names : (List (List UInt8))) (x0_Bad : Int) (x1 : (List UInt8)) : Option ((List M_retrospectref16_Word) × Int × Int × Int × Int) :=
  (m___retrospectref18_P__sees x0_W x0_I x0_End x0_Deep x0_Names x0_Bad x1).bind fun r1 =>
  bif r1 then (
    some (x0_W, wrap64 (x0_I + (1 : Int)), x0_End, x0_Deep, x0_Bad))
  else (
    (m___retrospectref18_P__bad x0_W x0_I x0_End x0_Deep x0_Names x0_Bad).bind fun r3 =>
    some (r3.1, r3.2.1, r3.2.2.1, r3.2.2.2.1, r3.2.2.2.2))
def m___retrospectref18_P__level (x0_W : (List M_retrospectref16_Word)) (x0_I : Int) (x0_End : Int) (x0_Deep : Int) (x0_Names : (List (List UInt8))) (x0_Bad : Int) : Option ((List M_retrospectref16_Word) × Int × Int × Int × Int) :=
  jn (fun (j3 : ((List M_retrospectref16_Word) × Int × Int × Int × Int) → Option _) =>
    bif decide ((40 : Int) ≤ x0_Deep) then (
      (m___retrospectref18_P__bad x0_W x0_I x0_End x0_Deep x0_Names x0_Bad).bind fun r6 =>
      j3 (r6.1, r6.2.1, r6.2.2.1, r6.2.2.2.1, r6.2.2.2.2))
    else (
      j3 (x0_W, x0_I, x0_End, x0_Deep, x0_Bad))) (fun (s5 : (List M_retrospectref16_Word) × Int × Int × Int × Int) =>
    some (s5.1, wrap64 (s5.2.1 + (1 : Int)), s5.2.2.1, wrap64 (s5.2.2.2.1 + (1 : Int)), s5.2.2.2.2))
def m_retrospectref02_Norm (n : Nat) (x0 : (List Nat)) : Option ((List Nat)) :=
  (loopM (fun (s19 : Int) =>
    jn (fun (j22 : (Bool) → Option _) =>
      bif decide ((0 : Int) < s19) then (
        (getI x0 (wrap64 (s19 - (1 : Int)))).bind fun y25 =>
        j22 (decide (y25 = 0)))
      else (
        j22 false)) (fun (s24 : Bool) =>
      bif s24 then (
        some (Lp.go (wrap64 (s19 - (1 : Int)))))
      else (
        some (Lp.out s19)))) n (x0.length : Int)).bind fun (t17 : Int) =>
  (sub x0 (0 : Int) t17).bind fun y27 =>
  (appM 4 ([] : List Nat) y27).bind fun y29 =>
  some y29
def m_retrospectref04_Mul (n : Nat) (x0 : (List Nat)) (x1 : (List Nat)) : Option ((List Nat)) :=
  (mkM 4 (0 : Nat) (wrap64 ((x0.length : Int) + (x1.length : Int)))).bind fun y1 =>
  (loopM (fun (s77 : (List Nat) × Int) =>
    bif decide (s77.2 < (x0.length : Int)) then (
      (loopM (fun (s92 : (List Nat) × Nat × Int) =>
        bif decide (s92.2.2 < (x1.length : Int)) then (
          (getI x0 s77.2).bind fun y93 =>
          (getI x1 s92.2.2).bind fun y95 =>
          (getI s92.1 (wrap64 (s77.2 + s92.2.2))).bind fun y97 =>
          (some (((s92.2.1 + ((((y93 * y95) % 18446744073709551616) + y97) % 18446744073709551616)) % 18446744073709551616))).bind fun z99 =>
          (some (((s92.2.1 + ((((y93 * y95) % 18446744073709551616) + y97) % 18446744073709551616)) % 18446744073709551616))).bind fun _ =>
          (getI s92.1 (wrap64 (s77.2 + s92.2.2))).bind fun _ =>
          (some ((List.set s92.1 (Int.toNat (wrap64 (s77.2 + s92.2.2))) ((z99 % 4294967296) % 4294967296)))).bind fun z103 =>
          some (Lp.go (z103, (z99 / 4294967296), wrap64 (s92.2.2 + (1 : Int)))))
        else (
          some (Lp.out (s92.1, s92.2.1)))) n (s77.1, 0, (0 : Int))).bind fun (t90 : (List Nat) × Nat) =>
      (getI t90.1 (wrap64 (s77.2 + (x1.length : Int)))).bind fun _ =>
      (some ((List.set t90.1 (Int.toNat (wrap64 (s77.2 + (x1.length : Int)))) (t90.2 % 4294967296)))).bind fun z106 =>
      some (Lp.go (z106, wrap64 (s77.2 + (1 : Int)))))
    else (
      some (Lp.out s77.1))) n (y1, (0 : Int))).bind fun (t75 : (List Nat)) =>
  (m_retrospectref02_Norm n t75).bind fun r107 =>
  some r107
def m_retrospectref02_At (x0 : (List Nat)) (x1 : Int) : Option (Nat) :=
  bif decide (x1 < (x0.length : Int)) then (
    (getI x0 x1).bind fun y1 =>
    some y1)
  else (
    some 0)
def m_retrospectref02_Add (n : Nat) (x0 : (List Nat)) (x1 : (List Nat)) : Option ((List Nat)) :=
  (mkM 4 (0 : Nat) (wrap64 ((max (x0.length : Int) (x1.length : Int)) + (1 : Int)))).bind fun y1 =>
  (loopM (fun (s24 : (List Nat) × Nat × Int) =>
    (some (decide (s24.2.2 < (wrap64 ((max (x0.length : Int) (x1.length : Int)) + (1 : Int)))))).bind fun z25 =>
    bif z25 then (
      (m_retrospectref02_At x0 s24.2.2).bind fun r26 =>
      (m_retrospectref02_At x1 s24.2.2).bind fun r28 =>
      (some (((s24.2.1 + ((r26 + r28) % 18446744073709551616)) % 18446744073709551616))).bind fun z30 =>
      (getI s24.1 s24.2.2).bind fun _ =>
      some (Lp.go ((List.set s24.1 (Int.toNat s24.2.2) ((z30 % 4294967296) % 4294967296)), (z30 / 4294967296), wrap64 (s24.2.2 + (1 : Int)))))
    else (
      some (Lp.out s24.1))) n (y1, 0, (0 : Int))).bind fun (t22 : (List Nat)) =>
  (m_retrospectref02_Norm n t22).bind fun r33 =>
  some r33
def m_retrospectref07_Read (n : Nat) (x0 : (List UInt8)) : Option ((List Nat)) :=
  (loopM (fun (s28 : (List Nat) × Int) =>
    bif decide (s28.2 < (x0.length : Int)) then (
      (m_retrospectref04_Mul n s28.1 ([10] : List Nat)).bind fun r29 =>
      (getS x0 s28.2).bind fun y31 =>
      (m_retrospectref02_Add n r29 ([((y31 + 4294967296 - 48) % 4294967296)] : List Nat)).bind fun r33 =>
      some (Lp.go (r33, wrap64 (s28.2 + (1 : Int)))))
    else (
      some (Lp.out s28.1))) n (([] : List Nat), (0 : Int))).bind fun (t26 : (List Nat)) =>
  some t26
def m___retrospectref18_P__small (n : Nat) (x0_W : (List M_retrospectref16_Word)) (x0_I : Int) (x0_End : Int) (x0_Deep : Int) (x0_Names : (List (List UInt8))) (x0_Bad : Int) : Option (Int × (List M_retrospectref16_Word) × Int × Int × Int × Int) :=
  jn (fun (j6 : (Bool) → Option _) =>
    (m___retrospectref18_P__kind x0_W x0_I x0_End x0_Deep x0_Names x0_Bad).bind fun r9 =>
    bif !decide (r9 = (1 : Int)) then (
      j6 true)
    else (
      (getI x0_W x0_I).bind fun y12 =>
      j6 (decide ((3 : Int) < (y12.Text.length : Int))))) (fun (s8 : Bool) =>
    bif s8 then (
      (m___retrospectref18_P__bad x0_W x0_I x0_End x0_Deep x0_Names x0_Bad).bind fun r14 =>
      some ((0 : Int), r14.1, r14.2.1, r14.2.2.1, r14.2.2.2.1, r14.2.2.2.2))
    else (
      (getI x0_W x0_I).bind fun y16 =>
      (loopM (fun (s28 : Int × Int) =>
        bif decide (s28.2 < (y16.Text.length : Int)) then (
          (getS y16.Text s28.2).bind fun y29 =>
          (some (wrap64 ((wrap64 ((wrap64 ((10 : Int) * s28.1)) + (y29 : Int))) - (48 : Int)))).bind fun z31 =>
          some (Lp.go (z31, wrap64 (s28.2 + (1 : Int)))))
        else (
          some (Lp.out s28.1))) n ((0 : Int), (0 : Int))).bind fun (t26 : Int) =>
      some (t26, x0_W, wrap64 (x0_I + (1 : Int)), x0_End, x0_Deep, x0_Bad)))
def m___retrospectref18_P__find (n : Nat) (x0_W : (List M_retrospectref16_Word)) (x0_I : Int) (x0_End : Int) (x0_Deep : Int) (x0_Names : (List (List UInt8))) (x0_Bad : Int) (x1 : (List UInt8)) : Option (Int) :=
  (loopM (fun (s9 : Int) =>
    bif decide (s9 < (x0_Names.length : Int)) then (
      (getI x0_Names s9).bind fun y10 =>
      bif decide (y10 = x1) then (
        some (Lp.out (Lp.out (s9))))
      else (
        some (Lp.go (wrap64 (s9 + (1 : Int))))))
    else (
      some (Lp.out (Lp.go ())))) n (0 : Int)).bind (lpK fun (_ : Unit) =>
  some (-1 : Int))
def m___retrospectref18_P__atom (me___retrospectref18_P__Expr : (List M_retrospectref16_Word) → Int → Int → Int → (List (List UInt8)) → Int → Option ((List M_retrospectref17_Node) × (List M_retrospectref16_Word) × Int × Int × Int × Int × (List (List UInt8)))) (n : Nat) (x0_W : (List M_retrospectref16_Word)) (x0_I : Int) (x0_End : Int) (x0_Deep : Int) (x0_Names : (List (List UInt8))) (x0_Bad : Int) : Option ((List M_retrospectref17_Node) × (List M_retrospectref16_Word) × Int × Int × Int × Int × (List (List UInt8))) :=
  (m___retrospectref18_P__kind x0_W x0_I x0_End x0_Deep x0_Names x0_Bad).bind fun r1 =>
  bif decide (r1 = (1 : Int)) then (
    (getI x0_W x0_I).bind fun y3 =>
    (m_retrospectref07_Read n y3.Text).bind fun r5 =>
    (m_retrospectref02_Norm n r5).bind fun r7 =>
    (some (([(⟨(1 : Int), 0, r7⟩ : M_retrospectref17_Node)] : List M_retrospectref17_Node))).bind fun z9 =>
    some (z9, x0_W, wrap64 (x0_I + (1 : Int)), x0_End, x0_Deep, x0_Bad, x0_Names))
  else (
    (m___retrospectref18_P__sees x0_W x0_I x0_End x0_Deep x0_Names x0_Bad ([116] : List UInt8)).bind fun r10 =>
    bif r10 then (
      (some (([(⟨(2 : Int), 0, []⟩ : M_retrospectref17_Node)] : List M_retrospectref17_Node))).bind fun z12 =>
      some (z12, x0_W, wrap64 (x0_I + (1 : Int)), x0_End, x0_Deep, x0_Bad, x0_Names))
    else (
      jn (fun (j17 : (Bool) → Option _) =>
        (m___retrospectref18_P__sees x0_W x0_I x0_End x0_Deep x0_Names x0_Bad ([121] : List UInt8)).bind fun r20 =>
        bif r20 then (
          j17 true)
        else (
          (m___retrospectref18_P__sees x0_W x0_I x0_End x0_Deep x0_Names x0_Bad ([112] : List UInt8)).bind fun r22 =>
          j17 r22)) (fun (s19 : Bool) =>
        bif s19 then (
          jn (fun (j26 : (Int) → Option _) =>
            (m___retrospectref18_P__sees x0_W x0_I x0_End x0_Deep x0_Names x0_Bad ([112] : List UInt8)).bind fun r29 =>
            bif r29 then (
              j26 (4 : Int))
            else (
              j26 (3 : Int))) (fun (s28 : Int) =>
            (m___retrospectref18_P__must x0_W (wrap64 (x0_I + (1 : Int))) x0_End x0_Deep x0_Names x0_Bad ([91] : List UInt8)).bind fun r31 =>
            (m___retrospectref18_P__small n r31.1 r31.2.1 r31.2.2.1 r31.2.2.2.1 x0_Names r31.2.2.2.2).bind fun r33 =>
            (m___retrospectref18_P__must r33.2.1 r33.2.2.1 r33.2.2.2.1 r33.2.2.2.2.1 x0_Names r33.2.2.2.2.2 ([93] : List UInt8)).bind fun r35 =>
            (some (([(⟨s28, r33.1, []⟩ : M_retrospectref17_Node)] : List M_retrospectref17_Node))).bind fun z37 =>
            some (z37, r35.1, r35.2.1, r35.2.2.1, r35.2.2.2.1, r35.2.2.2.2, x0_Names)))
        else (
          (m___retrospectref18_P__sees x0_W x0_I x0_End x0_Deep x0_Names x0_Bad ([40] : List UInt8)).bind fun r38 =>
          bif r38 then (
            (m___retrospectref18_P__level x0_W x0_I x0_End x0_Deep x0_Names x0_Bad).bind fun r40 =>
            (me___retrospectref18_P__Expr r40.1 r40.2.1 r40.2.2.1 r40.2.2.2.1 x0_Names r40.2.2.2.2).bind fun r42 =>
            (m___retrospectref18_P__must r42.2.1 r42.2.2.1 r42.2.2.2.1 r42.2.2.2.2.1 r42.2.2.2.2.2.2 r42.2.2.2.2.2.1 ([41] : List UInt8)).bind fun r44 =>
            some (r42.1, r44.1, r44.2.1, r44.2.2.1, wrap64 (r44.2.2.2.1 - (1 : Int)), r44.2.2.2.2, r42.2.2.2.2.2.2))
          else (
            (m___retrospectref18_P__free x0_W x0_I x0_End x0_Deep x0_Names x0_Bad).bind fun r46 =>
            bif !r46 then (
              (m___retrospectref18_P__bad x0_W x0_I x0_End x0_Deep x0_Names x0_Bad).bind fun r48 =>
              some (([] : List M_retrospectref17_Node), r48.1, r48.2.1, r48.2.2.1, r48.2.2.2.1, r48.2.2.2.2, x0_Names))
            else (
              (getI x0_W x0_I).bind fun y50 =>
              (m___retrospectref18_P__find n x0_W x0_I x0_End x0_Deep x0_Names x0_Bad y50.Text).bind fun r52 =>
              (some (([(⟨(5 : Int), r52, []⟩ : M_retrospectref17_Node)] : List M_retrospectref17_Node))).bind fun z54 =>
              some (z54, x0_W, wrap64 (x0_I + (1 : Int)), x0_End, x0_Deep, x0_Bad, x0_Names)))))))
def m___retrospectref18_P__factor (me___retrospectref18_P__Expr : (List M_retrospectref16_Word) → Int → Int → Int → (List (List UInt8)) → Int → Option ((List M_retrospectref17_Node) × (List M_retrospectref16_Word) × Int × Int × Int × Int × (List (List UInt8)))) : Nat → (List M_retrospectref16_Word) → Int → Int → Int → (List (List UInt8)) → Int → Option ((List M_retrospectref17_Node) × (List M_retrospectref16_Word) × Int × Int × Int × Int × (List (List UInt8)))
  | 0, _, _, _, _, _, _ => none
  | n + 1, x0_W, x0_I, x0_End, x0_Deep, x0_Names, x0_Bad =>
    (m___retrospectref18_P__sees x0_W x0_I x0_End x0_Deep x0_Names x0_Bad ([45] : List UInt8)).bind fun r1 =>
    bif r1 then (
      (m___retrospectref18_P__level x0_W x0_I x0_End x0_Deep x0_Names x0_Bad).bind fun r3 =>
      jn (fun (j7 : ((List M_retrospectref16_Word) × Int × Int × Int × (List (List UInt8)) × Int × (List M_retrospectref17_Node)) → Option _) =>
        bif decide (r3.2.2.2.2 < (0 : Int)) then (
          (m___retrospectref18_P__factor me___retrospectref18_P__Expr n r3.1 r3.2.1 r3.2.2.1 r3.2.2.2.1 x0_Names r3.2.2.2.2).bind fun r10 =>
          j7 (r10.2.1, r10.2.2.1, r10.2.2.2.1, r10.2.2.2.2.1, r10.2.2.2.2.2.2, r10.2.2.2.2.2.1, r10.1))
        else (
          j7 (r3.1, r3.2.1, r3.2.2.1, r3.2.2.2.1, x0_Names, r3.2.2.2.2, ([] : List M_retrospectref17_Node)))) (fun (s9 : (List M_retrospectref16_Word) × Int × Int × Int × (List (List UInt8)) × Int × (List M_retrospectref17_Node)) =>
        (some (([(⟨(6 : Int), 0, []⟩ : M_retrospectref17_Node)] : List M_retrospectref17_Node))).bind fun z12 =>
        (appM 40 s9.2.2.2.2.2.2 z12).bind fun y13 =>
        some (y13, s9.1, s9.2.1, s9.2.2.1, wrap64 (s9.2.2.2.1 - (1 : Int)), s9.2.2.2.2.2.1, s9.2.2.2.2.1)))
    else (
      (m___retrospectref18_P__atom me___retrospectref18_P__Expr n x0_W x0_I x0_End x0_Deep x0_Names x0_Bad).bind fun r15 =>
      jn (fun (j31 : ((List M_retrospectref16_Word) × Int × Int × Int × Int × (List M_retrospectref17_Node)) → Option _) =>
        (m___retrospectref18_P__sees r15.2.1 r15.2.2.1 r15.2.2.2.1 r15.2.2.2.2.1 r15.2.2.2.2.2.2 r15.2.2.2.2.2.1 ([94] : List UInt8)).bind fun r34 =>
        bif r34 then (
          jn (fun (j38 : (Int × Int) → Option _) =>
            (m___retrospectref18_P__sees r15.2.1 (wrap64 (r15.2.2.1 + (1 : Int))) r15.2.2.2.1 r15.2.2.2.2.1 r15.2.2.2.2.2.2 r15.2.2.2.2.2.1 ([45] : List UInt8)).bind fun r41 =>
            bif r41 then (
              j38 (wrap64 ((wrap64 (r15.2.2.1 + (1 : Int))) + (1 : Int)), (-1 : Int)))
            else (
              j38 (wrap64 (r15.2.2.1 + (1 : Int)), (1 : Int)))) (fun (s40 : Int × Int) =>
            (m___retrospectref18_P__small n r15.2.1 s40.1 r15.2.2.2.1 r15.2.2.2.2.1 r15.2.2.2.2.2.2 r15.2.2.2.2.2.1).bind fun r43 =>
            (some (([(⟨(11 : Int), wrap64 (s40.2 * r43.1), []⟩ : M_retrospectref17_Node)] : List M_retrospectref17_Node))).bind fun z45 =>
            (appM 40 r15.1 z45).bind fun y46 =>
            j31 (r43.2.1, r43.2.2.1, r43.2.2.2.1, r43.2.2.2.2.1, r43.2.2.2.2.2, y46)))
        else (
          j31 (r15.2.1, r15.2.2.1, r15.2.2.2.1, r15.2.2.2.2.1, r15.2.2.2.2.2.1, r15.1))) (fun (s33 : (List M_retrospectref16_Word) × Int × Int × Int × Int × (List M_retrospectref17_Node)) =>
        some (s33.2.2.2.2.2, s33.1, s33.2.1, s33.2.2.1, s33.2.2.2.1, s33.2.2.2.2.1, r15.2.2.2.2.2.2)))
def m___retrospectref18_P__term (me___retrospectref18_P__Expr : (List M_retrospectref16_Word) → Int → Int → Int → (List (List UInt8)) → Int → Option ((List M_retrospectref17_Node) × (List M_retrospectref16_Word) × Int × Int × Int × Int × (List (List UInt8)))) (n : Nat) (x0_W : (List M_retrospectref16_Word)) (x0_I : Int) (x0_End : Int) (x0_Deep : Int) (x0_Names : (List (List UInt8))) (x0_Bad : Int) : Option ((List M_retrospectref17_Node) × (List M_retrospectref16_Word) × Int × Int × Int × Int × (List (List UInt8))) :=
  (m___retrospectref18_P__factor me___retrospectref18_P__Expr n x0_W x0_I x0_End x0_Deep x0_Names x0_Bad).bind fun r1 =>
  (loopM (fun (s57 : (List M_retrospectref16_Word) × Int × Int × Int × (List (List UInt8)) × Int × (List M_retrospectref17_Node)) =>
    jn (fun (j62 : (Bool) → Option _) =>
      (m___retrospectref18_P__sees s57.1 s57.2.1 s57.2.2.1 s57.2.2.2.1 s57.2.2.2.2.1 s57.2.2.2.2.2.1 ([42] : List UInt8)).bind fun r65 =>
      bif r65 then (
        j62 true)
      else (
        (m___retrospectref18_P__sees s57.1 s57.2.1 s57.2.2.1 s57.2.2.2.1 s57.2.2.2.2.1 s57.2.2.2.2.2.1 ([47] : List UInt8)).bind fun r67 =>
        j62 r67)) (fun (s64 : Bool) =>
      bif s64 then (
        jn (fun (j71 : (Int) → Option _) =>
          (m___retrospectref18_P__sees s57.1 s57.2.1 s57.2.2.1 s57.2.2.2.1 s57.2.2.2.2.1 s57.2.2.2.2.2.1 ([47] : List UInt8)).bind fun r74 =>
          bif r74 then (
            j71 (10 : Int))
          else (
            j71 (9 : Int))) (fun (s73 : Int) =>
          (m___retrospectref18_P__factor me___retrospectref18_P__Expr n s57.1 (wrap64 (s57.2.1 + (1 : Int))) s57.2.2.1 s57.2.2.2.1 s57.2.2.2.2.1 s57.2.2.2.2.2.1).bind fun r76 =>
          (appM 40 s57.2.2.2.2.2.2 r76.1).bind fun y78 =>
          (some (([(⟨s73, 0, []⟩ : M_retrospectref17_Node)] : List M_retrospectref17_Node))).bind fun z80 =>
          (appM 40 y78 z80).bind fun y81 =>
          some (Lp.go (r76.2.1, r76.2.2.1, r76.2.2.2.1, r76.2.2.2.2.1, r76.2.2.2.2.2.2, r76.2.2.2.2.2.1, y81))))
      else (
        some (Lp.out (s57.1, s57.2.1, s57.2.2.1, s57.2.2.2.1, s57.2.2.2.2.1, s57.2.2.2.2.2.1, s57.2.2.2.2.2.2))))) n (r1.2.1, r1.2.2.1, r1.2.2.2.1, r1.2.2.2.2.1, r1.2.2.2.2.2.2, r1.2.2.2.2.2.1, r1.1)).bind fun (t55 : (List M_retrospectref16_Word) × Int × Int × Int × (List (List UInt8)) × Int × (List M_retrospectref17_Node)) =>
  some (t55.2.2.2.2.2.2, t55.1, t55.2.1, t55.2.2.1, t55.2.2.2.1, t55.2.2.2.2.2.1, t55.2.2.2.2.1)
def m___retrospectref18_P__Expr : Nat → (List M_retrospectref16_Word) → Int → Int → Int → (List (List UInt8)) → Int → Option ((List M_retrospectref17_Node) × (List M_retrospectref16_Word) × Int × Int × Int × Int × (List (List UInt8)))
  | 0, _, _, _, _, _, _ => none
  | n + 1, x0_W, x0_I, x0_End, x0_Deep, x0_Names, x0_Bad =>
    bif decide ((0 : Int) ≤ x0_Bad) then (
      some (([] : List M_retrospectref17_Node), x0_W, x0_I, x0_End, x0_Deep, x0_Bad, x0_Names))
    else (
      (m___retrospectref18_P__term (m___retrospectref18_P__Expr n) n x0_W x0_I x0_End x0_Deep x0_Names x0_Bad).bind fun r1 =>
      (loopM (fun (s57 : (List M_retrospectref16_Word) × Int × Int × Int × (List (List UInt8)) × Int × (List M_retrospectref17_Node)) =>
        jn (fun (j62 : (Bool) → Option _) =>
          (m___retrospectref18_P__sees s57.1 s57.2.1 s57.2.2.1 s57.2.2.2.1 s57.2.2.2.2.1 s57.2.2.2.2.2.1 ([43] : List UInt8)).bind fun r65 =>
          bif r65 then (
            j62 true)
          else (
            (m___retrospectref18_P__sees s57.1 s57.2.1 s57.2.2.1 s57.2.2.2.1 s57.2.2.2.2.1 s57.2.2.2.2.2.1 ([45] : List UInt8)).bind fun r67 =>
            j62 r67)) (fun (s64 : Bool) =>
          bif s64 then (
            jn (fun (j71 : (Int) → Option _) =>
              (m___retrospectref18_P__sees s57.1 s57.2.1 s57.2.2.1 s57.2.2.2.1 s57.2.2.2.2.1 s57.2.2.2.2.2.1 ([45] : List UInt8)).bind fun r74 =>
              bif r74 then (
                j71 (8 : Int))
              else (
                j71 (7 : Int))) (fun (s73 : Int) =>
              (m___retrospectref18_P__term (m___retrospectref18_P__Expr n) n s57.1 (wrap64 (s57.2.1 + (1 : Int))) s57.2.2.1 s57.2.2.2.1 s57.2.2.2.2.1 s57.2.2.2.2.2.1).bind fun r76 =>
              (appM 40 s57.2.2.2.2.2.2 r76.1).bind fun y78 =>
              (some (([(⟨s73, 0, []⟩ : M_retrospectref17_Node)] : List M_retrospectref17_Node))).bind fun z80 =>
              (appM 40 y78 z80).bind fun y81 =>
              some (Lp.go (r76.2.1, r76.2.2.1, r76.2.2.2.1, r76.2.2.2.2.1, r76.2.2.2.2.2.2, r76.2.2.2.2.2.1, y81))))
          else (
            some (Lp.out (s57.1, s57.2.1, s57.2.2.1, s57.2.2.2.1, s57.2.2.2.2.1, s57.2.2.2.2.2.1, s57.2.2.2.2.2.2))))) n (r1.2.1, r1.2.2.1, r1.2.2.2.1, r1.2.2.2.2.1, r1.2.2.2.2.2.2, r1.2.2.2.2.2.1, r1.1)).bind fun (t55 : (List M_retrospectref16_Word) × Int × Int × Int × (List (List UInt8)) × Int × (List M_retrospectref17_Node)) =>
      some (t55.2.2.2.2.2.2, t55.1, t55.2.1, t55.2.2.1, t55.2.2.2.1, t55.2.2.2.2.2.1, t55.2.2.2.2.1))
def m___retrospectref18_P__field (n : Nat) (x0_W : (List M_retrospectref16_Word)) (x0_I : Int) (x0_End : Int) (x0_Deep : Int) (x0_Names : (List (List UInt8))) (x0_Bad : Int) : Option (M_retrospectref17_Field × (List M_retrospectref16_Word) × Int × Int × Int × Int × (List (List UInt8))) :=
  (loopM (fun (s22 : (List M_retrospectref16_Word) × Int × Int × Int × (List (List UInt8)) × Int × (List M_retrospectref17_Let)) =>
    (m___retrospectref18_P__sees s22.1 s22.2.1 s22.2.2.1 s22.2.2.2.1 s22.2.2.2.2.1 s22.2.2.2.2.2.1 ([108, 101, 116] : List UInt8)).bind fun r23 =>
    bif r23 then (
      (m___retrospectref18_P__free s22.1 (wrap64 (s22.2.1 + (1 : Int))) s22.2.2.1 s22.2.2.2.1 s22.2.2.2.2.1 s22.2.2.2.2.2.1).bind fun r25 =>
      bif !r25 then (
        (m___retrospectref18_P__bad s22.1 (wrap64 (s22.2.1 + (1 : Int))) s22.2.2.1 s22.2.2.2.1 s22.2.2.2.2.1 s22.2.2.2.2.2.1).bind fun r27 =>
        some (Lp.out (Lp.out (((⟨s22.2.2.2.2.2.2, ([] : List (List M_retrospectref17_Node))⟩ : M_retrospectref17_Field), r27.1, r27.2.1, r27.2.2.1, r27.2.2.2.1, r27.2.2.2.2, s22.2.2.2.2.1)))))
      else (
        (getI s22.1 (wrap64 (s22.2.1 + (1 : Int)))).bind fun y29 =>
        (m___retrospectref18_P__must s22.1 (wrap64 ((wrap64 (s22.2.1 + (1 : Int))) + (1 : Int))) s22.2.2.1 s22.2.2.2.1 s22.2.2.2.2.1 s22.2.2.2.2.2.1 ([61] : List UInt8)).bind fun r31 =>
        (m___retrospectref18_P__Expr n r31.1 r31.2.1 r31.2.2.1 r31.2.2.2.1 s22.2.2.2.2.1 r31.2.2.2.2).bind fun r33 =>
        (appM 40 s22.2.2.2.2.2.2 ([(⟨y29.Text, r33.1⟩ : M_retrospectref17_Let)] : List M_retrospectref17_Let)).bind fun y35 =>
        (m___retrospectref18_P__must r33.2.1 r33.2.2.1 r33.2.2.2.1 r33.2.2.2.2.1 r33.2.2.2.2.2.2 r33.2.2.2.2.2.1 ([59] : List UInt8)).bind fun r37 =>
        (appM 16 r33.2.2.2.2.2.2 ([y29.Text] : List (List UInt8))).bind fun y39 =>
        some (Lp.go (r37.1, r37.2.1, r37.2.2.1, r37.2.2.2.1, y39, r37.2.2.2.2, y35))))
    else (
      some (Lp.out (Lp.go (s22.1, s22.2.1, s22.2.2.1, s22.2.2.2.1, s22.2.2.2.2.1, s22.2.2.2.2.2.1, s22.2.2.2.2.2.2))))) n (x0_W, x0_I, x0_End, x0_Deep, x0_Names, x0_Bad, ([] : List M_retrospectref17_Let))).bind (lpK fun (t20 : (List M_retrospectref16_Word) × Int × Int × Int × (List (List UInt8)) × Int × (List M_retrospectref17_Let)) =>
  (m___retrospectref18_P__must t20.1 t20.2.1 t20.2.2.1 t20.2.2.2.1 t20.2.2.2.2.1 t20.2.2.2.2.2.1 ([91] : List UInt8)).bind fun r41 =>
  (m___retrospectref18_P__Expr n r41.1 r41.2.1 r41.2.2.1 r41.2.2.2.1 t20.2.2.2.2.1 r41.2.2.2.2).bind fun r43 =>
  (appM 24 ([] : List (List M_retrospectref17_Node)) ([r43.1] : List (List M_retrospectref17_Node))).bind fun y45 =>
  (loopM (fun (s65 : (List M_retrospectref16_Word) × Int × Int × Int × (List (List UInt8)) × Int × (List (List M_retrospectref17_Node))) =>
    (m___retrospectref18_P__sees s65.1 s65.2.1 s65.2.2.1 s65.2.2.2.1 s65.2.2.2.2.1 s65.2.2.2.2.2.1 ([44] : List UInt8)).bind fun r66 =>
    bif r66 then (
      (m___retrospectref18_P__Expr n s65.1 (wrap64 (s65.2.1 + (1 : Int))) s65.2.2.1 s65.2.2.2.1 s65.2.2.2.2.1 s65.2.2.2.2.2.1).bind fun r68 =>
      (appM 24 s65.2.2.2.2.2.2 ([r68.1] : List (List M_retrospectref17_Node))).bind fun y70 =>
      some (Lp.go (r68.2.1, r68.2.2.1, r68.2.2.2.1, r68.2.2.2.2.1, r68.2.2.2.2.2.2, r68.2.2.2.2.2.1, y70)))
    else (
      some (Lp.out (s65.1, s65.2.1, s65.2.2.1, s65.2.2.2.1, s65.2.2.2.2.1, s65.2.2.2.2.2.1, s65.2.2.2.2.2.2)))) n (r43.2.1, r43.2.2.1, r43.2.2.2.1, r43.2.2.2.2.1, r43.2.2.2.2.2.2, r43.2.2.2.2.2.1, y45)).bind fun (t63 : (List M_retrospectref16_Word) × Int × Int × Int × (List (List UInt8)) × Int × (List (List M_retrospectref17_Node))) =>
  (m___retrospectref18_P__must t63.1 t63.2.1 t63.2.2.1 t63.2.2.2.1 t63.2.2.2.2.1 t63.2.2.2.2.2.1 ([93] : List UInt8)).bind fun r72 =>
  some ((⟨t20.2.2.2.2.2.2, t63.2.2.2.2.2.2⟩ : M_retrospectref17_Field), r72.1, r72.2.1, r72.2.2.1, r72.2.2.2.1, r72.2.2.2.2, t63.2.2.2.2.1))
def m___retrospectref18_P__over (x0_W : (List M_retrospectref16_Word)) (x0_I : Int) (x0_End : Int) (x0_Deep : Int) (x0_Names : (List (List UInt8))) (x0_Bad : Int) : Option ((List M_retrospectref16_Word) × Int × Int × Int × Int) :=
  jn (fun (j2 : (Bool) → Option _) =>
    bif decide (x0_Bad < (0 : Int)) then (
      j2 (decide (x0_I < (x0_W.length : Int))))
    else (
      j2 false)) (fun (s4 : Bool) =>
    bif s4 then (
      (m___retrospectref18_P__bad x0_W x0_I x0_End x0_Deep x0_Names x0_Bad).bind fun r6 =>
      some (r6.1, r6.2.1, r6.2.2.1, r6.2.2.2.1, r6.2.2.2.2))
    else (
      some (x0_W, x0_I, x0_End, x0_Deep, x0_Bad)))
def m_retrospectref18_Parse (n : Nat) (x0 : (List UInt8)) : Option (M_retrospectref17_Field × Int) :=
  (m_retrospectref18_Begin n x0 ([] : List (List UInt8))).bind fun r1 =>
  bif decide ((0 : Int) ≤ r1.2.2.2.2.2) then (
    some ((⟨[], []⟩ : M_retrospectref17_Field), r1.2.2.2.2.2))
  else (
    (m___retrospectref18_P__field n r1.1 r1.2.1 r1.2.2.1 r1.2.2.2.1 r1.2.2.2.2.1 r1.2.2.2.2.2).bind fun r3 =>
    (m___retrospectref18_P__over r3.2.1 r3.2.2.1 r3.2.2.2.1 r3.2.2.2.2.1 r3.2.2.2.2.2.2 r3.2.2.2.2.2.1).bind fun r5 =>
    bif decide ((0 : Int) ≤ r5.2.2.2.2) then (
      some ((⟨[], []⟩ : M_retrospectref17_Field), r5.2.2.2.2))
    else (
      some (r3.1, (-1 : Int))))
def m_retrospectlaw17_Of (n : Nat) (x0 : (List M_tree_Node)) : Option ((List M_retrospectref17_Node)) :=
  (loopM (fun (s21 : (List M_retrospectref17_Node) × Int) =>
    bif decide (s21.2 < (x0.length : Int)) then (
      (getI x0 s21.2).bind fun y22 =>
      (getI x0 s21.2).bind fun y24 =>
      (getI x0 s21.2).bind fun y26 =>
      (appM 40 s21.1 ([(⟨y22.Op, y24.I, y26.N⟩ : M_retrospectref17_Node)] : List M_retrospectref17_Node)).bind fun y28 =>
      some (Lp.go (y28, wrap64 (s21.2 + (1 : Int)))))
    else (
      some (Lp.out s21.1))) n (([] : List M_retrospectref17_Node), (0 : Int))).bind fun (t19 : (List M_retrospectref17_Node)) =>
  some t19
def m_retrospectlaw17_OfField (n : Nat) (x0 : M_tree_Field) : Option (M_retrospectref17_Field) :=
  (loopM (fun (s12 : (List M_retrospectref17_Let) × Int) =>
    bif decide (s12.2 < (x0.Lets.length : Int)) then (
      (getI x0.Lets s12.2).bind fun y13 =>
      (getI x0.Lets s12.2).bind fun y15 =>
      (m_retrospectlaw17_Of n y15.Code).bind fun r17 =>
      (appM 40 s12.1 ([(⟨y13.Name, r17⟩ : M_retrospectref17_Let)] : List M_retrospectref17_Let)).bind fun y19 =>
      some (Lp.go (y19, wrap64 (s12.2 + (1 : Int)))))
    else (
      some (Lp.out s12.1))) n (([] : List M_retrospectref17_Let), (0 : Int))).bind fun (t10 : (List M_retrospectref17_Let)) =>
  (loopM (fun (s37 : (List (List M_retrospectref17_Node)) × Int) =>
    bif decide (s37.2 < (x0.Outs.length : Int)) then (
      (getI x0.Outs s37.2).bind fun y38 =>
      (m_retrospectlaw17_Of n y38).bind fun r40 =>
      (appM 24 s37.1 ([r40] : List (List M_retrospectref17_Node))).bind fun y42 =>
      some (Lp.go (y42, wrap64 (s37.2 + (1 : Int)))))
    else (
      some (Lp.out s37.1))) n (([] : List (List M_retrospectref17_Node)), (0 : Int))).bind fun (t35 : (List (List M_retrospectref17_Node))) =>
  some (⟨t10, t35⟩ : M_retrospectref17_Field)
def m_retrospectref17_Codes (n : Nat) (x0 : M_retrospectref17_Field) : Option ((List (List M_retrospectref17_Node))) :=
  (loopM (fun (s13 : (List (List M_retrospectref17_Node)) × Int) =>
    bif decide (s13.2 < (x0.Lets.length : Int)) then (
      (getI x0.Lets s13.2).bind fun y14 =>
      (appM 24 s13.1 ([y14.Code] : List (List M_retrospectref17_Node))).bind fun y16 =>
      some (Lp.go (y16, wrap64 (s13.2 + (1 : Int)))))
    else (
      some (Lp.out s13.1))) n (([] : List (List M_retrospectref17_Node)), (0 : Int))).bind fun (t11 : (List (List M_retrospectref17_Node))) =>
  (appM 24 t11 x0.Outs).bind fun y18 =>
  some y18
def m_retrospectref02_Cmp (n : Nat) (x0 : (List Nat)) (x1 : (List Nat)) : Option (Int) :=
  (loopM (fun (s15 : Int) =>
    bif decide ((0 : Int) ≤ s15) then (
      (m_retrospectref02_At x0 s15).bind fun r16 =>
      (m_retrospectref02_At x1 s15).bind fun r18 =>
      bif decide (r16 < r18) then (
        some (Lp.out (Lp.out ((-1 : Int)))))
      else (
        bif decide (r18 < r16) then (
          some (Lp.out (Lp.out ((1 : Int)))))
        else (
          some (Lp.go (wrap64 (s15 - (1 : Int)))))))
    else (
      some (Lp.out (Lp.go ())))) n (wrap64 ((max (x0.length : Int) (x1.length : Int)) - (1 : Int)))).bind (lpK fun (_ : Unit) =>
  some (0 : Int))
def m_retrospectref17_Same (n : Nat) (x0 : (List M_retrospectref17_Node)) (x1 : (List M_retrospectref17_Node)) : Option (Bool) :=
  bif !decide ((x0.length : Int) = (x1.length : Int)) then (
    some false)
  else (
    (loopM (fun (s75 : Int) =>
      bif decide (s75 < (x0.length : Int)) then (
        jn (fun (j92 : (Bool) → Option _) =>
          (getI x0 s75).bind fun y95 =>
          (getI x1 s75).bind fun y97 =>
          bif !decide (y95.Op = y97.Op) then (
            j92 true)
          else (
            (getI x0 s75).bind fun y100 =>
            (getI x1 s75).bind fun y102 =>
            bif !decide (y100.I = y102.I) then (
              j92 true)
            else (
              (getI x0 s75).bind fun y105 =>
              (getI x1 s75).bind fun y107 =>
              (m_retrospectref02_Cmp n y105.N y107.N).bind fun r109 =>
              j92 (!decide (r109 = (0 : Int)))))) (fun (s94 : Bool) =>
          bif s94 then (
            some (Lp.out (Lp.out (false))))
          else (
            some (Lp.go (wrap64 (s75 + (1 : Int)))))))
      else (
        some (Lp.out (Lp.go ())))) n (0 : Int)).bind (lpK fun (_ : Unit) =>
    some true))
def m_retrospectref17_SameField (n : Nat) (x0 : M_retrospectref17_Field) (x1 : M_retrospectref17_Field) : Option (Bool) :=
  jn (fun (j1 : (Bool) → Option _) =>
    bif !decide ((x0.Lets.length : Int) = (x1.Lets.length : Int)) then (
      j1 true)
    else (
      j1 (!decide ((x0.Outs.length : Int) = (x1.Outs.length : Int))))) (fun (s3 : Bool) =>
    bif s3 then (
      some false)
    else (
      (loopM (fun (s16 : Int) =>
        bif decide (s16 < (x0.Lets.length : Int)) then (
          (getI x0.Lets s16).bind fun y17 =>
          (getI x1.Lets s16).bind fun y19 =>
          bif !decide (y17.Name = y19.Name) then (
            some (Lp.out (Lp.out (false))))
          else (
            some (Lp.go (wrap64 (s16 + (1 : Int))))))
        else (
          some (Lp.out (Lp.go ())))) n (0 : Int)).bind (lpK fun (_ : Unit) =>
      (m_retrospectref17_Codes n x0).bind fun r21 =>
      (m_retrospectref17_Codes n x1).bind fun r23 =>
      (loopM (fun (s41 : Int) =>
        bif decide (s41 < (r21.length : Int)) then (
          (getI r21 s41).bind fun y42 =>
          (getI r23 s41).bind fun y44 =>
          (m_retrospectref17_Same n y42 y44).bind fun r46 =>
          bif !r46 then (
            some (Lp.out (Lp.out (false))))
          else (
            some (Lp.go (wrap64 (s41 + (1 : Int))))))
        else (
          some (Lp.out (Lp.go ())))) n (0 : Int)).bind (lpK fun (_ : Unit) =>
      some true))))
def m_retrospectlaw18_Fault (x0 : Int) : Option (M_api_Fault) :=
  bif decide (x0 < (0 : Int)) then (
    some (⟨0, 0, 0, 0⟩ : M_api_Fault))
  else (
    some (⟨(1 : Int), 0, 0, x0⟩ : M_api_Fault))
def m_retrospectlaw18_ParseFields (n : Nat) (x0 : (List UInt8)) : Option (Bool) :=
  bif decide ((3000 : Int) < (x0.length : Int)) then (
    (m_retrospectlaw18_works n ).bind fun r1 =>
    some r1)
  else (
    (m_parse_Parse n x0).bind fun r3 =>
    (m_retrospectref18_Parse n x0).bind fun r5 =>
    jn (fun (j17 : (Bool) → Option _) =>
      (m_retrospectlaw17_OfField n r3.1).bind fun r20 =>
      (m_retrospectref17_SameField n r20 r5.1).bind fun r22 =>
      bif r22 then (
        (m_retrospectlaw18_Fault r5.2).bind fun r25 =>
        bif (eqb_api_Fault r3.2 r25) then (
          (m_retrospectlaw18_works n ).bind fun r28 =>
          j17 r28)
        else (
          j17 false))
      else (
        j17 false)) (fun (s19 : Bool) =>
      some s19))
def m_parse_Expr_1_opan (x0 : M_api_Fault) (x1 : (List M_tree_Node)) (e : M_api_Fault) : Option (M_api_Fault × (List M_tree_Node)) :=
  (m_parse_caught_o1_api_Fault x0 e).bind fun r1 =>
  bif r1.1 then (
    some (r1.2, ([] : List M_tree_Node)))
  else (
    some (r1.2, x1))
def m_parse_Expr_1_oret (x0 : M_api_Fault) (x1 : (List M_tree_Node)) : Option ((List M_tree_Node)) :=
  (m_parse_caught_o1_nil x0).bind fun r1 =>
  bif r1 then (
    some ([] : List M_tree_Node))
  else (
    some x1)
def m_parse_Expr (n : Nat) (x0 : (List UInt8)) (x1 : (List (List UInt8))) : Option ((List M_tree_Node) × M_api_Fault) :=
  (m_parse_begin n x0 x1).bind fun r1 =>
  bif !(eqb_api_Fault r1.2.2.2.2.2 (⟨0, 0, 0, 0⟩ : M_api_Fault)) then (
    some (([] : List M_tree_Node), r1.2.2.2.2.2))
  else (
    (m___parse_reader__expr n r1.1 r1.2.1 r1.2.2.1 r1.2.2.2.1 r1.2.2.2.2.1).bind (exK (fun e =>
      (m_parse_Expr_1_opan r1.2.2.2.2.2 [] e).bind fun y9 =>
      some (y9.2, y9.1)) fun r7 =>
    (m___parse_reader__over r7.2.1 r7.2.2.1 r7.2.2.2.1 r7.2.2.2.2.1 r7.2.2.2.2.2).bind (exK (fun e =>
      (m_parse_Expr_1_opan r1.2.2.2.2.2 r7.1 e).bind fun y13 =>
      some (y13.2, y13.1)) fun _ =>
    (m_parse_Expr_1_oret (⟨0, 0, 0, 0⟩ : M_api_Fault) r7.1).bind fun y15 =>
    some (y15, (⟨0, 0, 0, 0⟩ : M_api_Fault)))))
def m_retrospectref18_Code (n : Nat) (x0 : (List UInt8)) (x1 : (List (List UInt8))) : Option ((List M_retrospectref17_Node) × Int) :=
  (m_retrospectref18_Begin n x0 x1).bind fun r1 =>
  (m___retrospectref18_P__Expr n r1.1 r1.2.1 r1.2.2.1 r1.2.2.2.1 r1.2.2.2.2.1 r1.2.2.2.2.2).bind fun r3 =>
  (m___retrospectref18_P__over r3.2.1 r3.2.2.1 r3.2.2.2.1 r3.2.2.2.2.1 r3.2.2.2.2.2.2 r3.2.2.2.2.2.1).bind fun r5 =>
  bif decide ((0 : Int) ≤ r5.2.2.2.2) then (
    some (([] : List M_retrospectref17_Node), r5.2.2.2.2))
  else (
    some (r3.1, (-1 : Int)))
def m_retrospectlaw18_ParseExprs (n : Nat) (x0 : (List UInt8)) (x1 : (List (List UInt8))) : Option (Bool) :=
  jn (fun (j1 : (Bool) → Option _) =>
    bif decide ((1000 : Int) < (x0.length : Int)) then (
      j1 true)
    else (
      j1 (decide ((10 : Int) < (x1.length : Int))))) (fun (s3 : Bool) =>
    bif s3 then (
      (m_retrospectlaw18_works n ).bind fun r4 =>
      some r4)
    else (
      (m_parse_Expr n x0 x1).bind fun r6 =>
      (m_retrospectref18_Code n x0 x1).bind fun r8 =>
      jn (fun (j20 : (Bool) → Option _) =>
        (m_retrospectlaw17_Of n r6.1).bind fun r23 =>
        (m_retrospectref17_Same n r23 r8.1).bind fun r25 =>
        bif r25 then (
          (m_retrospectlaw18_Fault r8.2).bind fun r28 =>
          bif (eqb_api_Fault r6.2 r28) then (
            (m_retrospectlaw18_works n ).bind fun r31 =>
            j20 r31)
          else (
            j20 false))
        else (
          j20 false)) (fun (s22 : Bool) =>
        some s22)))
def m_nat_Zero (n : Nat) (x0 : (List Nat)) : Option (Bool) :=
  (m_nat_trim n x0).bind fun r1 =>
  some (decide ((r1.length : Int) = (0 : Int)))
def m_limb_Div (x0 : Nat) (x1 : Nat) (x2 : Nat) : Option (Nat × Nat × Bool) :=
  bif decide (x2 ≤ x0) then (
    some (0, 0, false))
  else (
    (grd (x2 != 0)).bind fun _ =>
    (grd (x2 != 0)).bind fun _ =>
    some ((((((x0 * 2 ^ 32) % 18446744073709551616) ||| x1) / x2) % 4294967296), (((((x0 * 2 ^ 32) % 18446744073709551616) ||| x1) % x2) % 4294967296), true))
def m_quot_Word (n : Nat) (x0 : (List Nat)) (x1 : Nat) : Option ((List Nat) × Nat × Bool) :=
  bif decide (x1 = 0) then (
    some (([] : List Nat), 0, false))
  else (
    (mkM 4 (0 : Nat) (x0.length : Int)).bind fun y1 =>
    (loopM (fun (s20 : (List Nat) × Nat × Int) =>
      bif decide ((0 : Int) ≤ s20.2.2) then (
        (getI x0 s20.2.2).bind fun y21 =>
        (m_limb_Div s20.2.1 y21 x1).bind fun r23 =>
        (getI s20.1 s20.2.2).bind fun _ =>
        some (Lp.go ((List.set s20.1 (Int.toNat s20.2.2) r23.1), r23.2.1, wrap64 (s20.2.2 - (1 : Int)))))
      else (
        some (Lp.out (s20.1, s20.2.1)))) n (y1, 0, wrap64 ((x0.length : Int) - (1 : Int)))).bind fun (t18 : (List Nat) × Nat) =>
    (m_nat_Norm n t18.1).bind fun r27 =>
    some (r27, t18.2, true))
def m_digits_nine (n : Nat) (x0 : Nat) : Option ((List UInt8)) :=
  (loopM (fun (s7 : Nat × M_A9_u8 × Int) =>
    bif decide ((0 : Int) ≤ s7.2.2) then (
      (getI ([s7.2.1.a0, s7.2.1.a1, s7.2.1.a2, s7.2.1.a3, s7.2.1.a4, s7.2.1.a5, s7.2.1.a6, s7.2.1.a7, s7.2.1.a8] : List Nat) s7.2.2).bind fun _ =>
      some (Lp.go ((s7.1 / 10), (ofl_A9_u8 (List.set ([s7.2.1.a0, s7.2.1.a1, s7.2.1.a2, s7.2.1.a3, s7.2.1.a4, s7.2.1.a5, s7.2.1.a6, s7.2.1.a7, s7.2.1.a8] : List Nat) (Int.toNat s7.2.2) (((48 + (s7.1 % 10)) % 4294967296) % 256))), wrap64 (s7.2.2 - (1 : Int)))))
    else (
      some (Lp.out s7.2.1))) n (x0, (⟨0, 0, 0, 0, 0, 0, 0, 0, 0⟩ : M_A9_u8), (8 : Int))).bind fun (t5 : M_A9_u8) =>
  (some (([t5.a0, t5.a1, t5.a2, t5.a3, t5.a4, t5.a5, t5.a6, t5.a7, t5.a8] : List Nat))).bind fun z10 =>
  some (bS z10)
def m_digits_Text (n : Nat) (x0 : (List Nat)) : Option ((List UInt8)) :=
  (m_nat_Zero n x0).bind fun r1 =>
  bif r1 then (
    some ([48] : List UInt8))
  else (
    (loopM (fun (s23 : (List Nat) × (List (List UInt8))) =>
      (m_nat_Zero n s23.1).bind fun r24 =>
      bif !r24 then (
        (m_quot_Word n s23.1 1000000000).bind fun r26 =>
        (m_digits_nine n r26.2.1).bind fun r28 =>
        (appM 16 s23.2 ([r28] : List (List UInt8))).bind fun y30 =>
        some (Lp.go (r26.1, y30)))
      else (
        some (Lp.out s23.2))) n (x0, ([] : List (List UInt8)))).bind fun (t21 : (List (List UInt8))) =>
    (loopM (fun (s44 : (List UInt8) × Int) =>
      bif decide ((0 : Int) ≤ s44.2) then (
        (getI t21 s44.2).bind fun y45 =>
        (appM 1 s44.1 y45).bind fun y47 =>
        some (Lp.go (y47, wrap64 (s44.2 - (1 : Int)))))
      else (
        some (Lp.out s44.1))) n (([] : List UInt8), wrap64 ((t21.length : Int) - (1 : Int)))).bind fun (t42 : (List UInt8)) =>
    (m_strings_TrimLeft t42 ([48] : List UInt8)).bind fun r49 =>
    some r49)
def m_lex_Right (n : Nat) (x0 : M_lex_Word) : Option (Bool) :=
  jn (fun (j7 : (Bool) → Option _) =>
    bif decide (x0.Text = ([] : List UInt8)) then (
      j7 true)
    else (
      bif decide (x0.Kind = (0 : Int)) then (
        j7 true)
      else (
        (getS x0.Text (0 : Int)).bind fun y12 =>
        (m_lex_kind n y12).bind fun r14 =>
        j7 (!decide (r14 = x0.Kind))))) (fun (s9 : Bool) =>
    bif s9 then (
      some false)
    else (
      jn (fun (j21 : (Bool) → Option _) =>
        (m_lex_first n x0.Text x0.Kind).bind fun r24 =>
        bif decide (r24 = (x0.Text.length : Int)) then (
          (m_lex_most x0.Kind).bind fun r27 =>
          j21 (decide ((x0.Text.length : Int) ≤ r27)))
        else (
          j21 false)) (fun (s23 : Bool) =>
        some s23)))
def m_nat_Cmp (n : Nat) (x0 : (List Nat)) (x1 : (List Nat)) : Option (Int) :=
  (m_nat_trim n x0).bind fun r1 =>
  (m_nat_trim n x1).bind fun r3 =>
  bif decide ((r1.length : Int) < (r3.length : Int)) then (
    some (-1 : Int))
  else (
    bif decide ((r3.length : Int) < (r1.length : Int)) then (
      some (1 : Int))
    else (
      (loopM (fun (s25 : Int) =>
        bif decide ((0 : Int) ≤ s25) then (
          (getI r1 s25).bind fun y26 =>
          (getI r3 s25).bind fun y28 =>
          bif decide (y26 < y28) then (
            some (Lp.out (Lp.out ((-1 : Int)))))
          else (
            (getI r1 s25).bind fun y30 =>
            (getI r3 s25).bind fun y32 =>
            bif decide (y32 < y30) then (
              some (Lp.out (Lp.out ((1 : Int)))))
            else (
              some (Lp.go (wrap64 (s25 - (1 : Int)))))))
        else (
          some (Lp.out (Lp.go ())))) n (wrap64 ((r1.length : Int) - (1 : Int)))).bind (lpK fun (_ : Unit) =>
      some (0 : Int))))
def m_nat_Of (n : Nat) (x0 : Nat) : Option ((List Nat)) :=
  (m_nat_trim n ([(x0 % 4294967296), ((x0 / 2 ^ 32) % 4294967296)] : List Nat)).bind fun r1 =>
  some r1
def m_retrospectlaw17_To (n : Nat) (x0 : (List M_retrospectref17_Node)) : Option ((List M_tree_Node)) :=
  (loopM (fun (s21 : (List M_tree_Node) × Int) =>
    bif decide (s21.2 < (x0.length : Int)) then (
      (getI x0 s21.2).bind fun y22 =>
      (getI x0 s21.2).bind fun y24 =>
      (getI x0 s21.2).bind fun y26 =>
      (appM 40 s21.1 ([(⟨y22.Op, y24.I, y26.N⟩ : M_tree_Node)] : List M_tree_Node)).bind fun y28 =>
      some (Lp.go (y28, wrap64 (s21.2 + (1 : Int)))))
    else (
      some (Lp.out s21.1))) n (([] : List M_tree_Node), (0 : Int))).bind fun (t19 : (List M_tree_Node)) =>
  some t19
def m_retrospectlaw17_ToField (n : Nat) (x0 : M_retrospectref17_Field) : Option (M_tree_Field) :=
  (loopM (fun (s12 : (List M_tree_Let) × Int) =>
    bif decide (s12.2 < (x0.Lets.length : Int)) then (
      (getI x0.Lets s12.2).bind fun y13 =>
      (getI x0.Lets s12.2).bind fun y15 =>
      (m_retrospectlaw17_To n y15.Code).bind fun r17 =>
      (appM 40 s12.1 ([(⟨y13.Name, r17⟩ : M_tree_Let)] : List M_tree_Let)).bind fun y19 =>
      some (Lp.go (y19, wrap64 (s12.2 + (1 : Int)))))
    else (
      some (Lp.out s12.1))) n (([] : List M_tree_Let), (0 : Int))).bind fun (t10 : (List M_tree_Let)) =>
  (loopM (fun (s37 : (List (List M_tree_Node)) × Int) =>
    bif decide (s37.2 < (x0.Outs.length : Int)) then (
      (getI x0.Outs s37.2).bind fun y38 =>
      (m_retrospectlaw17_To n y38).bind fun r40 =>
      (appM 24 s37.1 ([r40] : List (List M_tree_Node))).bind fun y42 =>
      some (Lp.go (y42, wrap64 (s37.2 + (1 : Int)))))
    else (
      some (Lp.out s37.1))) n (([] : List (List M_tree_Node)), (0 : Int))).bind fun (t35 : (List (List M_tree_Node))) =>
  some (⟨t10, t35⟩ : M_tree_Field)
def m_retrospectref02_Same (n : Nat) (x0 : (List Nat)) (x1 : (List Nat)) : Option (Bool) :=
  bif !decide ((x0.length : Int) = (x1.length : Int)) then (
    some false)
  else (
    (loopM (fun (s13 : Int) =>
      bif decide (s13 < (x0.length : Int)) then (
        (getI x0 s13).bind fun y14 =>
        (getI x1 s13).bind fun y16 =>
        bif !decide (y14 = y16) then (
          some (Lp.out (Lp.out (false))))
        else (
          some (Lp.go (wrap64 (s13 + (1 : Int))))))
      else (
        some (Lp.out (Lp.go ())))) n (0 : Int)).bind (lpK fun (_ : Unit) =>
    some true))
def m_retrospectref07_ten (n : Nat) (x0 : (List Nat)) : Option (Nat × (List Nat)) :=
  (loopM (fun (s16 : (List Nat) × Nat × Int) =>
    bif decide ((0 : Int) ≤ s16.2.2) then (
      (getI s16.1 s16.2.2).bind fun y17 =>
      (some (((((s16.2.1 * 4294967296) % 18446744073709551616) + y17) % 18446744073709551616))).bind fun z19 =>
      (getI s16.1 s16.2.2).bind fun _ =>
      some (Lp.go ((List.set s16.1 (Int.toNat s16.2.2) ((z19 / 10) % 4294967296)), (z19 % 10), wrap64 (s16.2.2 - (1 : Int)))))
    else (
      some (Lp.out (s16.1, s16.2.1)))) n (x0, 0, wrap64 ((x0.length : Int) - (1 : Int)))).bind fun (t14 : (List Nat) × Nat) =>
  some (t14.2, t14.1)
def m_retrospectref07_Text (n : Nat) (x0 : (List Nat)) : Option ((List UInt8)) :=
  (m_retrospectref02_Norm n x0).bind fun r1 =>
  (loopM (fun (s29 : (List Nat) × (List UInt8)) =>
    jn (fun (j30 : (Bool) → Option _) =>
      bif decide ((0 : Int) < (s29.1.length : Int)) then (
        j30 true)
      else (
        j30 (decide (s29.2 = ([] : List UInt8))))) (fun (s32 : Bool) =>
      bif s32 then (
        (m_retrospectref07_ten n s29.1).bind fun r33 =>
        (sub ([48, 49, 50, 51, 52, 53, 54, 55, 56, 57] : List UInt8) (r33.1 : Int) (((r33.1 + 1) % 18446744073709551616) : Int)).bind fun y35 =>
        (catS y35 s29.2).bind fun y37 =>
        (m_retrospectref02_Norm n r33.2).bind fun r39 =>
        some (Lp.go (r39, y37)))
      else (
        some (Lp.out s29.2)))) n (r1, ([] : List UInt8))).bind fun (t27 : (List UInt8)) =>
  some t27
def m_retrospectref07_Trim (n : Nat) (x0 : (List UInt8)) : Option ((List UInt8)) :=
  (loopM (fun (s23 : (List UInt8)) =>
    jn (fun (j26 : (Bool) → Option _) =>
      bif decide ((1 : Int) < (s23.length : Int)) then (
        (getS s23 (0 : Int)).bind fun y29 =>
        j26 (decide (y29 = 48)))
      else (
        j26 false)) (fun (s28 : Bool) =>
      bif s28 then (
        (sub s23 (1 : Int) (s23.length : Int)).bind fun y31 =>
        some (Lp.go y31))
      else (
        some (Lp.out s23)))) n x0).bind fun (t21 : (List UInt8)) =>
  some t21
def m_retrospectref07_Wrong (n : Nat) (x0 : (List UInt8)) : Option (Int) :=
  bif decide (x0 = ([] : List UInt8)) then (
    some (0 : Int))
  else (
    (loopM (fun (s27 : Int) =>
      bif decide (s27 < (x0.length : Int)) then (
        jn (fun (j32 : (Bool) → Option _) =>
          (getS x0 s27).bind fun y35 =>
          bif decide (y35 < 48) then (
            j32 true)
          else (
            (getS x0 s27).bind fun y37 =>
            bif decide (57 < y37) then (
              j32 true)
            else (
              j32 (decide ((60 : Int) ≤ s27))))) (fun (s34 : Bool) =>
          bif s34 then (
            some (Lp.out (Lp.out (s27))))
          else (
            some (Lp.go (wrap64 (s27 + (1 : Int)))))))
      else (
        some (Lp.out (Lp.go ())))) n (0 : Int)).bind (lpK fun (_ : Unit) =>
    some (-1 : Int)))
def m_retrospectref16_Right (n : Nat) (x0 : M_retrospectref16_Word) : Option (Bool) :=
  (m_retrospectref16_Scan n x0.Text).bind fun r1 =>
  jn (fun (j10 : (Bool) → Option _) =>
    bif decide (r1.2 < (0 : Int)) then (
      bif decide ((r1.1.length : Int) = (1 : Int)) then (
        (getI r1.1 (0 : Int)).bind fun y15 =>
        bif decide (y15.Kind = x0.Kind) then (
          (getI r1.1 (0 : Int)).bind fun y18 =>
          j10 (decide (y18.Text = x0.Text)))
        else (
          j10 false))
      else (
        j10 false))
    else (
      j10 false)) (fun (s12 : Bool) =>
    some s12)
def m_retrospectref17_Arity (x0 : Int) : Option (Int) :=
  jn (fun (j1 : (Bool) → Option _) =>
    bif decide ((1 : Int) ≤ x0) then (
      j1 (decide (x0 ≤ (5 : Int))))
    else (
      j1 false)) (fun (s3 : Bool) =>
    bif s3 then (
      some (0 : Int))
    else (
      jn (fun (j4 : (Bool) → Option _) =>
        bif decide (x0 = (6 : Int)) then (
          j4 true)
        else (
          j4 (decide (x0 = (11 : Int))))) (fun (s6 : Bool) =>
        bif s6 then (
          some (1 : Int))
        else (
          jn (fun (j7 : (Bool) → Option _) =>
            bif decide ((7 : Int) ≤ x0) then (
              j7 (decide (x0 ≤ (10 : Int))))
            else (
              j7 false)) (fun (s9 : Bool) =>
            bif s9 then (
              some (2 : Int))
            else (
              some (-1 : Int)))))))
def m_retrospectref17_Deep : Nat → (List M_retrospectref17_Node) → Int → Option (Int × Int)
  | 0, _, _ => none
  | n + 1, x0, x1 =>
    (getI x0 x1).bind fun y1 =>
    (m_retrospectref17_Arity y1.Op).bind fun r3 =>
    (loopM (fun (s13 : Int × Int × Int) =>
      bif decide ((0 : Int) < s13.2.2) then (
        (m_retrospectref17_Deep n x0 (wrap64 (s13.2.1 - (1 : Int)))).bind fun r14 =>
        some (Lp.go (max s13.1 r14.1, r14.2, wrap64 (s13.2.2 - (1 : Int)))))
      else (
        some (Lp.out (s13.1, s13.2.1)))) n ((0 : Int), x1, r3)).bind fun (t11 : Int × Int) =>
    some (wrap64 (t11.1 + (1 : Int)), t11.2)
def m_retrospectref17_Wrong (n : Nat) (x0 : (List M_retrospectref17_Node)) : Option (Int) :=
  (loopM (fun (s19 : Int × Int) =>
    bif decide (s19.2 < (x0.length : Int)) then (
      (getI x0 s19.2).bind fun y20 =>
      (m_retrospectref17_Arity y20.Op).bind fun r22 =>
      jn (fun (j24 : (Bool) → Option _) =>
        bif decide (r22 < (0 : Int)) then (
          j24 true)
        else (
          j24 (decide (s19.1 < r22)))) (fun (s26 : Bool) =>
        bif s26 then (
          some (Lp.out (Lp.out (s19.2))))
        else (
          some (Lp.go (wrap64 ((wrap64 (s19.1 - r22)) + (1 : Int)), wrap64 (s19.2 + (1 : Int)))))))
    else (
      some (Lp.out (Lp.go s19.1)))) n ((0 : Int), (0 : Int))).bind (lpK fun (t17 : Int) =>
  bif decide (t17 = (1 : Int)) then (
    some (-1 : Int))
  else (
    some (x0.length : Int)))
def m_retrospectref17_Depth (n : Nat) (x0 : (List M_retrospectref17_Node)) : Option (Int) :=
  (m_retrospectref17_Wrong n x0).bind fun r1 =>
  bif decide ((0 : Int) ≤ r1) then (
    some (0 : Int))
  else (
    (m_retrospectref17_Deep n x0 (wrap64 ((x0.length : Int) - (1 : Int)))).bind fun r3 =>
    some r3.1)
def m_retrospectref17_Long (n : Nat) (x0 : (List M_retrospectref17_Node)) (x1 : Int) (x2 : Int) : Option (Bool) :=
  (loopM (fun (s15 : Int) =>
    jn (fun (j16 : (Bool) → Option _) =>
      bif decide (s15 < (x0.length : Int)) then (
        j16 (decide (s15 < x1)))
      else (
        j16 false)) (fun (s18 : Bool) =>
      bif s18 then (
        (getI x0 s15).bind fun y19 =>
        bif decide (x2 < (y19.N.length : Int)) then (
          some (Lp.out (Lp.out (true))))
        else (
          some (Lp.go (wrap64 (s15 + (1 : Int))))))
      else (
        some (Lp.out (Lp.go ()))))) n (0 : Int)).bind (lpK fun (_ : Unit) =>
  some (decide (x1 < (x0.length : Int))))
def m_retrospectref17_LongField (n : Nat) (x0 : M_retrospectref17_Field) (x1 : Int) (x2 : Int) (x3 : Int) : Option (Bool) :=
  jn (fun (j1 : (Bool) → Option _) =>
    bif decide (x1 < (x0.Lets.length : Int)) then (
      j1 true)
    else (
      j1 (decide (x1 < (x0.Outs.length : Int))))) (fun (s3 : Bool) =>
    bif s3 then (
      some true)
    else (
      (loopM (fun (s38 : Int) =>
        bif decide (s38 < (x0.Lets.length : Int)) then (
          jn (fun (j45 : (Bool) → Option _) =>
            (getI x0.Lets s38).bind fun y48 =>
            bif decide ((100 : Int) < (y48.Name.length : Int)) then (
              j45 true)
            else (
              (getI x0.Lets s38).bind fun y50 =>
              (m_retrospectref17_Long n y50.Code x2 x3).bind fun r52 =>
              j45 r52)) (fun (s47 : Bool) =>
            bif s47 then (
              some (Lp.out (Lp.out (true))))
            else (
              some (Lp.go (wrap64 (s38 + (1 : Int)))))))
        else (
          some (Lp.out (Lp.go ())))) n (0 : Int)).bind (lpK fun (_ : Unit) =>
      (loopM (fun (s66 : Int) =>
        bif decide (s66 < (x0.Outs.length : Int)) then (
          (getI x0.Outs s66).bind fun y67 =>
          (m_retrospectref17_Long n y67 x2 x3).bind fun r69 =>
          bif r69 then (
            some (Lp.out (Lp.out (true))))
          else (
            some (Lp.go (wrap64 (s66 + (1 : Int))))))
        else (
          some (Lp.out (Lp.go ())))) n (0 : Int)).bind (lpK fun (_ : Unit) =>
      some false))))
def m_retrospectref17_Size (n : Nat) (x0 : M_retrospectref17_Field) : Option (Int) :=
  (m_retrospectref17_Codes n x0).bind fun r1 =>
  (loopM (fun (s11 : Int × Int) =>
    bif decide (s11.2 < (r1.length : Int)) then (
      (getI r1 s11.2).bind fun y12 =>
      some (Lp.go (wrap64 (s11.1 + (y12.length : Int)), wrap64 (s11.2 + (1 : Int)))))
    else (
      some (Lp.out s11.1))) n ((0 : Int), (0 : Int))).bind fun (t9 : Int) =>
  some t9
def m_tree_Arity (x0 : Int) : Option (Int) :=
  jn (fun (j1 : (Bool) → Option _) =>
    bif decide (x0 = (1 : Int)) then (
      j1 (decide (x0 = (1 : Int))))
    else (
      bif decide (x0 = (2 : Int)) then (
        j1 (decide (x0 = (2 : Int))))
      else (
        bif decide (x0 = (3 : Int)) then (
          j1 (decide (x0 = (3 : Int))))
        else (
          bif decide (x0 = (4 : Int)) then (
            j1 (decide (x0 = (4 : Int))))
          else (
            j1 (decide (x0 = (5 : Int)))))))) (fun (s3 : Bool) =>
    bif s3 then (
      some (0 : Int))
    else (
      jn (fun (j4 : (Bool) → Option _) =>
        bif decide (x0 = (6 : Int)) then (
          j4 (decide (x0 = (6 : Int))))
        else (
          j4 (decide (x0 = (11 : Int))))) (fun (s6 : Bool) =>
        bif s6 then (
          some (1 : Int))
        else (
          jn (fun (j7 : (Bool) → Option _) =>
            bif decide (x0 = (7 : Int)) then (
              j7 (decide (x0 = (7 : Int))))
            else (
              bif decide (x0 = (8 : Int)) then (
                j7 (decide (x0 = (8 : Int))))
              else (
                bif decide (x0 = (9 : Int)) then (
                  j7 (decide (x0 = (9 : Int))))
                else (
                  j7 (decide (x0 = (10 : Int))))))) (fun (s9 : Bool) =>
            bif s9 then (
              some (2 : Int))
            else (
              some (-1 : Int)))))))
def m_tree_copied (x0 : (List M_tree_Node)) : Option ((List M_tree_Node)) :=
  (rangeL (fun (_ : Nat) (x20 : M_tree_Node) (s18 : (List M_tree_Node)) =>
    (appM 4 ([] : List Nat) x20.N).bind fun y22 =>
    (appM 40 s18 ([(⟨x20.Op, x20.I, y22⟩ : M_tree_Node)] : List M_tree_Node)).bind fun y24 =>
    some (Lp.go y24)) x0 0 ([] : List M_tree_Node)).bind (lpK fun (s26 : (List M_tree_Node)) =>
  some s26)
def m_tree_Codes (x0 : M_tree_Field) : Option ((List (List M_tree_Node))) :=
  (rangeL (fun (_ : Nat) (x20 : M_tree_Let) (s18 : (List (List M_tree_Node))) =>
    (m_tree_copied x20.Code).bind fun r22 =>
    (appM 24 s18 ([r22] : List (List M_tree_Node))).bind fun y24 =>
    some (Lp.go y24)) x0.Lets 0 ([] : List (List M_tree_Node))).bind (lpK fun (s26 : (List (List M_tree_Node))) =>
  (rangeL (fun (_ : Nat) (x46 : (List M_tree_Node)) (s44 : (List (List M_tree_Node))) =>
    (m_tree_copied x46).bind fun r48 =>
    (appM 24 s44 ([r48] : List (List M_tree_Node))).bind fun y50 =>
    some (Lp.go y50)) x0.Outs 0 s26).bind (lpK fun (s52 : (List (List M_tree_Node))) =>
  some s52))
def m_tree_Wrong (x0 : (List M_tree_Node)) : Option (Int) :=
  (rangeL (fun (i21 : Nat) (x22 : M_tree_Node) (s20 : Int) =>
    (m_tree_Arity x22.Op).bind fun r24 =>
    jn (fun (j26 : (Bool) → Option _) =>
      bif decide (r24 < (0 : Int)) then (
        j26 true)
      else (
        j26 (decide (s20 < r24)))) (fun (s28 : Bool) =>
      bif s28 then (
        some (Lp.out ((i21 : Int))))
      else (
        some (Lp.go (wrap64 (s20 + (wrap64 ((1 : Int) - r24)))))))) x0 0 (0 : Int)).bind (lpK fun (s29 : Int) =>
  bif !decide (s29 = (1 : Int)) then (
    some (x0.length : Int))
  else (
    some (-1 : Int)))
def m_tree_Right (x0 : (List M_tree_Node)) : Option (Bool) :=
  (m_tree_Wrong x0).bind fun r1 =>
  some (decide (r1 < (0 : Int)))
def m_tree_Depth (n : Nat) (x0 : (List M_tree_Node)) : Option (Int) :=
  (m_tree_Right x0).bind fun r1 =>
  bif !r1 then (
    some (0 : Int))
  else (
    (rangeL (fun (_ : Nat) (x51 : M_tree_Node) (s49 : (List Int)) =>
      (m_tree_Arity x51.Op).bind fun r53 =>
      (loopM (fun (s62 : (List Int) × Int × Int) =>
        bif decide (s62.2.2 < r53) then (
          (getI s62.1 (wrap64 ((s62.1.length : Int) - (1 : Int)))).bind fun y63 =>
          (sub s62.1 (0 : Int) (wrap64 ((s62.1.length : Int) - (1 : Int)))).bind fun y65 =>
          some (Lp.go (y65, max s62.2.1 y63, wrap64 (s62.2.2 + (1 : Int)))))
        else (
          some (Lp.out (s62.1, s62.2.1)))) n (s49, (0 : Int), (0 : Int))).bind fun (t60 : (List Int) × Int) =>
      (appM 8 t60.1 ([wrap64 (t60.2 + (1 : Int))] : List Int)).bind fun y67 =>
      some (Lp.go y67)) x0 0 ([] : List Int)).bind (lpK fun (s69 : (List Int)) =>
    (getI s69 (0 : Int)).bind fun y70 =>
    some y70))
def m_tree_Size (x0 : M_tree_Field) : Option (Int) :=
  (m_tree_Codes x0).bind fun r1 =>
  (rangeL (fun (_ : Nat) (x14 : (List M_tree_Node)) (s12 : Int) =>
    some (Lp.go (wrap64 (s12 + (x14.length : Int))))) r1 0 (0 : Int)).bind (lpK fun (s16 : Int) =>
  some s16)
end Go.Proofs.YtpomhkkhdojpiaaGreatDoor
