/-
 The plain models of the functions that the law reaches, first part. No condition.
-/
import Derived.Test.YtcoofjaonlccjaaGreatDoorTd
import Derived.Lib.SlTrimSet
set_option linter.all false
namespace Go.Md
open Go.Dn

def strings_Trim (s c : List UInt8) : Option (List UInt8 × Unit) :=
 bif decide (s.length ≤ 9223372036854775807) && (decide (c.length < 4294967281) && c.all fun b => decide (b.toNat < 128)) then some (Lib.trimS s c, ()) else none

abbrev t_api_Decimal : Ty := (.st (.pair tI tI))
abbrev D_api_Decimal : Type := Int × Int

abbrev D_api_Payment : Type := Int × D_api_Decimal × (List (List UInt8))

abbrev t_interchangeref1_Num : Ty := (.st (.pair .bool (.slice tI)))
abbrev D_interchangeref1_Num : Type := Bool × (List Int)

abbrev D_api_Debt : Type := (List UInt8) × Int × D_api_Decimal × Int × Int × Int

abbrev D_bill_debt : Type := D_api_Debt × Int × Int × Int × Int

abbrev t_whole_Int : Ty := (.st (.pair .bool (.slice (.int .u32))))
abbrev D_whole_Int : Type := Bool × (List Int)

def kit_IsName (a0 : List UInt8) : Option (Bool × Unit) :=
 bif decide (((List.length a0 : Int)) < 1) then
  some (false, ())
 else
  bif decide (((List.length a0 : Int)) > 40) then
   some (false, ())
  else
   Option.bind (sidx a0 0) fun c1 =>
   bif decide ((c1.toNat : Int) < 97) then
    some (false, ())
   else
    Option.bind (sidx a0 0) fun c2 =>
    bif decide ((c2.toNat : Int) > 122) then
     some (false, ())
    else
     Option.bind (strings_Trim a0 [97, 98, 99, 100, 101, 102, 103, 104, 105, 106, 107, 108, 109, 110, 111, 112, 113, 114, 115, 116, 117, 118, 119, 120, 121, 122, 48, 49, 50, 51, 52, 53, 54, 55, 56, 57, 45]) fun r3 =>
     some (r3.1 == [], ())

def kit_Outside (a0 : Int) (a1 : Int) (a2 : Int) : Option (Bool × Unit) :=
 bif decide (a0 < a1) then
  some (true, ())
 else
  some (decide (a0 > a2), ())

def kit_IsDay (a0 : Int) : Option (Bool × Unit) :=
 Option.bind (kit_Outside a0 1 3652059) fun r1 =>
 some (!r1.1, ())

def amount_CheckDecimal (a0 : D_api_Decimal) : Option (Int × Unit) :=
 Option.bind (kit_Outside a0.1 (-1000000000000000) 1000000000000000) fun r1 =>
 bif r1.1 then
  some (1, ())
 else
  Option.bind (kit_Outside a0.2 0 9) fun r2 =>
  bif r2.1 then
   some (1, ())
  else
   some (0, ())

abbrev bill_power_x3 : Type := Int × Int × Int × Unit
abbrev bill_power_r3 : Type := ((Int × Unit) ⊕ (Int × Unit))
def bill_power_b3  (x1 : bill_power_x3) (again : bill_power_x3 → Option bill_power_r3) : Option bill_power_r3 :=
 bif decide (x1.2.2.1 < x1.2.1) then
  again (w64 (x1.1 * 10), x1.2.1, w64 (x1.2.2.1 + 1), ())
 else
  some (Sum.inr (x1.1, ()))

def bill_power (a0 : Int) : Option (Int × Unit) :=
 joinB (β := (Int × Unit)) (γ := (Int × Unit)) (
  iter (X := bill_power_x3) (β := bill_power_r3) (Int.natAbs (1 : Int) + (Int.natAbs a0 + (Int.natAbs (0 : Int) + 2))) (1, a0, 0, ()) (bill_power_b3)) fun v2 =>
 some (v2.1, ())

abbrev slices_Index_string_x2 : Type := (List (List UInt8)) × (List UInt8) × Int × Int × Unit
abbrev slices_Index_string_r2 : Type := ((Int × Unit) ⊕ Unit)
def slices_Index_string_b2  (x1 : slices_Index_string_x2) (again : slices_Index_string_x2 → Option slices_Index_string_r2) : Option slices_Index_string_r2 :=
 bif decide (x1.2.2.2.1 < x1.2.2.1) then
  Option.bind (idx x1.1 x1.2.2.2.1) fun y2 =>
  bif x1.2.1 == y2 then
   some (Sum.inl (x1.2.2.2.1, ()))
  else
   again (x1.1, x1.2.1, x1.2.2.1, w64 (x1.2.2.2.1 + 1), ())
 else
  some (Sum.inr ())

def slices_Index_string (a0 : List (List UInt8)) (a1 : List UInt8) : Option (Int × Unit) :=
 joinB (β := (Int × Unit)) (γ := Unit) (
  iter (X := slices_Index_string_x2) (β := slices_Index_string_r2) (List.length a0 + (List.length a1 + (Int.natAbs ((List.length a0 : Int)) + (Int.natAbs (0 : Int) + 2)))) (a0, a1, (List.length a0 : Int), 0, ()) (slices_Index_string_b2)) fun _ =>
 some ((-1), ())

abbrev whole_trimmed_x1 : Type := (List Int) × Unit
abbrev whole_trimmed_r1 : Type := (((List Int) × Unit) ⊕ ((List Int) × Unit))
def whole_trimmed_b1  (x1 : whole_trimmed_x1) (again : whole_trimmed_x1 → Option whole_trimmed_r1) : Option whole_trimmed_r1 :=
 bif decide (((List.length x1.1 : Int)) > 0) then
  Option.bind (idx x1.1 (w64 (((List.length x1.1 : Int)) - 1))) fun y2 =>
  bif y2 == 0 then
   chk (decide (0 ≤ (0 : Int)) && decide ((0 : Int) ≤ (w64 (((List.length x1.1 : Int)) - 1))) && decide ((w64 (((List.length x1.1 : Int)) - 1)) ≤ (List.length x1.1 : Int))) <|
   again (List.drop 0 (List.take (Int.toNat (w64 (((List.length x1.1 : Int)) - 1))) x1.1), ())
  else
   some (Sum.inr (x1.1, ()))
 else
  some (Sum.inr (x1.1, ()))

def whole_trimmed (a0 : List Int) : Option ((List Int) × Unit) :=
 joinB (β := ((List Int) × Unit)) (γ := ((List Int) × Unit)) (
  iter (X := whole_trimmed_x1) (β := whole_trimmed_r1) (List.length a0 + 2) (a0, ()) (whole_trimmed_b1)) fun v3 =>
 some (v3.1, ())

def whole_made (a0 : Bool) (a1 : List Int) : Option (D_whole_Int × Unit) :=
 Option.bind (whole_trimmed a1) fun r1 =>
 bif a0 then
  some ((decide (((List.length r1.1 : Int)) > 0), r1.1), ())
 else
  some ((false, r1.1), ())

def whole_Of (a0 : Int) : Option (D_whole_Int × Unit) :=
 joinB (β := (D_whole_Int × Unit)) (γ := (Int × Int × Bool × (List Int) × Unit)) (
  bif decide (a0 < 0) then
   some (Sum.inr (a0, wu64 (0 - (wu64 a0)), false, [], ()))
  else
   some (Sum.inr (a0, wu64 a0, false, [], ()))) fun v1 =>
 Option.bind (whole_made (decide (v1.1 < 0)) [(wu32 v1.2.1), (wu32 (Int.fdiv v1.2.1 (2 ^ 32)))]) fun r2 =>
 some (r2.1, ())

abbrev whole_compare_x4 : Type := (List Int) × (List Int) × Int × Unit
abbrev whole_compare_r4 : Type := ((Int × Unit) ⊕ Unit)
def whole_compare_b4  (x1 : whole_compare_x4) (again : whole_compare_x4 → Option whole_compare_r4) : Option whole_compare_r4 :=
 bif decide (x1.2.2.1 ≥ 0) then
  Option.bind (idx x1.1 x1.2.2.1) fun y2 =>
  Option.bind (idx x1.2.1 x1.2.2.1) fun y3 =>
  bif y2 != y3 then
   Option.bind (idx x1.1 x1.2.2.1) fun y4 =>
   Option.bind (idx x1.2.1 x1.2.2.1) fun y5 =>
   bif decide (y4 < y5) then
    some (Sum.inl ((-1), ()))
   else
    some (Sum.inl (1, ()))
  else
   again (x1.1, x1.2.1, w64 (x1.2.2.1 - 1), ())
 else
  some (Sum.inr ())

def whole_compare (a0 : List Int) (a1 : List Int) : Option (Int × Unit) :=
 bif ((List.length a0 : Int)) != ((List.length a1 : Int)) then
  some (w64 (((List.length a0 : Int)) - ((List.length a1 : Int))), ())
 else
  joinB (β := (Int × Unit)) (γ := Unit) (
   iter (X := whole_compare_x4) (β := whole_compare_r4) (List.length a0 + (List.length a1 + (Int.natAbs (w64 (((List.length a0 : Int)) - 1)) + 2))) (a0, a1, w64 (((List.length a0 : Int)) - 1), ()) (whole_compare_b4)) fun _ =>
  some (0, ())

abbrev whole_less_x4 : Type := (List Int) × (List Int) × Int × (List Int) × Int × Int × Unit
abbrev whole_less_r4 : Type := (((List Int) × Unit) ⊕ ((List Int) × Unit))
def whole_less_b4  (x1 : whole_less_x4) (again : whole_less_x4 → Option whole_less_r4) : Option whole_less_r4 :=
 bif decide (x1.2.2.2.2.2.1 < x1.2.2.2.2.1) then
  Option.bind (idx x1.2.2.2.1 x1.2.2.2.2.2.1) fun y2 =>
  joinB (β := (((List Int) × Unit) ⊕ ((List Int) × Unit))) (γ := ((List Int) × (List Int) × Int × (List Int) × Int × Int × Unit)) (
   bif decide (x1.2.2.2.2.2.1 < ((List.length x1.1 : Int))) then
    Option.bind (idx x1.1 x1.2.2.2.2.2.1) fun y3 =>
    let n4 : Int := wu64 ((wu64 ((wu64 y2) - x1.2.2.1)) - (wu64 y3))
    some (Sum.inr (x1.1, x1.2.1, n4, x1.2.2.2.1, x1.2.2.2.2.1, x1.2.2.2.2.2.1, ()))
   else
    some (Sum.inr (x1.1, x1.2.1, wu64 ((wu64 y2) - x1.2.2.1), x1.2.2.2.1, x1.2.2.2.2.1, x1.2.2.2.2.2.1, ()))) fun v5 =>
  chk (decide (((List.length v5.2.1) + 1) * 4 ≤ 140737488355328) && decide ((List.length v5.2.1) + 1 ≤ maxLen)) <|
  again (v5.1, v5.2.1 ++ [(wu32 v5.2.2.1)], wu64 (((BitVec.ofInt (IntKind.bits .u64) (Int.fdiv v5.2.2.1 (2 ^ 32)) &&& BitVec.ofInt (IntKind.bits .u64) 1).toNat : Int)), v5.2.2.2.1, v5.2.2.2.2.1, w64 (v5.2.2.2.2.2.1 + 1), ())
 else
  some (Sum.inr (x1.2.1, ()))

def whole_less (a0 : List Int) (a1 : List Int) : Option ((List Int) × Unit) :=
 chk (decide (0 ≤ (0 : Int)) && decide ((0 : Int) ≤ ((List.length a0 : Int))) && decide ((4 : Int) * ((List.length a0 : Int)) ≤ 281474976710656) && decide (((List.length a0 : Int)) ≤ 9223372036854775807)) <|
 joinB (β := ((List Int) × Unit)) (γ := ((List Int) × Unit)) (
  iter (X := whole_less_x4) (β := whole_less_r4) (List.length a1 + (List.length ([] : List Int) + (Int.natAbs (0 : Int) + (List.length a0 + (Int.natAbs ((List.length a0 : Int)) + (Int.natAbs (0 : Int) + 2)))))) (a1, [], 0, a0, (List.length a0 : Int), 0, ()) (whole_less_b4)) fun v6 =>
 Option.bind (whole_trimmed v6.1) fun r7 =>
 some (r7.1, ())

def whole_Int_Sign (a0 : D_whole_Int) : Option (Int × Unit) :=
 bif a0.1 then
  some ((-1), ())
 else
  bif ((List.length a0.2 : Int)) == 0 then
   some (0, ())
  else
   some (1, ())

def whole_Int_Minus (a0 : D_whole_Int) : Option (D_whole_Int × Unit) :=
 Option.bind (whole_made (!a0.1) a0.2) fun r1 =>
 some (r1.1, ())

abbrev whole_Int_Int_x5 : Type := Int × Int × (List Int) × Int × Int × Bool × (List Int) × Unit
abbrev whole_Int_Int_r5 : Type := ((Int × Bool × Unit) ⊕ (Int × Int × Bool × (List Int) × Unit))
def whole_Int_Int_b5  (x1 : whole_Int_Int_x5) (again : whole_Int_Int_x5 → Option whole_Int_Int_r5) : Option whole_Int_Int_r5 :=
 bif decide (x1.2.2.2.2.1 < x1.2.2.2.1) then
  Option.bind (idx x1.2.2.1 x1.2.2.2.2.1) fun y2 =>
  chk (decide (0 ≤ (w64 (32 * x1.2.2.2.2.1)))) <|
  let n3 : Int := wu64 ((wu64 y2) * 2 ^ (min (Int.toNat (w64 (32 * x1.2.2.2.2.1))) (IntKind.bits .u64)))
  again (x1.1, wu64 (((BitVec.ofInt (IntKind.bits .u64) x1.2.1 ||| BitVec.ofInt (IntKind.bits .u64) n3).toNat : Int)), x1.2.2.1, x1.2.2.2.1, w64 (x1.2.2.2.2.1 + 1), x1.2.2.2.2.2.1, x1.2.2.2.2.2.2.1, ())
 else
  some (Sum.inr (x1.1, x1.2.1, x1.2.2.2.2.2.1, x1.2.2.2.2.2.2.1, ()))

def whole_Int_Int (a0 : D_whole_Int) (a1 : Int) : Option (Int × Bool × Unit) :=
 bif decide (((List.length a0.2 : Int)) > 2) then
  some (0, false, ())
 else
  joinB (β := (Int × Bool × Unit)) (γ := (Int × Int × Bool × (List Int) × Unit)) (
   iter (X := whole_Int_Int_x5) (β := whole_Int_Int_r5) (Int.natAbs a1 + (Int.natAbs (0 : Int) + (List.length a0.2 + (Int.natAbs ((List.length a0.2 : Int)) + (Int.natAbs (0 : Int) + (List.length a0.2 + 2)))))) (a1, 0, a0.2, (List.length a0.2 : Int), 0, a0.1, a0.2, ()) (whole_Int_Int_b5)) fun v4 =>
  bif decide (v4.2.1 > (wu64 v4.1)) then
   some (0, false, ())
  else
   bif v4.2.2.1 then
    some (w64 (0 - (w64 v4.2.1)), true, ())
   else
    some (w64 v4.2.1, true, ())

def amount_Made (a0 : D_whole_Int) (a1 : Int) : Option (D_api_Decimal × Int × Unit) :=
 Option.bind (whole_Int_Int a0 1000000000000000) fun r1 =>
 bif !r1.2.1 then
  some ((0, 0), 1, ())
 else
  some ((r1.1, a1), 0, ())

abbrev r1_Of_x2 : Type := Int × Bool × (List Int) × Bool × (List Int) × Unit
abbrev r1_Of_r2 : Type := ((D_interchangeref1_Num × Unit) ⊕ (Bool × (List Int) × Bool × (List Int) × Unit))
def r1_Of_b2  (x1 : r1_Of_x2) (again : r1_Of_x2 → Option r1_Of_r2) : Option r1_Of_r2 :=
 bif x1.1 != 0 then
  chk (decide (((List.length x1.2.2.2.2.1) + 1) * 8 ≤ 140737488355328) && decide ((List.length x1.2.2.2.2.1) + 1 ≤ maxLen)) <|
  again (w64 (Int.tdiv x1.1 1000000), x1.2.1, x1.2.2.1, x1.2.2.2.1, x1.2.2.2.2.1 ++ [(if (w64 (0 - (Int.tmod x1.1 1000000))) > (Int.tmod x1.1 1000000) then (w64 (0 - (Int.tmod x1.1 1000000))) else (Int.tmod x1.1 1000000))], ())
 else
  some (Sum.inr (x1.2.1, x1.2.2.1, x1.2.2.2.1, x1.2.2.2.2.1, ()))

def r1_Of (a0 : Int) : Option (D_interchangeref1_Num × Unit) :=
 joinB (β := (D_interchangeref1_Num × Unit)) (γ := (Bool × (List Int) × Bool × (List Int) × Unit)) (
  iter (X := r1_Of_x2) (β := r1_Of_r2) (Int.natAbs a0 + (List.length ([] : List Int) + (List.length ([] : List Int) + 2))) (a0, false, [], decide (a0 < 0), [], ()) (r1_Of_b2)) fun v2 =>
 some ((v2.2.2.1, v2.2.2.2.1), ())

abbrev r1_trimmed_x1 : Type := Bool × (List Int) × Bool × (List Int) × Unit
abbrev r1_trimmed_r1 : Type := ((D_interchangeref1_Num × Unit) ⊕ (Bool × (List Int) × Bool × (List Int) × Unit))
def r1_trimmed_b1  (x1 : r1_trimmed_x1) (again : r1_trimmed_x1 → Option r1_trimmed_r1) : Option r1_trimmed_r1 :=
 bif decide (((List.length x1.2.1 : Int)) > 0) then
  Option.bind (idx x1.2.1 (w64 (((List.length x1.2.1 : Int)) - 1))) fun y2 =>
  bif y2 == 0 then
   chk (decide (0 ≤ (0 : Int)) && decide ((0 : Int) ≤ (w64 (((List.length x1.2.1 : Int)) - 1))) && decide ((w64 (((List.length x1.2.1 : Int)) - 1)) ≤ (List.length x1.2.1 : Int))) <|
   again (x1.1, List.drop 0 (List.take (Int.toNat (w64 (((List.length x1.2.1 : Int)) - 1))) x1.2.1), x1.2.2.1, x1.2.2.2.1, ())
  else
   some (Sum.inr (x1.1, x1.2.1, x1.2.2.1, x1.2.2.2.1, ()))
 else
  some (Sum.inr (x1.1, x1.2.1, x1.2.2.1, x1.2.2.2.1, ()))

def r1_trimmed (a0 : D_interchangeref1_Num) : Option (D_interchangeref1_Num × Unit) :=
 joinB (β := (D_interchangeref1_Num × Unit)) (γ := (Bool × (List Int) × Bool × (List Int) × Unit)) (
  iter (X := r1_trimmed_x1) (β := r1_trimmed_r1) (List.length a0.2 + (List.length ([] : List Int) + 2)) (a0.1, a0.2, false, [], ()) (r1_trimmed_b1)) fun v3 =>
 bif ((List.length v3.2.1 : Int)) == 0 then
  some ((false, v3.2.1), ())
 else
  some ((v3.1, v3.2.1), ())

abbrev r1_TimesOf_x6 : Type := Int × Int × (List Int) × Int × Int × (List Int) × Int × Int × Bool × (List Int) × Bool × (List Int) × Bool × (List Int) × Unit
abbrev r1_TimesOf_r6 : Type := (((D_interchangeref1_Num × Unit) ⊕ (Bool × (List Int) × Bool × (List Int) × Unit)) ⊕ ((List Int) × Int × Int × Bool × (List Int) × Bool × (List Int) × Bool × (List Int) × Unit))
def r1_TimesOf_b6  (x1 : r1_TimesOf_x6) (again : r1_TimesOf_x6 → Option r1_TimesOf_r6) : Option r1_TimesOf_r6 :=
 bif decide (x1.2.2.2.2.2.2.2.1 < x1.2.2.2.2.2.2.1) then
  Option.bind (idx x1.2.2.2.2.2.1 x1.2.2.2.2.2.2.2.1) fun y2 =>
  chk (decide (0 ≤ (w64 (x1.1 + x1.2.2.2.2.2.2.2.1))) && decide ((w64 (x1.1 + x1.2.2.2.2.2.2.2.1)) < (List.length x1.2.2.2.2.2.2.2.2.2.2.2.2.2.1 : Int))) <|
  Option.bind (x1.2.2.2.2.2.2.2.2.2.2.2.2.2.1[(w64 (x1.1 + x1.2.2.2.2.2.2.2.1)).toNat]?) fun y3 =>
  chk (decide (0 ≤ (w64 (x1.1 + x1.2.2.2.2.2.2.2.1))) && decide ((w64 (x1.1 + x1.2.2.2.2.2.2.2.1)) < (List.length x1.2.2.2.2.2.2.2.2.2.2.2.2.2.1 : Int))) <|
  Option.bind (x1.2.2.2.2.2.2.2.2.2.2.2.2.2.1[(w64 (x1.1 + x1.2.2.2.2.2.2.2.1)).toNat]?) fun _ =>
  chk (decide (0 ≤ (w64 ((w64 (x1.1 + x1.2.2.2.2.2.2.2.1)) + 1))) && decide ((w64 ((w64 (x1.1 + x1.2.2.2.2.2.2.2.1)) + 1)) < (List.length (List.set x1.2.2.2.2.2.2.2.2.2.2.2.2.2.1 (w64 (x1.1 + x1.2.2.2.2.2.2.2.1)).toNat (w64 (y3 + (w64 (x1.2.1 * y2))))) : Int))) <|
  Option.bind ((List.set x1.2.2.2.2.2.2.2.2.2.2.2.2.2.1 (w64 (x1.1 + x1.2.2.2.2.2.2.2.1)).toNat (w64 (y3 + (w64 (x1.2.1 * y2)))))[(w64 ((w64 (x1.1 + x1.2.2.2.2.2.2.2.1)) + 1)).toNat]?) fun y4 =>
  chk (decide (0 ≤ (w64 (x1.1 + x1.2.2.2.2.2.2.2.1))) && decide ((w64 (x1.1 + x1.2.2.2.2.2.2.2.1)) < (List.length (List.set x1.2.2.2.2.2.2.2.2.2.2.2.2.2.1 (w64 (x1.1 + x1.2.2.2.2.2.2.2.1)).toNat (w64 (y3 + (w64 (x1.2.1 * y2))))) : Int))) <|
  Option.bind ((List.set x1.2.2.2.2.2.2.2.2.2.2.2.2.2.1 (w64 (x1.1 + x1.2.2.2.2.2.2.2.1)).toNat (w64 (y3 + (w64 (x1.2.1 * y2)))))[(w64 (x1.1 + x1.2.2.2.2.2.2.2.1)).toNat]?) fun y5 =>
  chk (decide (0 ≤ (w64 ((w64 (x1.1 + x1.2.2.2.2.2.2.2.1)) + 1))) && decide ((w64 ((w64 (x1.1 + x1.2.2.2.2.2.2.2.1)) + 1)) < (List.length (List.set x1.2.2.2.2.2.2.2.2.2.2.2.2.2.1 (w64 (x1.1 + x1.2.2.2.2.2.2.2.1)).toNat (w64 (y3 + (w64 (x1.2.1 * y2))))) : Int))) <|
  Option.bind ((List.set x1.2.2.2.2.2.2.2.2.2.2.2.2.2.1 (w64 (x1.1 + x1.2.2.2.2.2.2.2.1)).toNat (w64 (y3 + (w64 (x1.2.1 * y2)))))[(w64 ((w64 (x1.1 + x1.2.2.2.2.2.2.2.1)) + 1)).toNat]?) fun _ =>
  chk (decide (0 ≤ (w64 (x1.1 + x1.2.2.2.2.2.2.2.1))) && decide ((w64 (x1.1 + x1.2.2.2.2.2.2.2.1)) < (List.length (List.set (List.set x1.2.2.2.2.2.2.2.2.2.2.2.2.2.1 (w64 (x1.1 + x1.2.2.2.2.2.2.2.1)).toNat (w64 (y3 + (w64 (x1.2.1 * y2))))) (w64 ((w64 (x1.1 + x1.2.2.2.2.2.2.2.1)) + 1)).toNat (w64 (y4 + (w64 (Int.tdiv y5 1000000))))) : Int))) <|
  Option.bind ((List.set (List.set x1.2.2.2.2.2.2.2.2.2.2.2.2.2.1 (w64 (x1.1 + x1.2.2.2.2.2.2.2.1)).toNat (w64 (y3 + (w64 (x1.2.1 * y2))))) (w64 ((w64 (x1.1 + x1.2.2.2.2.2.2.2.1)) + 1)).toNat (w64 (y4 + (w64 (Int.tdiv y5 1000000)))))[(w64 (x1.1 + x1.2.2.2.2.2.2.2.1)).toNat]?) fun y6 =>
  chk (decide (0 ≤ (w64 (x1.1 + x1.2.2.2.2.2.2.2.1))) && decide ((w64 (x1.1 + x1.2.2.2.2.2.2.2.1)) < (List.length (List.set (List.set x1.2.2.2.2.2.2.2.2.2.2.2.2.2.1 (w64 (x1.1 + x1.2.2.2.2.2.2.2.1)).toNat (w64 (y3 + (w64 (x1.2.1 * y2))))) (w64 ((w64 (x1.1 + x1.2.2.2.2.2.2.2.1)) + 1)).toNat (w64 (y4 + (w64 (Int.tdiv y5 1000000))))) : Int))) <|
  Option.bind ((List.set (List.set x1.2.2.2.2.2.2.2.2.2.2.2.2.2.1 (w64 (x1.1 + x1.2.2.2.2.2.2.2.1)).toNat (w64 (y3 + (w64 (x1.2.1 * y2))))) (w64 ((w64 (x1.1 + x1.2.2.2.2.2.2.2.1)) + 1)).toNat (w64 (y4 + (w64 (Int.tdiv y5 1000000)))))[(w64 (x1.1 + x1.2.2.2.2.2.2.2.1)).toNat]?) fun _ =>
  again (x1.1, x1.2.1, x1.2.2.1, x1.2.2.2.1, x1.2.2.2.2.1, x1.2.2.2.2.2.1, x1.2.2.2.2.2.2.1, w64 (x1.2.2.2.2.2.2.2.1 + 1), x1.2.2.2.2.2.2.2.2.1, x1.2.2.2.2.2.2.2.2.2.1, x1.2.2.2.2.2.2.2.2.2.2.1, x1.2.2.2.2.2.2.2.2.2.2.2.1, x1.2.2.2.2.2.2.2.2.2.2.2.2.1, List.set (List.set (List.set x1.2.2.2.2.2.2.2.2.2.2.2.2.2.1 (w64 (x1.1 + x1.2.2.2.2.2.2.2.1)).toNat (w64 (y3 + (w64 (x1.2.1 * y2))))) (w64 ((w64 (x1.1 + x1.2.2.2.2.2.2.2.1)) + 1)).toNat (w64 (y4 + (w64 (Int.tdiv y5 1000000))))) (w64 (x1.1 + x1.2.2.2.2.2.2.2.1)).toNat (Int.tmod y6 1000000), ())
 else
  some (Sum.inr (x1.2.2.1, x1.2.2.2.1, x1.2.2.2.2.1, x1.2.2.2.2.2.2.2.2.1, x1.2.2.2.2.2.2.2.2.2.1, x1.2.2.2.2.2.2.2.2.2.2.1, x1.2.2.2.2.2.2.2.2.2.2.2.1, x1.2.2.2.2.2.2.2.2.2.2.2.2.1, x1.2.2.2.2.2.2.2.2.2.2.2.2.2.1, ()))

abbrev r1_TimesOf_x3 : Type := (List Int) × Int × Int × Bool × (List Int) × Bool × (List Int) × Bool × (List Int) × Unit
abbrev r1_TimesOf_r3 : Type := ((D_interchangeref1_Num × Unit) ⊕ (Bool × (List Int) × Bool × (List Int) × Unit))
def r1_TimesOf_b3  (x1 : r1_TimesOf_x3) (again : r1_TimesOf_x3 → Option r1_TimesOf_r3) : Option r1_TimesOf_r3 :=
 bif decide (x1.2.2.1 < x1.2.1) then
  Option.bind (idx x1.1 x1.2.2.1) fun y2 =>
  joinB (β := ((D_interchangeref1_Num × Unit) ⊕ (Bool × (List Int) × Bool × (List Int) × Unit))) (γ := ((List Int) × Int × Int × Bool × (List Int) × Bool × (List Int) × Bool × (List Int) × Unit)) (
   iter (X := r1_TimesOf_x6) (β := r1_TimesOf_r6) (Int.natAbs x1.2.2.1 + (Int.natAbs y2 + (List.length x1.1 + (Int.natAbs x1.2.1 + (Int.natAbs x1.2.2.1 + (List.length x1.2.2.2.2.1 + (Int.natAbs ((List.length x1.2.2.2.2.1 : Int)) + (Int.natAbs (0 : Int) + (List.length x1.2.2.2.2.1 + (List.length x1.2.2.2.2.2.2.1 + (List.length x1.2.2.2.2.2.2.2.2.1 + 2))))))))))) (x1.2.2.1, y2, x1.1, x1.2.1, x1.2.2.1, x1.2.2.2.2.1, (List.length x1.2.2.2.2.1 : Int), 0, x1.2.2.2.1, x1.2.2.2.2.1, x1.2.2.2.2.2.1, x1.2.2.2.2.2.2.1, x1.2.2.2.2.2.2.2.1, x1.2.2.2.2.2.2.2.2.1, ()) (r1_TimesOf_b6)) fun v3 =>
  again (v3.1, v3.2.1, w64 (v3.2.2.1 + 1), v3.2.2.2.1, v3.2.2.2.2.1, v3.2.2.2.2.2.1, v3.2.2.2.2.2.2.1, v3.2.2.2.2.2.2.2.1, v3.2.2.2.2.2.2.2.2.1, ())
 else
  some (Sum.inr (x1.2.2.2.2.2.1, x1.2.2.2.2.2.2.1, x1.2.2.2.2.2.2.2.1, x1.2.2.2.2.2.2.2.2.1, ()))

abbrev r1_TimesOf_x14 : Type := Int × Int × Bool × (List Int) × Bool × (List Int) × Unit
abbrev r1_TimesOf_r14 : Type := ((D_interchangeref1_Num × Unit) ⊕ (Bool × (List Int) × Bool × (List Int) × Unit))
def r1_TimesOf_b14  (x1 : r1_TimesOf_x14) (again : r1_TimesOf_x14 → Option r1_TimesOf_r14) : Option r1_TimesOf_r14 :=
 bif decide (x1.2.1 < x1.1) then
  chk (decide (0 ≤ (w64 (x1.2.1 + 1))) && decide ((w64 (x1.2.1 + 1)) < (List.length x1.2.2.2.2.2.1 : Int))) <|
  Option.bind (x1.2.2.2.2.2.1[(w64 (x1.2.1 + 1)).toNat]?) fun y2 =>
  chk (decide (0 ≤ x1.2.1) && decide (x1.2.1 < (List.length x1.2.2.2.2.2.1 : Int))) <|
  Option.bind (x1.2.2.2.2.2.1[x1.2.1.toNat]?) fun y3 =>
  chk (decide (0 ≤ (w64 (x1.2.1 + 1))) && decide ((w64 (x1.2.1 + 1)) < (List.length x1.2.2.2.2.2.1 : Int))) <|
  Option.bind (x1.2.2.2.2.2.1[(w64 (x1.2.1 + 1)).toNat]?) fun _ =>
  chk (decide (0 ≤ x1.2.1) && decide (x1.2.1 < (List.length (List.set x1.2.2.2.2.2.1 (w64 (x1.2.1 + 1)).toNat (w64 (y2 + (w64 (Int.tdiv y3 1000000))))) : Int))) <|
  Option.bind ((List.set x1.2.2.2.2.2.1 (w64 (x1.2.1 + 1)).toNat (w64 (y2 + (w64 (Int.tdiv y3 1000000)))))[x1.2.1.toNat]?) fun y4 =>
  chk (decide (0 ≤ x1.2.1) && decide (x1.2.1 < (List.length (List.set x1.2.2.2.2.2.1 (w64 (x1.2.1 + 1)).toNat (w64 (y2 + (w64 (Int.tdiv y3 1000000))))) : Int))) <|
  Option.bind ((List.set x1.2.2.2.2.2.1 (w64 (x1.2.1 + 1)).toNat (w64 (y2 + (w64 (Int.tdiv y3 1000000)))))[x1.2.1.toNat]?) fun _ =>
  again (x1.1, w64 (x1.2.1 + 1), x1.2.2.1, x1.2.2.2.1, x1.2.2.2.2.1, List.set (List.set x1.2.2.2.2.2.1 (w64 (x1.2.1 + 1)).toNat (w64 (y2 + (w64 (Int.tdiv y3 1000000))))) x1.2.1.toNat (Int.tmod y4 1000000), ())
 else
  some (Sum.inr (x1.2.2.1, x1.2.2.2.1, x1.2.2.2.2.1, x1.2.2.2.2.2.1, ()))

def r1_TimesOf (a0 : D_interchangeref1_Num) (a1 : D_interchangeref1_Num) : Option (D_interchangeref1_Num × Unit) :=
 let n1 : Int := w64 ((w64 (((List.length a0.2 : Int)) + ((List.length a1.2 : Int)))) + 1)
 chk (decide (0 ≤ n1) && decide (n1 ≤ n1) && decide ((8 : Int) * n1 ≤ 281474976710656) && decide (n1 ≤ 9223372036854775807)) <|
 joinB (β := (D_interchangeref1_Num × Unit)) (γ := (Bool × (List Int) × Bool × (List Int) × Unit)) (
  iter (X := r1_TimesOf_x3) (β := r1_TimesOf_r3) (List.length a0.2 + (Int.natAbs ((List.length a0.2 : Int)) + (Int.natAbs (0 : Int) + (List.length a1.2 + (List.length ([] : List Int) + (List.length ((List.replicate (Int.toNat n1) 0) : List Int) + 2)))))) (a0.2, (List.length a0.2 : Int), 0, a1.1, a1.2, false, [], !(a0.1 == a1.1), List.replicate (Int.toNat n1) 0, ()) (r1_TimesOf_b3)) fun v14 =>
 joinB (β := (D_interchangeref1_Num × Unit)) (γ := (Bool × (List Int) × Bool × (List Int) × Unit)) (
  iter (X := r1_TimesOf_x14) (β := r1_TimesOf_r14) (Int.natAbs (w64 (((List.length v14.2.2.2.1 : Int)) - 1)) + (Int.natAbs (0 : Int) + (List.length v14.2.1 + (List.length v14.2.2.2.1 + 2)))) (w64 (((List.length v14.2.2.2.1 : Int)) - 1), 0, v14.1, v14.2.1, v14.2.2.1, v14.2.2.2.1, ()) (r1_TimesOf_b14)) fun v21 =>
 Option.bind (r1_trimmed (v21.2.2.1, v21.2.2.2.1)) fun r22 =>
 some (r22.1, ())

abbrev r1_Power_x3 : Type := Int × Int × Bool × (List Int) × Bool × (List Int) × Unit
abbrev r1_Power_r3 : Type := ((D_interchangeref1_Num × Unit) ⊕ (Bool × (List Int) × Bool × (List Int) × Unit))
def r1_Power_b3  (x1 : r1_Power_x3) (again : r1_Power_x3 → Option r1_Power_r3) : Option r1_Power_r3 :=
 bif decide (x1.2.1 < x1.1) then
  Option.bind (r1_Of 10) fun r2 =>
  Option.bind (r1_TimesOf (x1.2.2.2.2.1, x1.2.2.2.2.2.1) r2.1) fun r3 =>
  again (x1.1, w64 (x1.2.1 + 1), x1.2.2.1, x1.2.2.2.1, r3.1.1, r3.1.2, ())
 else
  some (Sum.inr (x1.2.2.1, x1.2.2.2.1, x1.2.2.2.2.1, x1.2.2.2.2.2.1, ()))

def r1_Power (a0 : Int) : Option (D_interchangeref1_Num × Unit) :=
 Option.bind (r1_Of 1) fun r1 =>
 joinB (β := (D_interchangeref1_Num × Unit)) (γ := (Bool × (List Int) × Bool × (List Int) × Unit)) (
  iter (X := r1_Power_x3) (β := r1_Power_r3) (Int.natAbs a0 + (Int.natAbs (0 : Int) + (List.length ([] : List Int) + (List.length r1.1.2 + 2)))) (a0, 0, false, [], r1.1.1, r1.1.2, ()) (r1_Power_b3)) fun v5 =>
 some ((v5.2.2.1, v5.2.2.2.1), ())

def r1_At (a0 : D_api_Decimal) (a1 : Int) : Option (D_interchangeref1_Num × Unit) :=
 Option.bind (r1_Of a0.1) fun r1 =>
 Option.bind (r1_Power (w64 (a1 - a0.2))) fun r2 =>
 Option.bind (r1_TimesOf r1.1 r2.1) fun r3 =>
 some (r3.1, ())

abbrev r1_sizes_x4 : Type := (List Int) × (List Int) × Int × Unit
abbrev r1_sizes_r4 : Type := ((Int × Unit) ⊕ Unit)
def r1_sizes_b4  (x1 : r1_sizes_x4) (again : r1_sizes_x4 → Option r1_sizes_r4) : Option r1_sizes_r4 :=
 bif decide (x1.2.2.1 ≥ 0) then
  Option.bind (idx x1.1 x1.2.2.1) fun y2 =>
  Option.bind (idx x1.2.1 x1.2.2.1) fun y3 =>
  bif y2 != y3 then
   Option.bind (idx x1.1 x1.2.2.1) fun y4 =>
   Option.bind (idx x1.2.1 x1.2.2.1) fun y5 =>
   some (Sum.inl (w64 (y4 - y5), ()))
  else
   again (x1.1, x1.2.1, w64 (x1.2.2.1 - 1), ())
 else
  some (Sum.inr ())

def r1_sizes (a0 : List Int) (a1 : List Int) : Option (Int × Unit) :=
 bif ((List.length a0 : Int)) != ((List.length a1 : Int)) then
  some (w64 (((List.length a0 : Int)) - ((List.length a1 : Int))), ())
 else
  joinB (β := (Int × Unit)) (γ := Unit) (
   iter (X := r1_sizes_x4) (β := r1_sizes_r4) (List.length a0 + (List.length a1 + (Int.natAbs (w64 (((List.length a0 : Int)) - 1)) + 2))) (a0, a1, w64 (((List.length a0 : Int)) - 1), ()) (r1_sizes_b4)) fun _ =>
  some (0, ())

def r1_digit (a0 : List Int) (a1 : Int) : Option (Int × Unit) :=
 bif decide (a1 < ((List.length a0 : Int))) then
  Option.bind (idx a0 a1) fun y1 =>
  some (y1, ())
 else
  some (0, ())

abbrev r1_Plus_x7 : Type := Int × Int × Int × Bool × (List Int) × Bool × (List Int) × Bool × (List Int) × Bool × (List Int) × Unit
abbrev r1_Plus_r7 : Type := ((D_interchangeref1_Num × Unit) ⊕ (Bool × (List Int) × Bool × (List Int) × Unit))
def r1_Plus_b7  (x1 : r1_Plus_x7) (again : r1_Plus_x7 → Option r1_Plus_r7) : Option r1_Plus_r7 :=
 bif decide (x1.2.2.1 < x1.2.1) then
  Option.bind (idx x1.2.2.2.2.1 x1.2.2.1) fun y2 =>
  Option.bind (r1_digit x1.2.2.2.2.2.2.1 x1.2.2.1) fun r3 =>
  joinB (β := ((D_interchangeref1_Num × Unit) ⊕ (Bool × (List Int) × Bool × (List Int) × Unit))) (γ := (Int × Int × Int × Int × Bool × (List Int) × Bool × (List Int) × Bool × (List Int) × Bool × (List Int) × Unit)) (
   bif decide ((w64 ((w64 (y2 - r3.1)) - x1.1)) < 0) then
    let n4 : Int := w64 ((w64 ((w64 (y2 - r3.1)) - x1.1)) + 1000000)
    some (Sum.inr (1, n4, x1.2.1, x1.2.2.1, x1.2.2.2.1, x1.2.2.2.2.1, x1.2.2.2.2.2.1, x1.2.2.2.2.2.2.1, x1.2.2.2.2.2.2.2.1, x1.2.2.2.2.2.2.2.2.1, x1.2.2.2.2.2.2.2.2.2.1, x1.2.2.2.2.2.2.2.2.2.2.1, ()))
   else
    some (Sum.inr (0, w64 ((w64 (y2 - r3.1)) - x1.1), x1.2.1, x1.2.2.1, x1.2.2.2.1, x1.2.2.2.2.1, x1.2.2.2.2.2.1, x1.2.2.2.2.2.2.1, x1.2.2.2.2.2.2.2.1, x1.2.2.2.2.2.2.2.2.1, x1.2.2.2.2.2.2.2.2.2.1, x1.2.2.2.2.2.2.2.2.2.2.1, ()))) fun v5 =>
  chk (decide (((List.length v5.2.2.2.2.2.2.2.2.2.2.2.1) + 1) * 8 ≤ 140737488355328) && decide ((List.length v5.2.2.2.2.2.2.2.2.2.2.2.1) + 1 ≤ maxLen)) <|
  again (v5.1, v5.2.2.1, w64 (v5.2.2.2.1 + 1), v5.2.2.2.2.1, v5.2.2.2.2.2.1, v5.2.2.2.2.2.2.1, v5.2.2.2.2.2.2.2.1, v5.2.2.2.2.2.2.2.2.1, v5.2.2.2.2.2.2.2.2.2.1, v5.2.2.2.2.2.2.2.2.2.2.1, v5.2.2.2.2.2.2.2.2.2.2.2.1 ++ [v5.2.1], ())
 else
  some (Sum.inr (x1.2.2.2.2.2.2.2.1, x1.2.2.2.2.2.2.2.2.1, x1.2.2.2.2.2.2.2.2.2.1, x1.2.2.2.2.2.2.2.2.2.2.1, ()))

abbrev r1_Plus_x19 : Type := Int × Int × Int × Bool × (List Int) × Bool × (List Int) × Bool × (List Int) × Bool × (List Int) × Unit
abbrev r1_Plus_r19 : Type := ((D_interchangeref1_Num × Unit) ⊕ (Bool × (List Int) × Bool × (List Int) × Unit))
def r1_Plus_b19  (x1 : r1_Plus_x19) (again : r1_Plus_x19 → Option r1_Plus_r19) : Option r1_Plus_r19 :=
 bif decide (x1.2.2.1 < x1.2.1) then
  Option.bind (r1_digit x1.2.2.2.2.1 x1.2.2.1) fun r2 =>
  Option.bind (r1_digit x1.2.2.2.2.2.2.1 x1.2.2.1) fun r3 =>
  let n4 : Int := Int.tmod (w64 ((w64 (r2.1 + r3.1)) + x1.1)) 1000000
  chk (decide (((List.length x1.2.2.2.2.2.2.2.2.2.2.1) + 1) * 8 ≤ 140737488355328) && decide ((List.length x1.2.2.2.2.2.2.2.2.2.2.1) + 1 ≤ maxLen)) <|
  let n5 : Int := w64 (Int.tdiv (w64 ((w64 (r2.1 + r3.1)) + x1.1)) 1000000)
  again (n5, x1.2.1, w64 (x1.2.2.1 + 1), x1.2.2.2.1, x1.2.2.2.2.1, x1.2.2.2.2.2.1, x1.2.2.2.2.2.2.1, x1.2.2.2.2.2.2.2.1, x1.2.2.2.2.2.2.2.2.1, x1.2.2.2.2.2.2.2.2.2.1, x1.2.2.2.2.2.2.2.2.2.2.1 ++ [n4], ())
 else
  some (Sum.inr (x1.2.2.2.2.2.2.2.1, x1.2.2.2.2.2.2.2.2.1, x1.2.2.2.2.2.2.2.2.2.1, x1.2.2.2.2.2.2.2.2.2.2.1, ()))

def r1_Plus (a0 : D_interchangeref1_Num) (a1 : D_interchangeref1_Num) : Option (D_interchangeref1_Num × Unit) :=
 bif !(a0.1 == a1.1) then
  Option.bind (r1_sizes a0.2 a1.2) fun r1 =>
  joinB (β := (D_interchangeref1_Num × Unit)) (γ := (Bool × (List Int) × Bool × (List Int) × Bool × (List Int) × Unit)) (
   bif decide (r1.1 < 0) then
    some (Sum.inr (a1.1, a1.2, a0.1, a0.2, false, [], ()))
   else
    some (Sum.inr (a0.1, a0.2, a1.1, a1.2, false, [], ()))) fun v2 =>
  joinB (β := (D_interchangeref1_Num × Unit)) (γ := (Bool × (List Int) × Bool × (List Int) × Unit)) (
   iter (X := r1_Plus_x7) (β := r1_Plus_r7) (Int.natAbs (0 : Int) + (Int.natAbs ((List.length v2.2.1 : Int)) + (Int.natAbs (0 : Int) + (List.length v2.2.1 + (List.length v2.2.2.2.1 + (List.length v2.2.2.2.2.2.1 + (List.length ([] : List Int) + 2))))))) (0, (List.length v2.2.1 : Int), 0, v2.1, v2.2.1, v2.2.2.1, v2.2.2.2.1, v2.2.2.2.2.1, v2.2.2.2.2.2.1, v2.1, [], ()) (r1_Plus_b7)) fun v8 =>
  Option.bind (r1_trimmed (v8.2.2.1, v8.2.2.2.1)) fun r9 =>
  some (r9.1, ())
 else
  let n10 : Int := w64 ((if ((List.length a1.2 : Int)) > ((List.length a0.2 : Int)) then ((List.length a1.2 : Int)) else ((List.length a0.2 : Int))) + 1)
  joinB (β := (D_interchangeref1_Num × Unit)) (γ := (Bool × (List Int) × Bool × (List Int) × Unit)) (
   iter (X := r1_Plus_x19) (β := r1_Plus_r19) (Int.natAbs (0 : Int) + (Int.natAbs n10 + (Int.natAbs (0 : Int) + (List.length a0.2 + (List.length a1.2 + (List.length ([] : List Int) + (List.length ([] : List Int) + 2))))))) (0, n10, 0, a0.1, a0.2, a1.1, a1.2, false, [], a0.1, [], ()) (r1_Plus_b19)) fun v16 =>
  Option.bind (r1_trimmed (v16.2.2.1, v16.2.2.2.1)) fun r17 =>
  some (r17.1, ())

def r1_Minus (a0 : D_interchangeref1_Num) : Option (D_interchangeref1_Num × Unit) :=
 bif decide (((List.length a0.2 : Int)) > 0) then
  some ((!a0.1, a0.2), ())
 else
  some (a0, ())

def r1_Sign (a0 : D_interchangeref1_Num) : Option (Int × Unit) :=
 bif ((List.length a0.2 : Int)) == 0 then
  some (0, ())
 else
  bif a0.1 then
   some ((-1), ())
  else
   some (1, ())

def r1_Cmp (a0 : D_interchangeref1_Num) (a1 : D_interchangeref1_Num) : Option (Int × Unit) :=
 Option.bind (r1_Minus a1) fun r1 =>
 Option.bind (r1_Plus a0 r1.1) fun r2 =>
 Option.bind (r1_Sign r2.1) fun r3 =>
 some (r3.1, ())

end Go.Md

namespace Go.Md
open Go.Dn

abbrev r1_isName_x4 : Type := (List UInt8) × Int × Int × Unit
abbrev r1_isName_r4 : Type := ((Bool × Unit) ⊕ Unit)
def r1_isName_b4  (x1 : r1_isName_x4) (again : r1_isName_x4 → Option r1_isName_r4) : Option r1_isName_r4 :=
 bif decide (x1.2.2.1 < x1.2.1) then
  Option.bind (sidx x1.1 x1.2.2.1) fun c2 =>
  bif decide ((c2.toNat : Int) < 97) then
   bif decide ((c2.toNat : Int) < 48) then
    bif (c2.toNat : Int) != 45 then
     some (Sum.inl (false, ()))
    else
     again (x1.1, x1.2.1, w64 (x1.2.2.1 + 1), ())
   else
    bif decide ((c2.toNat : Int) > 57) then
     bif (c2.toNat : Int) != 45 then
      some (Sum.inl (false, ()))
     else
      again (x1.1, x1.2.1, w64 (x1.2.2.1 + 1), ())
    else
     again (x1.1, x1.2.1, w64 (x1.2.2.1 + 1), ())
  else
   bif decide ((c2.toNat : Int) > 122) then
    bif decide ((c2.toNat : Int) < 48) then
     bif (c2.toNat : Int) != 45 then
      some (Sum.inl (false, ()))
     else
      again (x1.1, x1.2.1, w64 (x1.2.2.1 + 1), ())
    else
     bif decide ((c2.toNat : Int) > 57) then
      bif (c2.toNat : Int) != 45 then
       some (Sum.inl (false, ()))
      else
       again (x1.1, x1.2.1, w64 (x1.2.2.1 + 1), ())
     else
      again (x1.1, x1.2.1, w64 (x1.2.2.1 + 1), ())
   else
    again (x1.1, x1.2.1, w64 (x1.2.2.1 + 1), ())
 else
  some (Sum.inr ())

def r1_isName (a0 : List UInt8) : Option (Bool × Unit) :=
 bif a0 == [] then
  some (false, ())
 else
  bif decide (((List.length a0 : Int)) > 40) then
   some (false, ())
  else
   Option.bind (sidx a0 0) fun c1 =>
   bif decide ((c1.toNat : Int) < 97) then
    some (false, ())
   else
    Option.bind (sidx a0 0) fun c2 =>
    bif decide ((c2.toNat : Int) > 122) then
     some (false, ())
    else
     joinB (β := (Bool × Unit)) (γ := Unit) (
      iter (X := r1_isName_x4) (β := r1_isName_r4) (List.length a0 + (Int.natAbs ((List.length a0 : Int)) + (Int.natAbs (0 : Int) + 2))) (a0, (List.length a0 : Int), 0, ()) (r1_isName_b4)) fun _ =>
     some (true, ())

def r1_IsName (a0 : List UInt8) : Option (Bool × Unit) :=
 Option.bind (r1_isName a0) fun r1 =>
 some (r1.1, ())

def r1_within (a0 : Int) (a1 : Int) (a2 : Int) : Option (Bool × Unit) :=
 bif decide (a1 ≤ a0) then
  some (decide (a0 ≤ a2), ())
 else
  some (false, ())

def r1_isDay (a0 : Int) : Option (Bool × Unit) :=
 Option.bind (r1_within a0 1 3652059) fun r1 =>
 some (r1.1, ())

def r1_IsDay (a0 : Int) : Option (Bool × Unit) :=
 Option.bind (r1_isDay a0) fun r1 =>
 some (r1.1, ())

def r1_CheckDecimal (a0 : D_api_Decimal) : Option (Int × Unit) :=
 Option.bind (r1_within a0.1 (-1000000000000000) 1000000000000000) fun r1 =>
 bif !r1.1 then
  some (1, ())
 else
  Option.bind (r1_within a0.2 0 9) fun r2 =>
  bif !r2.1 then
   some (1, ())
  else
   some (0, ())

def r11_cmp (a0 : D_api_Decimal) (a1 : D_api_Decimal) : Option (Int × Unit) :=
 Option.bind (r1_At a0 9) fun r1 =>
 Option.bind (r1_At a1 9) fun r2 =>
 Option.bind (r1_Cmp r1.1 r2.1) fun r3 =>
 some (r3.1, ())

end Go.Md
