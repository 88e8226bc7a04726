/-
 The plain models of the functions that the law reaches, first part. No condition.
-/
import Derived.Test.YtcoofjaonlccjaaGreatDoorUd
import Derived.Lib.SlTrimSet
set_option linter.all false
namespace Go.Md
open Go.Dn

def strings_Trim (s c : List UInt8) : Option (List UInt8 × Unit) :=
 bif decide (s.length ≤ 9223372036854775807) && (decide (c.length < 4294967281) && c.all fun b => decide (b.toNat < 128)) then some (Lib.trimS s c, ()) else none

abbrev t_api_Decimal : Ty := (.st (.pair tI tI))
abbrev D_api_Decimal : Type := Int × Int

abbrev D_api_Payment : Type := Int × D_api_Decimal × (List (List UInt8))

abbrev D_interchangeref1_Num : Type := Bool × (List Int)

abbrev D_api_Debt : Type := (List UInt8) × Int × D_api_Decimal × Int × Int × Int

abbrev D_bill_debt : Type := D_api_Debt × Int × Int × Int × Int

abbrev t_whole_Int : Ty := (.st (.pair .bool (.slice (.int .u32))))
abbrev D_whole_Int : Type := Bool × (List Int)

def kit_IsName (a0 : List UInt8) : Option (Bool × Unit) :=
 bif decide (((List.length a0 : Int)) < 1) then
  some (false, ())
 else
  bif decide (((List.length a0 : Int)) > 40) then
   some (false, ())
  else
   Option.bind (sidx a0 0) fun c1 =>
   bif decide ((c1.toNat : Int) < 97) then
    some (false, ())
   else
    Option.bind (sidx a0 0) fun c2 =>
    bif decide ((c2.toNat : Int) > 122) then
     some (false, ())
    else
     Option.bind (strings_Trim a0 [97, 98, 99, 100, 101, 102, 103, 104, 105, 106, 107, 108, 109, 110, 111, 112, 113, 114, 115, 116, 117, 118, 119, 120, 121, 122, 48, 49, 50, 51, 52, 53, 54, 55, 56, 57, 45]) fun r3 =>
     some (r3.1 == [], ())

def kit_Outside (a0 : Int) (a1 : Int) (a2 : Int) : Option (Bool × Unit) :=
 bif decide (a0 < a1) then
  some (true, ())
 else
  some (decide (a0 > a2), ())

def kit_IsDay (a0 : Int) : Option (Bool × Unit) :=
 Option.bind (kit_Outside a0 1 3652059) fun r1 =>
 some (!r1.1, ())

def amount_CheckDecimal (a0 : D_api_Decimal) : Option (Int × Unit) :=
 Option.bind (kit_Outside a0.1 (-1000000000000000) 1000000000000000) fun r1 =>
 bif r1.1 then
  some (1, ())
 else
  Option.bind (kit_Outside a0.2 0 9) fun r2 =>
  bif r2.1 then
   some (1, ())
  else
   some (0, ())

abbrev bill_power_x3 : Type := Int × Int × Int × Unit
abbrev bill_power_r3 : Type := ((Int × Unit) ⊕ (Int × Unit))
def bill_power_b3  (x1 : bill_power_x3) (again : bill_power_x3 → Option bill_power_r3) : Option bill_power_r3 :=
 bif decide (x1.2.2.1 < x1.2.1) then
  again (w64 (x1.1 * 10), x1.2.1, w64 (x1.2.2.1 + 1), ())
 else
  some (Sum.inr (x1.1, ()))

def bill_power (a0 : Int) : Option (Int × Unit) :=
 joinB (β := (Int × Unit)) (γ := (Int × Unit)) (
  iter (X := bill_power_x3) (β := bill_power_r3) (Int.natAbs (1 : Int) + (Int.natAbs a0 + (Int.natAbs (0 : Int) + 2))) (1, a0, 0, ()) (bill_power_b3)) fun v2 =>
 some (v2.1, ())

abbrev slices_Index_string_x2 : Type := (List (List UInt8)) × (List UInt8) × Int × Int × Unit
abbrev slices_Index_string_r2 : Type := ((Int × Unit) ⊕ Unit)
def slices_Index_string_b2  (x1 : slices_Index_string_x2) (again : slices_Index_string_x2 → Option slices_Index_string_r2) : Option slices_Index_string_r2 :=
 bif decide (x1.2.2.2.1 < x1.2.2.1) then
  Option.bind (idx x1.1 x1.2.2.2.1) fun y2 =>
  bif x1.2.1 == y2 then
   some (Sum.inl (x1.2.2.2.1, ()))
  else
   again (x1.1, x1.2.1, x1.2.2.1, w64 (x1.2.2.2.1 + 1), ())
 else
  some (Sum.inr ())

def slices_Index_string (a0 : List (List UInt8)) (a1 : List UInt8) : Option (Int × Unit) :=
 joinB (β := (Int × Unit)) (γ := Unit) (
  iter (X := slices_Index_string_x2) (β := slices_Index_string_r2) (List.length a0 + (List.length a1 + (Int.natAbs ((List.length a0 : Int)) + (Int.natAbs (0 : Int) + 2)))) (a0, a1, (List.length a0 : Int), 0, ()) (slices_Index_string_b2)) fun _ =>
 some ((-1), ())

abbrev whole_trimmed_x1 : Type := (List Int) × Unit
abbrev whole_trimmed_r1 : Type := (((List Int) × Unit) ⊕ ((List Int) × Unit))
def whole_trimmed_b1  (x1 : whole_trimmed_x1) (again : whole_trimmed_x1 → Option whole_trimmed_r1) : Option whole_trimmed_r1 :=
 bif decide (((List.length x1.1 : Int)) > 0) then
  Option.bind (idx x1.1 (w64 (((List.length x1.1 : Int)) - 1))) fun y2 =>
  bif y2 == 0 then
   chk (decide (0 ≤ (0 : Int)) && decide ((0 : Int) ≤ (w64 (((List.length x1.1 : Int)) - 1))) && decide ((w64 (((List.length x1.1 : Int)) - 1)) ≤ (List.length x1.1 : Int))) <|
   again (List.drop 0 (List.take (Int.toNat (w64 (((List.length x1.1 : Int)) - 1))) x1.1), ())
  else
   some (Sum.inr (x1.1, ()))
 else
  some (Sum.inr (x1.1, ()))

def whole_trimmed (a0 : List Int) : Option ((List Int) × Unit) :=
 joinB (β := ((List Int) × Unit)) (γ := ((List Int) × Unit)) (
  iter (X := whole_trimmed_x1) (β := whole_trimmed_r1) (List.length a0 + 2) (a0, ()) (whole_trimmed_b1)) fun v3 =>
 some (v3.1, ())

def whole_made (a0 : Bool) (a1 : List Int) : Option (D_whole_Int × Unit) :=
 Option.bind (whole_trimmed a1) fun r1 =>
 bif a0 then
  some ((decide (((List.length r1.1 : Int)) > 0), r1.1), ())
 else
  some ((false, r1.1), ())

def whole_Of (a0 : Int) : Option (D_whole_Int × Unit) :=
 joinB (β := (D_whole_Int × Unit)) (γ := (Int × Int × Bool × (List Int) × Unit)) (
  bif decide (a0 < 0) then
   some (Sum.inr (a0, wu64 (0 - (wu64 a0)), false, [], ()))
  else
   some (Sum.inr (a0, wu64 a0, false, [], ()))) fun v1 =>
 Option.bind (whole_made (decide (v1.1 < 0)) [(wu32 v1.2.1), (wu32 (Int.fdiv v1.2.1 (2 ^ 32)))]) fun r2 =>
 some (r2.1, ())

abbrev whole_sum_x6 : Type := (List Int) × (List Int) × Int × (List Int) × Int × Int × Unit
abbrev whole_sum_r6 : Type := (((List Int) × Unit) ⊕ ((List Int) × Int × Unit))
def whole_sum_b6  (x1 : whole_sum_x6) (again : whole_sum_x6 → Option whole_sum_r6) : Option whole_sum_r6 :=
 bif decide (x1.2.2.2.2.2.1 < x1.2.2.2.2.1) then
  Option.bind (idx x1.2.2.2.1 x1.2.2.2.2.2.1) fun y2 =>
  joinB (β := (((List Int) × Unit) ⊕ ((List Int) × Int × Unit))) (γ := ((List Int) × (List Int) × Int × (List Int) × Int × Int × Unit)) (
   bif decide (x1.2.2.2.2.2.1 < ((List.length x1.1 : Int))) then
    Option.bind (idx x1.1 x1.2.2.2.2.2.1) fun y3 =>
    let n4 : Int := wu64 ((wu64 (x1.2.2.1 + (wu64 y2))) + (wu64 y3))
    some (Sum.inr (x1.1, x1.2.1, n4, x1.2.2.2.1, x1.2.2.2.2.1, x1.2.2.2.2.2.1, ()))
   else
    some (Sum.inr (x1.1, x1.2.1, wu64 (x1.2.2.1 + (wu64 y2)), x1.2.2.2.1, x1.2.2.2.2.1, x1.2.2.2.2.2.1, ()))) fun v5 =>
  chk (decide (((List.length v5.2.1) + 1) * 4 ≤ 140737488355328) && decide ((List.length v5.2.1) + 1 ≤ maxLen)) <|
  again (v5.1, v5.2.1 ++ [(wu32 v5.2.2.1)], Int.fdiv v5.2.2.1 (2 ^ 32), v5.2.2.2.1, v5.2.2.2.2.1, w64 (v5.2.2.2.2.2.1 + 1), ())
 else
  some (Sum.inr (x1.2.1, x1.2.2.1, ()))

def whole_sum (a0 : List Int) (a1 : List Int) : Option ((List Int) × Unit) :=
 joinB (β := ((List Int) × Unit)) (γ := ((List Int) × (List Int) × Unit)) (
  bif decide (((List.length a0 : Int)) < ((List.length a1 : Int))) then
   some (Sum.inr (a1, a0, ()))
  else
   some (Sum.inr (a0, a1, ()))) fun v1 =>
 chk (decide (0 ≤ (0 : Int)) && decide ((0 : Int) ≤ (w64 (((List.length v1.1 : Int)) + 1))) && decide ((4 : Int) * (w64 (((List.length v1.1 : Int)) + 1)) ≤ 281474976710656) && decide ((w64 (((List.length v1.1 : Int)) + 1)) ≤ 9223372036854775807)) <|
 joinB (β := ((List Int) × Unit)) (γ := ((List Int) × Int × Unit)) (
  iter (X := whole_sum_x6) (β := whole_sum_r6) (List.length v1.2.1 + (List.length ([] : List Int) + (Int.natAbs (0 : Int) + (List.length v1.1 + (Int.natAbs ((List.length v1.1 : Int)) + (Int.natAbs (0 : Int) + 2)))))) (v1.2.1, [], 0, v1.1, (List.length v1.1 : Int), 0, ()) (whole_sum_b6)) fun v7 =>
 chk (decide (((List.length v7.1) + 1) * 4 ≤ 140737488355328) && decide ((List.length v7.1) + 1 ≤ maxLen)) <|
 some (v7.1 ++ [(wu32 v7.2.1)], ())

abbrev whole_compare_x4 : Type := (List Int) × (List Int) × Int × Unit
abbrev whole_compare_r4 : Type := ((Int × Unit) ⊕ Unit)
def whole_compare_b4  (x1 : whole_compare_x4) (again : whole_compare_x4 → Option whole_compare_r4) : Option whole_compare_r4 :=
 bif decide (x1.2.2.1 ≥ 0) then
  Option.bind (idx x1.1 x1.2.2.1) fun y2 =>
  Option.bind (idx x1.2.1 x1.2.2.1) fun y3 =>
  bif y2 != y3 then
   Option.bind (idx x1.1 x1.2.2.1) fun y4 =>
   Option.bind (idx x1.2.1 x1.2.2.1) fun y5 =>
   bif decide (y4 < y5) then
    some (Sum.inl ((-1), ()))
   else
    some (Sum.inl (1, ()))
  else
   again (x1.1, x1.2.1, w64 (x1.2.2.1 - 1), ())
 else
  some (Sum.inr ())

def whole_compare (a0 : List Int) (a1 : List Int) : Option (Int × Unit) :=
 bif ((List.length a0 : Int)) != ((List.length a1 : Int)) then
  some (w64 (((List.length a0 : Int)) - ((List.length a1 : Int))), ())
 else
  joinB (β := (Int × Unit)) (γ := Unit) (
   iter (X := whole_compare_x4) (β := whole_compare_r4) (List.length a0 + (List.length a1 + (Int.natAbs (w64 (((List.length a0 : Int)) - 1)) + 2))) (a0, a1, w64 (((List.length a0 : Int)) - 1), ()) (whole_compare_b4)) fun _ =>
  some (0, ())

abbrev whole_less_x4 : Type := (List Int) × (List Int) × Int × (List Int) × Int × Int × Unit
abbrev whole_less_r4 : Type := (((List Int) × Unit) ⊕ ((List Int) × Unit))
def whole_less_b4  (x1 : whole_less_x4) (again : whole_less_x4 → Option whole_less_r4) : Option whole_less_r4 :=
 bif decide (x1.2.2.2.2.2.1 < x1.2.2.2.2.1) then
  Option.bind (idx x1.2.2.2.1 x1.2.2.2.2.2.1) fun y2 =>
  joinB (β := (((List Int) × Unit) ⊕ ((List Int) × Unit))) (γ := ((List Int) × (List Int) × Int × (List Int) × Int × Int × Unit)) (
   bif decide (x1.2.2.2.2.2.1 < ((List.length x1.1 : Int))) then
    Option.bind (idx x1.1 x1.2.2.2.2.2.1) fun y3 =>
    let n4 : Int := wu64 ((wu64 ((wu64 y2) - x1.2.2.1)) - (wu64 y3))
    some (Sum.inr (x1.1, x1.2.1, n4, x1.2.2.2.1, x1.2.2.2.2.1, x1.2.2.2.2.2.1, ()))
   else
    some (Sum.inr (x1.1, x1.2.1, wu64 ((wu64 y2) - x1.2.2.1), x1.2.2.2.1, x1.2.2.2.2.1, x1.2.2.2.2.2.1, ()))) fun v5 =>
  chk (decide (((List.length v5.2.1) + 1) * 4 ≤ 140737488355328) && decide ((List.length v5.2.1) + 1 ≤ maxLen)) <|
  again (v5.1, v5.2.1 ++ [(wu32 v5.2.2.1)], wu64 (((BitVec.ofInt (IntKind.bits .u64) (Int.fdiv v5.2.2.1 (2 ^ 32)) &&& BitVec.ofInt (IntKind.bits .u64) 1).toNat : Int)), v5.2.2.2.1, v5.2.2.2.2.1, w64 (v5.2.2.2.2.2.1 + 1), ())
 else
  some (Sum.inr (x1.2.1, ()))

def whole_less (a0 : List Int) (a1 : List Int) : Option ((List Int) × Unit) :=
 chk (decide (0 ≤ (0 : Int)) && decide ((0 : Int) ≤ ((List.length a0 : Int))) && decide ((4 : Int) * ((List.length a0 : Int)) ≤ 281474976710656) && decide (((List.length a0 : Int)) ≤ 9223372036854775807)) <|
 joinB (β := ((List Int) × Unit)) (γ := ((List Int) × Unit)) (
  iter (X := whole_less_x4) (β := whole_less_r4) (List.length a1 + (List.length ([] : List Int) + (Int.natAbs (0 : Int) + (List.length a0 + (Int.natAbs ((List.length a0 : Int)) + (Int.natAbs (0 : Int) + 2)))))) (a1, [], 0, a0, (List.length a0 : Int), 0, ()) (whole_less_b4)) fun v6 =>
 Option.bind (whole_trimmed v6.1) fun r7 =>
 some (r7.1, ())

abbrev whole_Int_By_x4 : Type := (List Int) × Int × Bool × (List Int) × Bool × (List Int) × Bool × (List Int) × Bool × (List Int) × (List Int) × Unit
abbrev whole_Int_By_r4 : Type := ((D_whole_Int × D_whole_Int × Unit) ⊕ ((List Int) × Bool × (List Int) × Bool × (List Int) × (List Int) × Unit))
def whole_Int_By_b4  (x1 : whole_Int_By_x4) (again : whole_Int_By_x4 → Option whole_Int_By_r4) : Option whole_Int_By_r4 :=
 bif decide (x1.2.1 ≥ 0) then
  Option.bind (whole_sum x1.1 x1.1) fun r2 =>
  chk (decide (0 ≤ (0 : Int)) && decide ((0 : Int) < (List.length r2.1 : Int))) <|
  Option.bind (r2.1[0]?) fun y3 =>
  Option.bind (idx x1.2.2.2.1 (w64 (Int.tdiv x1.2.1 32))) fun y4 =>
  chk (decide (0 ≤ (Int.tmod x1.2.1 32))) <|
  let n5 : Int := wu32 (((BitVec.ofInt (IntKind.bits .u32) (Int.fdiv y4 (2 ^ (min (Int.toNat (Int.tmod x1.2.1 32)) (IntKind.bits .u32)))) &&& BitVec.ofInt (IntKind.bits .u32) 1).toNat : Int))
  chk (decide (0 ≤ (0 : Int)) && decide ((0 : Int) < (List.length r2.1 : Int))) <|
  Option.bind (r2.1[0]?) fun _ =>
  Option.bind (whole_trimmed (List.set r2.1 0 (wu32 (((BitVec.ofInt (IntKind.bits .u32) y3 ||| BitVec.ofInt (IntKind.bits .u32) n5).toNat : Int))))) fun r6 =>
  Option.bind (whole_compare r6.1 x1.2.2.2.2.2.1) fun r7 =>
  bif decide (r7.1 ≥ 0) then
   Option.bind (whole_less r6.1 x1.2.2.2.2.2.1) fun r8 =>
   chk (decide (0 ≤ (w64 (Int.tdiv x1.2.1 32))) && decide ((w64 (Int.tdiv x1.2.1 32)) < (List.length x1.2.2.2.2.2.2.2.2.2.2.1 : Int))) <|
   Option.bind (x1.2.2.2.2.2.2.2.2.2.2.1[(w64 (Int.tdiv x1.2.1 32)).toNat]?) fun y9 =>
   chk (decide (0 ≤ (Int.tmod x1.2.1 32))) <|
   let n10 : Int := wu32 (((BitVec.ofInt (IntKind.bits .u32) y9 ||| BitVec.ofInt (IntKind.bits .u32) (wu32 (1 * 2 ^ (min (Int.toNat (Int.tmod x1.2.1 32)) (IntKind.bits .u32))))).toNat : Int))
   chk (decide (0 ≤ (w64 (Int.tdiv x1.2.1 32))) && decide ((w64 (Int.tdiv x1.2.1 32)) < (List.length x1.2.2.2.2.2.2.2.2.2.2.1 : Int))) <|
   Option.bind (x1.2.2.2.2.2.2.2.2.2.2.1[(w64 (Int.tdiv x1.2.1 32)).toNat]?) fun _ =>
   again (r8.1, w64 (x1.2.1 - 1), x1.2.2.1, x1.2.2.2.1, x1.2.2.2.2.1, x1.2.2.2.2.2.1, x1.2.2.2.2.2.2.1, x1.2.2.2.2.2.2.2.1, x1.2.2.2.2.2.2.2.2.1, x1.2.2.2.2.2.2.2.2.2.1, List.set x1.2.2.2.2.2.2.2.2.2.2.1 (w64 (Int.tdiv x1.2.1 32)).toNat n10, ())
  else
   again (r6.1, w64 (x1.2.1 - 1), x1.2.2.1, x1.2.2.2.1, x1.2.2.2.2.1, x1.2.2.2.2.2.1, x1.2.2.2.2.2.2.1, x1.2.2.2.2.2.2.2.1, x1.2.2.2.2.2.2.2.2.1, x1.2.2.2.2.2.2.2.2.2.1, x1.2.2.2.2.2.2.2.2.2.2.1, ())
 else
  some (Sum.inr (x1.1, x1.2.2.2.2.2.2.1, x1.2.2.2.2.2.2.2.1, x1.2.2.2.2.2.2.2.2.1, x1.2.2.2.2.2.2.2.2.2.1, x1.2.2.2.2.2.2.2.2.2.2.1, ()))

def whole_Int_By (a0 : D_whole_Int) (a1 : D_whole_Int) : Option (D_whole_Int × D_whole_Int × Unit) :=
 chk (decide (0 ≤ ((List.length a0.2 : Int))) && decide (((List.length a0.2 : Int)) ≤ ((List.length a0.2 : Int))) && decide ((4 : Int) * ((List.length a0.2 : Int)) ≤ 281474976710656) && decide (((List.length a0.2 : Int)) ≤ 9223372036854775807)) <|
 let n1 : Int := w64 ((w64 (((List.length a0.2 : Int)) * 32)) - 1)
 joinB (β := (D_whole_Int × D_whole_Int × Unit)) (γ := ((List Int) × Bool × (List Int) × Bool × (List Int) × (List Int) × Unit)) (
  iter (X := whole_Int_By_x4) (β := whole_Int_By_r4) (List.length ([] : List Int) + (Int.natAbs n1 + (List.length a0.2 + (List.length a1.2 + (List.length ([] : List Int) + (List.length ([] : List Int) + (List.length ((List.replicate (Int.toNat ((List.length a0.2 : Int))) 0) : List Int) + 2))))))) ([], n1, a0.1, a0.2, a1.1, a1.2, false, [], false, [], List.replicate (Int.toNat ((List.length a0.2 : Int))) 0, ()) (whole_Int_By_b4)) fun v14 =>
 Option.bind (whole_made false v14.2.2.2.2.2.1) fun r15 =>
 Option.bind (whole_made false v14.1) fun r16 =>
 some (r15.1, r16.1, ())

def whole_Int_Sign (a0 : D_whole_Int) : Option (Int × Unit) :=
 bif a0.1 then
  some ((-1), ())
 else
  bif ((List.length a0.2 : Int)) == 0 then
   some (0, ())
  else
   some (1, ())

def whole_Int_Minus (a0 : D_whole_Int) : Option (D_whole_Int × Unit) :=
 Option.bind (whole_made (!a0.1) a0.2) fun r1 =>
 some (r1.1, ())

abbrev whole_Int_Int_x5 : Type := Int × Int × (List Int) × Int × Int × Bool × (List Int) × Unit
abbrev whole_Int_Int_r5 : Type := ((Int × Bool × Unit) ⊕ (Int × Int × Bool × (List Int) × Unit))
def whole_Int_Int_b5  (x1 : whole_Int_Int_x5) (again : whole_Int_Int_x5 → Option whole_Int_Int_r5) : Option whole_Int_Int_r5 :=
 bif decide (x1.2.2.2.2.1 < x1.2.2.2.1) then
  Option.bind (idx x1.2.2.1 x1.2.2.2.2.1) fun y2 =>
  chk (decide (0 ≤ (w64 (32 * x1.2.2.2.2.1)))) <|
  let n3 : Int := wu64 ((wu64 y2) * 2 ^ (min (Int.toNat (w64 (32 * x1.2.2.2.2.1))) (IntKind.bits .u64)))
  again (x1.1, wu64 (((BitVec.ofInt (IntKind.bits .u64) x1.2.1 ||| BitVec.ofInt (IntKind.bits .u64) n3).toNat : Int)), x1.2.2.1, x1.2.2.2.1, w64 (x1.2.2.2.2.1 + 1), x1.2.2.2.2.2.1, x1.2.2.2.2.2.2.1, ())
 else
  some (Sum.inr (x1.1, x1.2.1, x1.2.2.2.2.2.1, x1.2.2.2.2.2.2.1, ()))

def whole_Int_Int (a0 : D_whole_Int) (a1 : Int) : Option (Int × Bool × Unit) :=
 bif decide (((List.length a0.2 : Int)) > 2) then
  some (0, false, ())
 else
  joinB (β := (Int × Bool × Unit)) (γ := (Int × Int × Bool × (List Int) × Unit)) (
   iter (X := whole_Int_Int_x5) (β := whole_Int_Int_r5) (Int.natAbs a1 + (Int.natAbs (0 : Int) + (List.length a0.2 + (Int.natAbs ((List.length a0.2 : Int)) + (Int.natAbs (0 : Int) + (List.length a0.2 + 2)))))) (a1, 0, a0.2, (List.length a0.2 : Int), 0, a0.1, a0.2, ()) (whole_Int_Int_b5)) fun v4 =>
  bif decide (v4.2.1 > (wu64 v4.1)) then
   some (0, false, ())
  else
   bif v4.2.2.1 then
    some (w64 (0 - (w64 v4.2.1)), true, ())
   else
    some (w64 v4.2.1, true, ())

def amount_Made (a0 : D_whole_Int) (a1 : Int) : Option (D_api_Decimal × Int × Unit) :=
 Option.bind (whole_Int_Int a0 1000000000000000) fun r1 =>
 bif !r1.2.1 then
  some ((0, 0), 1, ())
 else
  some ((r1.1, a1), 0, ())

abbrev amount_Fewest_x2 : Type := Int × Bool × (List Int) × Int × Int × Bool × (List Int) × Unit
abbrev amount_Fewest_r2 : Type := ((D_api_Decimal × Int × Unit) ⊕ (Int × Bool × (List Int) × Int × Int × Unit))
def amount_Fewest_b2  (x1 : amount_Fewest_x2) (again : amount_Fewest_x2 → Option amount_Fewest_r2) : Option amount_Fewest_r2 :=
 bif decide (x1.1 > 0) then
  Option.bind (whole_Int_By (x1.2.1, x1.2.2.1) (x1.2.2.2.2.2.1, x1.2.2.2.2.2.2.1)) fun r2 =>
  Option.bind (whole_Int_Sign r2.2.1) fun r3 =>
  bif r3.1 != 0 then
   some (Sum.inr (x1.1, x1.2.1, x1.2.2.1, x1.2.2.2.1, x1.2.2.2.2.1, ()))
  else
   Option.bind (whole_Int_Sign (x1.2.1, x1.2.2.1)) fun r4 =>
   bif decide (r4.1 < 0) then
    Option.bind (whole_Int_Minus r2.1) fun r5 =>
    again (w64 (x1.1 - 1), r5.1.1, r5.1.2, x1.2.2.2.1, x1.2.2.2.2.1, x1.2.2.2.2.2.1, x1.2.2.2.2.2.2.1, ())
   else
    again (w64 (x1.1 - 1), r2.1.1, r2.1.2, x1.2.2.2.1, x1.2.2.2.2.1, x1.2.2.2.2.2.1, x1.2.2.2.2.2.2.1, ())
 else
  some (Sum.inr (x1.1, x1.2.1, x1.2.2.1, x1.2.2.2.1, x1.2.2.2.2.1, ()))

def amount_Fewest (a0 : D_whole_Int) (a1 : Int) : Option (D_api_Decimal × Int × Unit) :=
 Option.bind (whole_Of 10) fun r1 =>
 joinB (β := (D_api_Decimal × Int × Unit)) (γ := (Int × Bool × (List Int) × Int × Int × Unit)) (
  iter (X := amount_Fewest_x2) (β := amount_Fewest_r2) (Int.natAbs a1 + (List.length a0.2 + (Int.natAbs (0 : Int) + (Int.natAbs (0 : Int) + (List.length r1.1.2 + 2))))) (a1, a0.1, a0.2, 0, 0, r1.1.1, r1.1.2, ()) (amount_Fewest_b2)) fun v7 =>
 Option.bind (amount_Made (v7.2.1, v7.2.2.1) v7.1) fun r8 =>
 some (r8.1, r8.2.1, ())

end Go.Md

namespace Go.Md
open Go.Dn

end Go.Md
