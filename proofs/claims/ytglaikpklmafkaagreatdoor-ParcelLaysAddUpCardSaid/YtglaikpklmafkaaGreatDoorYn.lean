/-
  The plain models of the functions that the law reaches, second part. No condition.
-/
import Derived.Test.YtglaikpklmafkaaGreatDoorYm
import Derived.Lib.Bytealg
import Derived.Lib.Repeat
set_option linter.all false
namespace Go.Md
open Go.Dn

abbrev D_api_Rate : Type := (List UInt8) × D_api_Decimal

abbrev D_api_Extra : Type := Bool × D_api_Decimal × (List UInt8)

abbrev D_api_BillLine : Type := Int × Int × (List UInt8) × D_api_Decimal × (List UInt8) × D_api_Decimal × Int × (List D_api_Extra) × (List UInt8)

abbrev D_api_Invoice : Type := (List UInt8) × (List UInt8) × Int × Int × Int × Bool × (List D_api_Rate) × (List D_api_BillLine) × (List D_api_Extra)

abbrev whole_Int_Times_x7 : Type := Int × Int × Int × (List Int) × Int × Int × (List Int) × Int × Int × Bool × (List Int) × Bool × (List Int) × Bool × (List Int) × (List Int) × Unit
abbrev whole_Int_Times_r7 : Type := (((D_whole_Int × Unit) ⊕ (Bool × (List Int) × Bool × (List Int) × Bool × (List Int) × (List Int) × Unit)) ⊕ (Int × Int × (List Int) × Int × Int × Bool × (List Int) × Bool × (List Int) × Bool × (List Int) × (List Int) × Unit))
def whole_Int_Times_b7  (x1 : whole_Int_Times_x7) (again : whole_Int_Times_x7 → Option whole_Int_Times_r7) : Option whole_Int_Times_r7 :=
  bif decide (x1.2.2.2.2.2.2.2.2.1 < x1.2.2.2.2.2.2.2.1) then
    Option.bind (idx x1.2.2.2.2.2.2.1 x1.2.2.2.2.2.2.2.2.1) fun y2 =>
    chk (decide (0 ≤ (w64 (x1.1 + x1.2.2.2.2.2.2.2.2.1))) && decide ((w64 (x1.1 + x1.2.2.2.2.2.2.2.2.1)) < (List.length x1.2.2.2.2.2.2.2.2.2.2.2.2.2.2.2.1 : Int))) <|
    Option.bind (x1.2.2.2.2.2.2.2.2.2.2.2.2.2.2.2.1[(w64 (x1.1 + x1.2.2.2.2.2.2.2.2.1)).toNat]?) fun y3 =>
    let n4 : Int := wu64 ((wu64 y3) + (wu64 ((wu64 x1.2.1) * (wu64 y2))))
    chk (decide (0 ≤ (w64 (x1.1 + x1.2.2.2.2.2.2.2.2.1))) && decide ((w64 (x1.1 + x1.2.2.2.2.2.2.2.2.1)) < (List.length x1.2.2.2.2.2.2.2.2.2.2.2.2.2.2.2.1 : Int))) <|
    Option.bind (x1.2.2.2.2.2.2.2.2.2.2.2.2.2.2.2.1[(w64 (x1.1 + x1.2.2.2.2.2.2.2.2.1)).toNat]?) fun _ =>
    again (x1.1, x1.2.1, Int.fdiv (wu64 (x1.2.2.1 + n4)) (2 ^ 32), x1.2.2.2.1, x1.2.2.2.2.1, x1.2.2.2.2.2.1, x1.2.2.2.2.2.2.1, x1.2.2.2.2.2.2.2.1, w64 (x1.2.2.2.2.2.2.2.2.1 + 1), x1.2.2.2.2.2.2.2.2.2.1, x1.2.2.2.2.2.2.2.2.2.2.1, x1.2.2.2.2.2.2.2.2.2.2.2.1, x1.2.2.2.2.2.2.2.2.2.2.2.2.1, x1.2.2.2.2.2.2.2.2.2.2.2.2.2.1, x1.2.2.2.2.2.2.2.2.2.2.2.2.2.2.1, List.set x1.2.2.2.2.2.2.2.2.2.2.2.2.2.2.2.1 (w64 (x1.1 + x1.2.2.2.2.2.2.2.2.1)).toNat (wu32 (wu64 (x1.2.2.1 + n4))), ())
  else
    some (Sum.inr (x1.1, x1.2.2.1, x1.2.2.2.1, x1.2.2.2.2.1, x1.2.2.2.2.2.1, x1.2.2.2.2.2.2.2.2.2.1, x1.2.2.2.2.2.2.2.2.2.2.1, x1.2.2.2.2.2.2.2.2.2.2.2.1, x1.2.2.2.2.2.2.2.2.2.2.2.2.1, x1.2.2.2.2.2.2.2.2.2.2.2.2.2.1, x1.2.2.2.2.2.2.2.2.2.2.2.2.2.2.1, x1.2.2.2.2.2.2.2.2.2.2.2.2.2.2.2.1, ()))

abbrev whole_Int_Times_x3 : Type := (List Int) × Int × Int × Bool × (List Int) × Bool × (List Int) × Bool × (List Int) × (List Int) × Unit
abbrev whole_Int_Times_r3 : Type := ((D_whole_Int × Unit) ⊕ (Bool × (List Int) × Bool × (List Int) × Bool × (List Int) × (List Int) × Unit))
def whole_Int_Times_b3  (x1 : whole_Int_Times_x3) (again : whole_Int_Times_x3 → Option whole_Int_Times_r3) : Option whole_Int_Times_r3 :=
  bif decide (x1.2.2.1 < x1.2.1) then
    Option.bind (idx x1.1 x1.2.2.1) fun y2 =>
    joinB (β := ((D_whole_Int × Unit) ⊕ (Bool × (List Int) × Bool × (List Int) × Bool × (List Int) × (List Int) × Unit))) (γ := (Int × Int × (List Int) × Int × Int × Bool × (List Int) × Bool × (List Int) × Bool × (List Int) × (List Int) × Unit)) (
      iter (X := whole_Int_Times_x7) (β := whole_Int_Times_r7) (Int.natAbs x1.2.2.1 + (Int.natAbs y2 + (Int.natAbs (0 : Int) + (List.length x1.1 + (Int.natAbs x1.2.1 + (Int.natAbs x1.2.2.1 + (List.length x1.2.2.2.2.2.2.1 + (Int.natAbs ((List.length x1.2.2.2.2.2.2.1 : Int)) + (Int.natAbs (0 : Int) + (List.length x1.2.2.2.2.1 + (List.length x1.2.2.2.2.2.2.1 + (List.length x1.2.2.2.2.2.2.2.2.1 + (List.length x1.2.2.2.2.2.2.2.2.2.1 + 2))))))))))))) (x1.2.2.1, y2, 0, x1.1, x1.2.1, x1.2.2.1, x1.2.2.2.2.2.2.1, (List.length x1.2.2.2.2.2.2.1 : Int), 0, x1.2.2.2.1, x1.2.2.2.2.1, x1.2.2.2.2.2.1, x1.2.2.2.2.2.2.1, x1.2.2.2.2.2.2.2.1, x1.2.2.2.2.2.2.2.2.1, x1.2.2.2.2.2.2.2.2.2.1, ()) (whole_Int_Times_b7)) fun v3 =>
    chk (decide (0 ≤ (w64 (v3.1 + ((List.length v3.2.2.2.2.2.2.2.2.1 : Int))))) && decide ((w64 (v3.1 + ((List.length v3.2.2.2.2.2.2.2.2.1 : Int)))) < (List.length v3.2.2.2.2.2.2.2.2.2.2.2.1 : Int))) <|
    Option.bind (v3.2.2.2.2.2.2.2.2.2.2.2.1[(w64 (v3.1 + ((List.length v3.2.2.2.2.2.2.2.2.1 : Int)))).toNat]?) fun _ =>
    again (v3.2.2.1, v3.2.2.2.1, w64 (v3.2.2.2.2.1 + 1), v3.2.2.2.2.2.1, v3.2.2.2.2.2.2.1, v3.2.2.2.2.2.2.2.1, v3.2.2.2.2.2.2.2.2.1, v3.2.2.2.2.2.2.2.2.2.1, v3.2.2.2.2.2.2.2.2.2.2.1, List.set v3.2.2.2.2.2.2.2.2.2.2.2.1 (w64 (v3.1 + ((List.length v3.2.2.2.2.2.2.2.2.1 : Int)))).toNat (wu32 v3.2.1), ())
  else
    some (Sum.inr (x1.2.2.2.1, x1.2.2.2.2.1, x1.2.2.2.2.2.1, x1.2.2.2.2.2.2.1, x1.2.2.2.2.2.2.2.1, x1.2.2.2.2.2.2.2.2.1, x1.2.2.2.2.2.2.2.2.2.1, ()))

def whole_Int_Times (a0 : D_whole_Int) (a1 : D_whole_Int) : Option (D_whole_Int × Unit) :=
  chk (decide (0 ≤ (w64 (((List.length a0.2 : Int)) + ((List.length a1.2 : Int))))) && decide ((w64 (((List.length a0.2 : Int)) + ((List.length a1.2 : Int)))) ≤ (w64 (((List.length a0.2 : Int)) + ((List.length a1.2 : Int))))) && decide ((4 : Int) * (w64 (((List.length a0.2 : Int)) + ((List.length a1.2 : Int)))) ≤ 281474976710656) && decide ((w64 (((List.length a0.2 : Int)) + ((List.length a1.2 : Int)))) ≤ 9223372036854775807)) <|
  joinB (β := (D_whole_Int × Unit)) (γ := (Bool × (List Int) × Bool × (List Int) × Bool × (List Int) × (List Int) × Unit)) (
    iter (X := whole_Int_Times_x3) (β := whole_Int_Times_r3) (List.length a0.2 + (Int.natAbs ((List.length a0.2 : Int)) + (Int.natAbs (0 : Int) + (List.length a0.2 + (List.length a1.2 + (List.length ([] : List Int) + (List.length ((List.replicate (Int.toNat (w64 (((List.length a0.2 : Int)) + ((List.length a1.2 : Int))))) 0) : List Int) + 2))))))) (a0.2, (List.length a0.2 : Int), 0, a0.1, a0.2, a1.1, a1.2, false, [], List.replicate (Int.toNat (w64 (((List.length a0.2 : Int)) + ((List.length a1.2 : Int))))) 0, ()) (whole_Int_Times_b3)) fun v10 =>
  Option.bind (whole_made (!(v10.1 == v10.2.2.1)) v10.2.2.2.2.2.2.1) fun r11 =>
  some (r11.1, ())

abbrev whole_Power_x3 : Type := Int × Int × Bool × (List Int) × Bool × (List Int) × Unit
abbrev whole_Power_r3 : Type := ((D_whole_Int × Unit) ⊕ (Bool × (List Int) × Bool × (List Int) × Unit))
def whole_Power_b3  (x1 : whole_Power_x3) (again : whole_Power_x3 → Option whole_Power_r3) : Option whole_Power_r3 :=
  bif decide (x1.2.1 < x1.1) then
    Option.bind (whole_Of 10) fun r2 =>
    Option.bind (whole_Int_Times (x1.2.2.2.2.1, x1.2.2.2.2.2.1) r2.1) fun r3 =>
    again (x1.1, w64 (x1.2.1 + 1), x1.2.2.1, x1.2.2.2.1, r3.1.1, r3.1.2, ())
  else
    some (Sum.inr (x1.2.2.1, x1.2.2.2.1, x1.2.2.2.2.1, x1.2.2.2.2.2.1, ()))

def whole_Power (a0 : Int) : Option (D_whole_Int × Unit) :=
  Option.bind (whole_Of 1) fun r1 =>
  joinB (β := (D_whole_Int × Unit)) (γ := (Bool × (List Int) × Bool × (List Int) × Unit)) (
    iter (X := whole_Power_x3) (β := whole_Power_r3) (Int.natAbs a0 + (Int.natAbs (0 : Int) + (List.length ([] : List Int) + (List.length r1.1.2 + 2)))) (a0, 0, false, [], r1.1.1, r1.1.2, ()) (whole_Power_b3)) fun v5 =>
  some ((v5.2.2.1, v5.2.2.2.1), ())

abbrev whole_sum_v_x6 : Type := (List Int) × (List Int) × Int × (List Int) × Int × Int × Unit
abbrev whole_sum_v_r6 : Type := (((List Int) × Unit) ⊕ ((List Int) × Int × Unit))
def whole_sum_v_b6  (x1 : whole_sum_v_x6) (again : whole_sum_v_x6 → Option whole_sum_v_r6) : Option whole_sum_v_r6 :=
  bif decide (x1.2.2.2.2.2.1 < x1.2.2.2.2.1) then
    Option.bind (idx x1.2.2.2.1 x1.2.2.2.2.2.1) fun y2 =>
    joinB (β := (((List Int) × Unit) ⊕ ((List Int) × Int × Unit))) (γ := ((List Int) × (List Int) × Int × (List Int) × Int × Int × Unit)) (
      bif decide (x1.2.2.2.2.2.1 < ((List.length x1.1 : Int))) then
        Option.bind (idx x1.1 x1.2.2.2.2.2.1) fun y3 =>
        let n4 : Int := wu64 ((wu64 (x1.2.2.1 + (wu64 y2))) + (wu64 y3))
        some (Sum.inr (x1.1, x1.2.1, n4, x1.2.2.2.1, x1.2.2.2.2.1, x1.2.2.2.2.2.1, ()))
      else
        some (Sum.inr (x1.1, x1.2.1, wu64 (x1.2.2.1 + (wu64 y2)), x1.2.2.2.1, x1.2.2.2.2.1, x1.2.2.2.2.2.1, ()))) fun v5 =>
    chk (decide (((List.length v5.2.1) + 1) * 4 ≤ 140737488355328) && decide ((List.length v5.2.1) + 1 ≤ maxLen)) <|
    again (v5.1, v5.2.1 ++ [(wu32 v5.2.2.1)], Int.fdiv v5.2.2.1 (2 ^ 32), v5.2.2.2.1, v5.2.2.2.2.1, w64 (v5.2.2.2.2.2.1 + 1), ())
  else
    some (Sum.inr (x1.2.1, x1.2.2.1, ()))

def whole_sum_v (a0 : List Int) (a1 : List Int) : Option ((List Int) × Unit) :=
  joinB (β := ((List Int) × Unit)) (γ := ((List Int) × (List Int) × Unit)) (
    bif decide (((List.length a0 : Int)) < ((List.length a1 : Int))) then
      some (Sum.inr (a1, a0, ()))
    else
      some (Sum.inr (a0, a1, ()))) fun v1 =>
  chk (decide (0 ≤ (0 : Int)) && decide ((0 : Int) ≤ (w64 (((List.length v1.1 : Int)) + 1))) && decide ((4 : Int) * (w64 (((List.length v1.1 : Int)) + 1)) ≤ 281474976710656) && decide ((w64 (((List.length v1.1 : Int)) + 1)) ≤ 9223372036854775807)) <|
  joinB (β := ((List Int) × Unit)) (γ := ((List Int) × Int × Unit)) (
    iter (X := whole_sum_v_x6) (β := whole_sum_v_r6) (List.length v1.2.1 + (List.length ([] : List Int) + (Int.natAbs (0 : Int) + (List.length v1.1 + (Int.natAbs ((List.length v1.1 : Int)) + (Int.natAbs (0 : Int) + 2)))))) (v1.2.1, [], 0, v1.1, (List.length v1.1 : Int), 0, ()) (whole_sum_v_b6)) fun v7 =>
  chk (decide (((List.length v7.1) + 1) * 4 ≤ 140737488355328) && decide ((List.length v7.1) + 1 ≤ maxLen)) <|
  some (v7.1 ++ [(wu32 v7.2.1)], ())

def whole_Int_Plus (a0 : D_whole_Int) (a1 : D_whole_Int) : Option (D_whole_Int × Unit) :=
  bif a0.1 == a1.1 then
    Option.bind (whole_sum_v a0.2 a1.2) fun r1 =>
    Option.bind (whole_made a0.1 r1.1) fun r2 =>
    some (r2.1, ())
  else
    Option.bind (whole_compare a0.2 a1.2) fun r3 =>
    bif decide (r3.1 ≥ 0) then
      Option.bind (whole_less a0.2 a1.2) fun r4 =>
      Option.bind (whole_made a0.1 r4.1) fun r5 =>
      some (r5.1, ())
    else
      Option.bind (whole_less a1.2 a0.2) fun r6 =>
      Option.bind (whole_made a1.1 r6.1) fun r7 =>
      some (r7.1, ())

def whole_Int_Less (a0 : D_whole_Int) (a1 : D_whole_Int) : Option (D_whole_Int × Unit) :=
  Option.bind (whole_Int_Minus a1) fun r1 =>
  Option.bind (whole_Int_Plus a0 r1.1) fun r2 =>
  some (r2.1, ())

def whole_Int_Compare (a0 : D_whole_Int) (a1 : D_whole_Int) : Option (Int × Unit) :=
  Option.bind (whole_Int_Less a0 a1) fun r1 =>
  Option.bind (whole_Int_Sign r1.1) fun r2 =>
  some (r2.1, ())

def amount_Scaled (a0 : D_api_Decimal) (a1 : Int) : Option (D_whole_Int × Unit) :=
  Option.bind (whole_Of a0.1) fun r1 =>
  Option.bind (whole_Power (w64 (a1 - a0.2))) fun r2 =>
  Option.bind (whole_Int_Times r1.1 r2.1) fun r3 =>
  some (r3.1, ())

end Go.Md

namespace Go.Md
open Go.Dn

def dec2 (n : Nat) : List UInt8 := if n < 10 then [UInt8.ofNat (48 + n)] else [UInt8.ofNat (48 + n / 10), UInt8.ofNat (48 + n % 10)]
def strconv_Itoa (n : Int) : Option (List UInt8 × Unit) := bif decide (0 ≤ n) && decide (n < 100) then some (dec2 n.toNat, ()) else none
def strings_Repeat (s : List UInt8) (n : Int) : Option (List UInt8 × Unit) := bif decide (2 ≤ n) && (decide (n ≤ 9223372036854775807) && (decide (0 < s.length) && decide (s.length * n.toNat ≤ 140737488355328))) then some (Lib.repeatL s n.toNat, ()) else none
/-- Not needed. -/
def amount_bankRestOf (_a : List UInt8) : Option (Int × Unit) := none
/-- Not needed. -/
def amount_isBank (_a : List UInt8) : Option (Bool × Unit) := none
/-- Not needed. -/
def amount_isBody (_a : List UInt8) : Option (Bool × Unit) := none
/-- Not needed. -/
def amount_isTax (_a : List UInt8) : Option (Bool × Unit) := none
/-- Not needed. -/
def amount_padded (_a _b : Int) : Option (List UInt8 × Unit) := none
abbrev D_api_Content : Type := (List UInt8) × (List UInt8) × (List UInt8) × D_api_Decimal

abbrev D_api_Parcel : Type := (List UInt8) × (List UInt8) × D_api_Decimal × (List D_api_Content)

abbrev D_api_Advice : Type := (List UInt8) × (List UInt8) × Int × (List D_api_Parcel)

abbrev t_api_Rest : Ty := (.st (.pair tI (.pair t_api_Decimal tI)))
abbrev D_api_Rest : Type := Int × D_api_Decimal × Int

abbrev t_api_State : Ty := (.st (.pair tI (.pair .str (.pair .str (.pair t_api_Decimal (.pair t_api_Decimal (.pair tI (.pair t_api_Decimal (.pair t_api_Decimal (.pair t_api_Decimal t_api_Decimal))))))))))
abbrev D_api_State : Type := Int × (List UInt8) × (List UInt8) × D_api_Decimal × D_api_Decimal × Int × D_api_Decimal × D_api_Decimal × D_api_Decimal × D_api_Decimal

abbrev t_api_Mass : Ty := (.st (.pair .str (.pair .str t_api_Decimal)))
abbrev D_api_Mass : Type := (List UInt8) × (List UInt8) × D_api_Decimal

def amount_isKind (a0 : Int) : Option (Bool × Unit) :=
  Option.bind (kit_Outside a0 1 5) fun r1 =>
  some (!r1.1, ())

def amount_lengths (a0 : Int) : Option ((List Int) × Unit) :=
  bif a0 == 1 then
    some ([8, 12, 13, 14], ())
  else
    bif a0 == 2 then
      some ([13], ())
    else
      some ([18], ())

abbrev slices_Index_int_x2 : Type := (List Int) × Int × Int × Int × Unit
abbrev slices_Index_int_r2 : Type := ((Int × Unit) ⊕ Unit)
def slices_Index_int_b2  (x1 : slices_Index_int_x2) (again : slices_Index_int_x2 → Option slices_Index_int_r2) : Option slices_Index_int_r2 :=
  bif decide (x1.2.2.2.1 < x1.2.2.1) then
    Option.bind (idx x1.1 x1.2.2.2.1) fun y2 =>
    bif x1.2.1 == y2 then
      some (Sum.inl (x1.2.2.2.1, ()))
    else
      again (x1.1, x1.2.1, x1.2.2.1, w64 (x1.2.2.2.1 + 1), ())
  else
    some (Sum.inr ())

def slices_Index_int (a0 : List Int) (a1 : Int) : Option (Int × Unit) :=
  joinB (β := (Int × Unit)) (γ := Unit) (
    iter (X := slices_Index_int_x2) (β := slices_Index_int_r2) (List.length a0 + (Int.natAbs a1 + (Int.natAbs ((List.length a0 : Int)) + (Int.natAbs (0 : Int) + 2)))) (a0, a1, (List.length a0 : Int), 0, ()) (slices_Index_int_b2)) fun _ =>
  some ((-1), ())

def slices_Contains_int (a0 : List Int) (a1 : Int) : Option (Bool × Unit) :=
  Option.bind (slices_Index_int a0 a1) fun r1 =>
  some (decide (r1.1 ≥ 0), ())

abbrev kit_InBytes_x2 : Type := (List UInt8) × Int × Int × Int × Int × Unit
abbrev kit_InBytes_r2 : Type := ((Bool × Unit) ⊕ Unit)
def kit_InBytes_b2  (x1 : kit_InBytes_x2) (again : kit_InBytes_x2 → Option kit_InBytes_r2) : Option kit_InBytes_r2 :=
  bif decide (x1.2.2.2.2.1 < x1.2.2.2.1) then
    Option.bind (sidx x1.1 x1.2.2.2.2.1) fun c2 =>
    bif decide ((c2.toNat : Int) < x1.2.1) then
      some (Sum.inl (false, ()))
    else
      Option.bind (sidx x1.1 x1.2.2.2.2.1) fun c3 =>
      bif decide ((c3.toNat : Int) > x1.2.2.1) then
        some (Sum.inl (false, ()))
      else
        again (x1.1, x1.2.1, x1.2.2.1, x1.2.2.2.1, w64 (x1.2.2.2.2.1 + 1), ())
  else
    some (Sum.inr ())

def kit_InBytes (a0 : List UInt8) (a1 : Int) (a2 : Int) : Option (Bool × Unit) :=
  joinB (β := (Bool × Unit)) (γ := Unit) (
    iter (X := kit_InBytes_x2) (β := kit_InBytes_r2) (List.length a0 + (Int.natAbs a1 + (Int.natAbs a2 + (Int.natAbs ((List.length a0 : Int)) + (Int.natAbs (0 : Int) + 2))))) (a0, a1, a2, (List.length a0 : Int), 0, ()) (kit_InBytes_b2)) fun _ =>
  some (true, ())

def kit_IsDigits (a0 : List UInt8) : Option (Bool × Unit) :=
  bif !(a0 == []) then
    Option.bind (kit_InBytes a0 48 57) fun r1 =>
    some (r1.1, ())
  else
    some (false, ())

abbrev amount_isSum_x3 : Type := (List UInt8) × Int × Int × Int × Unit
abbrev amount_isSum_r3 : Type := ((Bool × Unit) ⊕ (Int × Unit))
def amount_isSum_b3  (x1 : amount_isSum_x3) (again : amount_isSum_x3 → Option amount_isSum_r3) : Option amount_isSum_r3 :=
  bif decide (x1.2.2.2.1 < x1.2.2.1) then
    let n2 : Int := w64 ((w64 (((List.length x1.1 : Int)) - 1)) - x1.2.2.2.1)
    Option.bind (sidx x1.1 n2) fun c3 =>
    bif (Int.tmod x1.2.2.2.1 2) == 1 then
      let n4 : Int := w64 ((w64 (wu8 ((c3.toNat : Int) - 48))) * 3)
      again (x1.1, w64 (x1.2.1 + n4), x1.2.2.1, w64 (x1.2.2.2.1 + 1), ())
    else
      let n5 : Int := w64 (x1.2.1 + (w64 (wu8 ((c3.toNat : Int) - 48))))
      again (x1.1, n5, x1.2.2.1, w64 (x1.2.2.2.1 + 1), ())
  else
    some (Sum.inr (x1.2.1, ()))

def amount_isSum (a0 : List UInt8) : Option (Bool × Unit) :=
  joinB (β := (Bool × Unit)) (γ := (Int × Unit)) (
    iter (X := amount_isSum_x3) (β := amount_isSum_r3) (List.length a0 + (Int.natAbs (0 : Int) + (Int.natAbs ((List.length a0 : Int)) + (Int.natAbs (0 : Int) + 2)))) (a0, 0, (List.length a0 : Int), 0, ()) (amount_isSum_b3)) fun v6 =>
  some ((Int.tmod v6.1 10) == 0, ())

def amount_isNumber (a0 : Int) (a1 : List UInt8) : Option (Bool × Unit) :=
  bif a0 == 4 then
    Option.bind (amount_isBank a1) fun r1 =>
    some (r1.1, ())
  else
    bif a0 == 5 then
      Option.bind (amount_isTax a1) fun r2 =>
      some (r2.1, ())
    else
      Option.bind (amount_lengths a0) fun r3 =>
      Option.bind (slices_Contains_int r3.1 ((List.length a1 : Int))) fun r4 =>
      bif r4.1 then
        Option.bind (kit_IsDigits a1) fun r5 =>
        bif r5.1 then
          Option.bind (amount_isSum a1) fun r6 =>
          some (r6.1, ())
        else
          some (false, ())
      else
        some (false, ())

def r10_cmp (a0 : D_api_Decimal) (a1 : D_api_Decimal) : Option (Int × Unit) :=
  Option.bind (r1_At a0 9) fun r1 =>
  Option.bind (r1_At a1 9) fun r2 =>
  Option.bind (r1_Cmp r1.1 r2.1) fun r3 =>
  some (r3.1, ())

abbrev parcel_room_x5 : Type := Int × Int × Int × Unit
abbrev parcel_room_r5 : Type := ((Int × Bool × Unit) ⊕ (Int × Unit))
def parcel_room_b5  (x1 : parcel_room_x5) (again : parcel_room_x5 → Option parcel_room_r5) : Option parcel_room_r5 :=
  bif decide (x1.2.2.1 < x1.2.1) then
    again (w64 (x1.1 * 10), x1.2.1, w64 (x1.2.2.1 + 1), ())
  else
    some (Sum.inr (x1.1, ()))

def parcel_room (a0 : List UInt8) : Option (Int × Bool × Unit) :=
  bif decide (((List.length a0 : Int)) > 15) then
    some (0, false, ())
  else
    Option.bind (kit_IsDigits a0) fun r1 =>
    bif !r1.1 then
      some (0, false, ())
    else
      joinB (β := (Int × Bool × Unit)) (γ := (Int × Unit)) (
        iter (X := parcel_room_x5) (β := parcel_room_r5) (Int.natAbs (1 : Int) + (Int.natAbs (w64 (17 - ((List.length a0 : Int)))) + (Int.natAbs (0 : Int) + 2))) (1, w64 (17 - ((List.length a0 : Int))), 0, ()) (parcel_room_b5)) fun v3 =>
      some (v3.1, true, ())

abbrev amount_Completed_x16 : Type := Int × (List UInt8) × Int × Unit
abbrev amount_Completed_r16 : Type := (((List UInt8) × Int × Unit) ⊕ Unit)
def amount_Completed_b16  (x1 : amount_Completed_x16) (again : amount_Completed_x16 → Option amount_Completed_r16) : Option amount_Completed_r16 :=
  bif decide (x1.2.2.1 < 10) then
    Option.bind (strconv_Itoa x1.2.2.1) fun r2 =>
    chk (decide (List.length x1.2.1 + List.length r2.1 ≤ maxLen)) <|
    Option.bind (amount_isNumber x1.1 (x1.2.1 ++ r2.1)) fun r3 =>
    bif r3.1 then
      some (Sum.inl (x1.2.1 ++ r2.1, 0, ()))
    else
      again (x1.1, x1.2.1, w64 (x1.2.2.1 + 1), ())
  else
    some (Sum.inr ())

def amount_Completed (a0 : Int) (a1 : List UInt8) : Option ((List UInt8) × Int × Unit) :=
  Option.bind (amount_isKind a0) fun r1 =>
  bif !r1.1 then
    some ([], 4, ())
  else
    bif decide (((List.length a1 : Int)) > 34) then
      some ([], 3, ())
    else
      bif a0 == 4 then
        bif decide (((List.length a1 : Int)) < 2) then
          some ([], 3, ())
        else
          Option.bind (amount_isBody a1) fun r2 =>
          bif !r2.1 then
            some ([], 3, ())
          else
            bif decide (((List.length a1 : Int)) < 13) then
              some ([], 3, ())
            else
              chk (decide (0 ≤ (0 : Int)) && decide ((0 : Int) ≤ 2) && decide (2 ≤ (List.length a1 : Int))) <|
              chk (decide (List.length (List.drop 0 (List.take (Int.toNat 2) a1)) + List.length [48, 48] ≤ maxLen)) <|
              chk (decide (0 ≤ (2 : Int)) && decide ((2 : Int) ≤ ((List.length a1 : Int))) && decide (((List.length a1 : Int)) ≤ (List.length a1 : Int))) <|
              chk (decide (List.length ((List.drop 0 (List.take (Int.toNat 2) a1)) ++ [48, 48]) + List.length (List.drop 2 (List.take (Int.toNat ((List.length a1 : Int))) a1)) ≤ maxLen)) <|
              Option.bind (amount_bankRestOf (((List.drop 0 (List.take (Int.toNat 2) a1)) ++ [48, 48]) ++ (List.drop 2 (List.take (Int.toNat ((List.length a1 : Int))) a1)))) fun r3 =>
              chk (decide (0 ≤ (0 : Int)) && decide ((0 : Int) ≤ 2) && decide (2 ≤ (List.length a1 : Int))) <|
              Option.bind (amount_padded (w64 (98 - r3.1)) 2) fun r4 =>
              chk (decide (List.length (List.drop 0 (List.take (Int.toNat 2) a1)) + List.length r4.1 ≤ maxLen)) <|
              chk (decide (0 ≤ (2 : Int)) && decide ((2 : Int) ≤ ((List.length a1 : Int))) && decide (((List.length a1 : Int)) ≤ (List.length a1 : Int))) <|
              chk (decide (List.length ((List.drop 0 (List.take (Int.toNat 2) a1)) ++ r4.1) + List.length (List.drop 2 (List.take (Int.toNat ((List.length a1 : Int))) a1)) ≤ maxLen)) <|
              Option.bind (amount_isBank (((List.drop 0 (List.take (Int.toNat 2) a1)) ++ r4.1) ++ (List.drop 2 (List.take (Int.toNat ((List.length a1 : Int))) a1)))) fun r5 =>
              bif !r5.1 then
                some ([], 3, ())
              else
                some (((List.drop 0 (List.take (Int.toNat 2) a1)) ++ r4.1) ++ (List.drop 2 (List.take (Int.toNat ((List.length a1 : Int))) a1)), 0, ())
      else
        joinB (β := ((List UInt8) × Int × Unit)) (γ := Unit) (
          iter (X := amount_Completed_x16) (β := amount_Completed_r16) (Int.natAbs a0 + (List.length a1 + (Int.natAbs (0 : Int) + 2))) (a0, a1, 0, ()) (amount_Completed_b16)) fun _ =>
        some ([], 3, ())

def parcel_LabelOf (a0 : List UInt8) (a1 : Int) : Option ((List UInt8) × Int × Unit) :=
  Option.bind (parcel_room a0) fun r1 =>
  bif !r1.2.1 then
    some ([], 3, ())
  else
    Option.bind (kit_Outside a1 0 (w64 (r1.1 - 1))) fun r2 =>
    bif r2.1 then
      some ([], 1, ())
    else
      Option.bind (strconv_Itoa a1) fun r3 =>
      let n4 : Int := w64 ((w64 (17 - ((List.length a0 : Int)))) - ((List.length r3.1 : Int)))
      Option.bind (strings_Repeat [48] n4) fun r5 =>
      chk (decide (List.length a0 + List.length r5.1 ≤ maxLen)) <|
      chk (decide (List.length (a0 ++ r5.1) + List.length r3.1 ≤ maxLen)) <|
      Option.bind (amount_Completed 3 ((a0 ++ r5.1) ++ r3.1)) fun r6 =>
      some (r6.1, r6.2.1, ())

def l10_awake  : Option (Bool × Unit) :=
  Option.bind (parcel_LabelOf [51, 52, 48, 49, 50, 51, 52, 53] 1) fun r1 =>
  bif r1.2.1 == 0 then
    some (r1.1 == [51, 52, 48, 49, 50, 51, 52, 53, 48, 48, 48, 48, 48, 48, 48, 48, 49, 55], ())
  else
    some (false, ())

end Go.Md

namespace Go.Md
open Go.Dn

def r10_units (a0 : D_api_Decimal) : Option (D_interchangeref1_Num × Unit) :=
  Option.bind (r1_At a0 9) fun r1 =>
  some (r1.1, ())

end Go.Md

namespace Go.Md
open Go.Dn

abbrev parcel_itemsFault_x4 : Type := (List D_api_Mass) × Int × Int × Unit
abbrev parcel_itemsFault_r4 : Type := ((Int × Unit) ⊕ Unit)
def parcel_itemsFault_b4  (x1 : parcel_itemsFault_x4) (again : parcel_itemsFault_x4 → Option parcel_itemsFault_r4) : Option parcel_itemsFault_r4 :=
  bif decide (x1.2.2.1 < x1.2.1) then
    Option.bind (idx x1.1 x1.2.2.1) fun y2 =>
    Option.bind (kit_IsName y2.1) fun r3 =>
    bif !r3.1 then
      some (Sum.inl (5, ()))
    else
      Option.bind (kit_IsName y2.2.1) fun r4 =>
      bif !r4.1 then
        some (Sum.inl (5, ()))
      else
        Option.bind (amount_CheckDecimal y2.2.2) fun r5 =>
        bif r5.1 != 0 then
          some (Sum.inl (r5.1, ()))
        else
          bif decide (y2.2.2.1 < 0) then
            some (Sum.inl (1, ()))
          else
            again (x1.1, x1.2.1, w64 (x1.2.2.1 + 1), ())
  else
    some (Sum.inr ())

def parcel_itemsFault (a0 : List D_api_Mass) : Option (Int × Unit) :=
  bif decide (((List.length a0 : Int)) > 100) then
    some (2, ())
  else
    joinB (β := (Int × Unit)) (γ := Unit) (
      iter (X := parcel_itemsFault_x4) (β := parcel_itemsFault_r4) (List.length a0 + (Int.natAbs ((List.length a0 : Int)) + (Int.natAbs (0 : Int) + 2))) (a0, (List.length a0 : Int), 0, ()) (parcel_itemsFault_b4)) fun _ =>
    some (0, ())

abbrev parcel_linesFault_x4 : Type := (List D_api_State) × (List D_api_State) × Int × Int × Unit
abbrev parcel_linesFault_r4 : Type := ((Int × Unit) ⊕ Unit)
def parcel_linesFault_b4  (x1 : parcel_linesFault_x4) (again : parcel_linesFault_x4 → Option parcel_linesFault_r4) : Option parcel_linesFault_r4 :=
  bif decide (x1.2.2.2.1 < x1.2.2.1) then
    Option.bind (idx x1.2.1 x1.2.2.2.1) fun y2 =>
    Option.bind (kit_Outside y2.1 1 99999) fun r3 =>
    bif r3.1 then
      some (Sum.inl (1, ()))
    else
      bif decide (x1.2.2.2.1 > 0) then
        Option.bind (idx x1.1 (w64 (x1.2.2.2.1 - 1))) fun y4 =>
        bif decide (y2.1 ≤ y4.1) then
          some (Sum.inl (8, ()))
        else
          Option.bind (amount_CheckDecimal y2.2.2.2.2.2.2.2.2.2) fun r5 =>
          bif r5.1 != 0 then
            some (Sum.inl (r5.1, ()))
          else
            bif decide (y2.2.2.2.2.2.2.2.2.2.1 < 0) then
              some (Sum.inl (1, ()))
            else
              again (x1.1, x1.2.1, x1.2.2.1, w64 (x1.2.2.2.1 + 1), ())
      else
        Option.bind (amount_CheckDecimal y2.2.2.2.2.2.2.2.2.2) fun r6 =>
        bif r6.1 != 0 then
          some (Sum.inl (r6.1, ()))
        else
          bif decide (y2.2.2.2.2.2.2.2.2.2.1 < 0) then
            some (Sum.inl (1, ()))
          else
            again (x1.1, x1.2.1, x1.2.2.1, w64 (x1.2.2.2.1 + 1), ())
  else
    some (Sum.inr ())

def parcel_linesFault (a0 : List D_api_State) : Option (Int × Unit) :=
  bif decide (((List.length a0 : Int)) > 500) then
    some (2, ())
  else
    joinB (β := (Int × Unit)) (γ := Unit) (
      iter (X := parcel_linesFault_x4) (β := parcel_linesFault_r4) (List.length a0 + (List.length a0 + (Int.natAbs ((List.length a0 : Int)) + (Int.natAbs (0 : Int) + 2)))) (a0, a0, (List.length a0 : Int), 0, ()) (parcel_linesFault_b4)) fun _ =>
    some (0, ())

def amount_Value (a0 : D_api_Decimal) : Option (D_whole_Int × Unit) :=
  Option.bind (amount_Scaled a0 9) fun r1 =>
  some (r1.1, ())

def parcel_Laid_1 (a0 : Int) (a1 : Int) (a2 : List D_api_State) : Option (Int × Unit) :=
  Option.bind (idx a2 a0) fun y1 =>
  Option.bind (idx a2 a1) fun y2 =>
  some (w64 (y1.2.2.2.2.2.1 - y2.2.2.2.2.2.1), ())

abbrev slices_insertionSortCmpFunc_int_x4 : Type := Int × Int × (List D_api_State) × Int × Int × (List Int) × Unit
abbrev slices_insertionSortCmpFunc_int_r4 : Type := ((((List Int) × Unit) ⊕ ((List Int) × Unit)) ⊕ (Int × Int × (List D_api_State) × Int × (List Int) × Unit))
def slices_insertionSortCmpFunc_int_b4  (x1 : slices_insertionSortCmpFunc_int_x4) (again : slices_insertionSortCmpFunc_int_x4 → Option slices_insertionSortCmpFunc_int_r4) : Option slices_insertionSortCmpFunc_int_r4 :=
  bif decide (x1.2.2.2.2.1 > x1.1) then
    chk (decide (0 ≤ x1.2.2.2.2.1) && decide (x1.2.2.2.2.1 < (List.length x1.2.2.2.2.2.1 : Int))) <|
    Option.bind (x1.2.2.2.2.2.1[x1.2.2.2.2.1.toNat]?) fun y2 =>
    chk (decide (0 ≤ (w64 (x1.2.2.2.2.1 - 1))) && decide ((w64 (x1.2.2.2.2.1 - 1)) < (List.length x1.2.2.2.2.2.1 : Int))) <|
    Option.bind (x1.2.2.2.2.2.1[(w64 (x1.2.2.2.2.1 - 1)).toNat]?) fun y3 =>
    Option.bind (parcel_Laid_1 y2 y3 x1.2.2.1) fun r4 =>
    bif decide (r4.1 < 0) then
      chk (decide (0 ≤ (w64 (x1.2.2.2.2.1 - 1))) && decide ((w64 (x1.2.2.2.2.1 - 1)) < (List.length x1.2.2.2.2.2.1 : Int))) <|
      Option.bind (x1.2.2.2.2.2.1[(w64 (x1.2.2.2.2.1 - 1)).toNat]?) fun y5 =>
      chk (decide (0 ≤ x1.2.2.2.2.1) && decide (x1.2.2.2.2.1 < (List.length x1.2.2.2.2.2.1 : Int))) <|
      Option.bind (x1.2.2.2.2.2.1[x1.2.2.2.2.1.toNat]?) fun y6 =>
      chk (decide (0 ≤ x1.2.2.2.2.1) && decide (x1.2.2.2.2.1 < (List.length x1.2.2.2.2.2.1 : Int))) <|
      Option.bind (x1.2.2.2.2.2.1[x1.2.2.2.2.1.toNat]?) fun _ =>
      chk (decide (0 ≤ (w64 (x1.2.2.2.2.1 - 1))) && decide ((w64 (x1.2.2.2.2.1 - 1)) < (List.length (List.set x1.2.2.2.2.2.1 x1.2.2.2.2.1.toNat y5) : Int))) <|
      Option.bind ((List.set x1.2.2.2.2.2.1 x1.2.2.2.2.1.toNat y5)[(w64 (x1.2.2.2.2.1 - 1)).toNat]?) fun _ =>
      again (x1.1, x1.2.1, x1.2.2.1, x1.2.2.2.1, w64 (x1.2.2.2.2.1 - 1), List.set (List.set x1.2.2.2.2.2.1 x1.2.2.2.2.1.toNat y5) (w64 (x1.2.2.2.2.1 - 1)).toNat y6, ())
    else
      some (Sum.inr (x1.1, x1.2.1, x1.2.2.1, x1.2.2.2.1, x1.2.2.2.2.2.1, ()))
  else
    some (Sum.inr (x1.1, x1.2.1, x1.2.2.1, x1.2.2.2.1, x1.2.2.2.2.2.1, ()))

abbrev slices_insertionSortCmpFunc_int_x1 : Type := Int × Int × (List D_api_State) × Int × (List Int) × Unit
abbrev slices_insertionSortCmpFunc_int_r1 : Type := (((List Int) × Unit) ⊕ ((List Int) × Unit))
def slices_insertionSortCmpFunc_int_b1  (x1 : slices_insertionSortCmpFunc_int_x1) (again : slices_insertionSortCmpFunc_int_x1 → Option slices_insertionSortCmpFunc_int_r1) : Option slices_insertionSortCmpFunc_int_r1 :=
  bif decide (x1.2.2.2.1 < x1.2.1) then
    joinB (β := (((List Int) × Unit) ⊕ ((List Int) × Unit))) (γ := (Int × Int × (List D_api_State) × Int × (List Int) × Unit)) (
      iter (X := slices_insertionSortCmpFunc_int_x4) (β := slices_insertionSortCmpFunc_int_r4) (Int.natAbs x1.1 + (Int.natAbs x1.2.1 + (Int.natAbs x1.2.2.2.1 + (Int.natAbs x1.2.2.2.1 + (List.length x1.2.2.2.2.1 + 2))))) (x1.1, x1.2.1, x1.2.2.1, x1.2.2.2.1, x1.2.2.2.1, x1.2.2.2.2.1, ()) (slices_insertionSortCmpFunc_int_b4)) fun v2 =>
    again (v2.1, v2.2.1, v2.2.2.1, w64 (v2.2.2.2.1 + 1), v2.2.2.2.2.1, ())
  else
    some (Sum.inr (x1.2.2.2.2.1, ()))

def slices_insertionSortCmpFunc_int (a0 : List Int) (a1 : Int) (a2 : Int) (a3 : List D_api_State) : Option ((List Int) × Unit) :=
  joinB (β := ((List Int) × Unit)) (γ := ((List Int) × Unit)) (
    iter (X := slices_insertionSortCmpFunc_int_x1) (β := slices_insertionSortCmpFunc_int_r1) (Int.natAbs a1 + (Int.natAbs a2 + (Int.natAbs (w64 (a1 + 1)) + (List.length a0 + 2)))) (a1, a2, a3, w64 (a1 + 1), a0, ()) (slices_insertionSortCmpFunc_int_b1)) fun v11 =>
  some (v11.1, ())

abbrev slices_swapRangeCmpFunc_int_x1 : Type := Int × Int × Int × Int × (List Int) × Unit
abbrev slices_swapRangeCmpFunc_int_r1 : Type := (((List Int) × Unit) ⊕ ((List Int) × Unit))
def slices_swapRangeCmpFunc_int_b1  (x1 : slices_swapRangeCmpFunc_int_x1) (again : slices_swapRangeCmpFunc_int_x1 → Option slices_swapRangeCmpFunc_int_r1) : Option slices_swapRangeCmpFunc_int_r1 :=
  bif decide (x1.2.2.2.1 < x1.2.2.1) then
    chk (decide (0 ≤ (w64 (x1.2.1 + x1.2.2.2.1))) && decide ((w64 (x1.2.1 + x1.2.2.2.1)) < (List.length x1.2.2.2.2.1 : Int))) <|
    Option.bind (x1.2.2.2.2.1[(w64 (x1.2.1 + x1.2.2.2.1)).toNat]?) fun y2 =>
    chk (decide (0 ≤ (w64 (x1.1 + x1.2.2.2.1))) && decide ((w64 (x1.1 + x1.2.2.2.1)) < (List.length x1.2.2.2.2.1 : Int))) <|
    Option.bind (x1.2.2.2.2.1[(w64 (x1.1 + x1.2.2.2.1)).toNat]?) fun y3 =>
    chk (decide (0 ≤ (w64 (x1.1 + x1.2.2.2.1))) && decide ((w64 (x1.1 + x1.2.2.2.1)) < (List.length x1.2.2.2.2.1 : Int))) <|
    Option.bind (x1.2.2.2.2.1[(w64 (x1.1 + x1.2.2.2.1)).toNat]?) fun _ =>
    chk (decide (0 ≤ (w64 (x1.2.1 + x1.2.2.2.1))) && decide ((w64 (x1.2.1 + x1.2.2.2.1)) < (List.length (List.set x1.2.2.2.2.1 (w64 (x1.1 + x1.2.2.2.1)).toNat y2) : Int))) <|
    Option.bind ((List.set x1.2.2.2.2.1 (w64 (x1.1 + x1.2.2.2.1)).toNat y2)[(w64 (x1.2.1 + x1.2.2.2.1)).toNat]?) fun _ =>
    again (x1.1, x1.2.1, x1.2.2.1, w64 (x1.2.2.2.1 + 1), List.set (List.set x1.2.2.2.2.1 (w64 (x1.1 + x1.2.2.2.1)).toNat y2) (w64 (x1.2.1 + x1.2.2.2.1)).toNat y3, ())
  else
    some (Sum.inr (x1.2.2.2.2.1, ()))

def slices_swapRangeCmpFunc_int (a0 : List Int) (a1 : Int) (a2 : Int) (a3 : Int) (_a4 : List D_api_State) : Option ((List Int) × Unit) :=
  joinB (β := ((List Int) × Unit)) (γ := ((List Int) × Unit)) (
    iter (X := slices_swapRangeCmpFunc_int_x1) (β := slices_swapRangeCmpFunc_int_r1) (Int.natAbs a1 + (Int.natAbs a2 + (Int.natAbs a3 + (Int.natAbs (0 : Int) + (List.length a0 + 2))))) (a1, a2, a3, 0, a0, ()) (slices_swapRangeCmpFunc_int_b1)) fun v6 =>
  some (v6.1, ())

abbrev slices_rotateCmpFunc_int_x2 : Type := Int × (List D_api_State) × Int × Int × (List Int) × Unit
abbrev slices_rotateCmpFunc_int_r2 : Type := (((List Int) × Unit) ⊕ (Int × (List D_api_State) × Int × (List Int) × Unit))
def slices_rotateCmpFunc_int_b2  (x1 : slices_rotateCmpFunc_int_x2) (again : slices_rotateCmpFunc_int_x2 → Option slices_rotateCmpFunc_int_r2) : Option slices_rotateCmpFunc_int_r2 :=
  bif x1.2.2.1 != x1.2.2.2.1 then
    bif decide (x1.2.2.1 > x1.2.2.2.1) then
      Option.bind (slices_swapRangeCmpFunc_int x1.2.2.2.2.1 (w64 (x1.1 - x1.2.2.1)) x1.1 x1.2.2.2.1 x1.2.1) fun r2 =>
      again (x1.1, x1.2.1, w64 (x1.2.2.1 - x1.2.2.2.1), x1.2.2.2.1, r2.1, ())
    else
      Option.bind (slices_swapRangeCmpFunc_int x1.2.2.2.2.1 (w64 (x1.1 - x1.2.2.1)) (w64 ((w64 (x1.1 + x1.2.2.2.1)) - x1.2.2.1)) x1.2.2.1 x1.2.1) fun r3 =>
      again (x1.1, x1.2.1, x1.2.2.1, w64 (x1.2.2.2.1 - x1.2.2.1), r3.1, ())
  else
    some (Sum.inr (x1.1, x1.2.1, x1.2.2.1, x1.2.2.2.2.1, ()))

def slices_rotateCmpFunc_int (a0 : List Int) (a1 : Int) (a2 : Int) (a3 : Int) (a4 : List D_api_State) : Option ((List Int) × Unit) :=
  joinB (β := ((List Int) × Unit)) (γ := (Int × (List D_api_State) × Int × (List Int) × Unit)) (
    iter (X := slices_rotateCmpFunc_int_x2) (β := slices_rotateCmpFunc_int_r2) (Int.natAbs a2 + (Int.natAbs (w64 (a2 - a1)) + (Int.natAbs (w64 (a3 - a2)) + (List.length a0 + 2)))) (a2, a4, w64 (a2 - a1), w64 (a3 - a2), a0, ()) (slices_rotateCmpFunc_int_b2)) fun v4 =>
  Option.bind (slices_swapRangeCmpFunc_int v4.2.2.2.1 (w64 (v4.1 - v4.2.2.1)) v4.1 v4.2.2.1 v4.2.1) fun r5 =>
  some (r5.1, ())

abbrev slices_symMergeCmpFunc_int_x3 : Type := Int × (List D_api_State) × Int × Int × (List Int) × Unit
abbrev slices_symMergeCmpFunc_int_r3 : Type := (((List Int) × Unit) ⊕ (Int × Int × (List Int) × Unit))
def slices_symMergeCmpFunc_int_b3  (x1 : slices_symMergeCmpFunc_int_x3) (again : slices_symMergeCmpFunc_int_x3 → Option slices_symMergeCmpFunc_int_r3) : Option slices_symMergeCmpFunc_int_r3 :=
  bif decide (x1.2.2.1 < x1.2.2.2.1) then
    let n2 : Int := w64 (Int.fdiv (wu64 (w64 (x1.2.2.1 + x1.2.2.2.1))) (2 ^ 1))
    chk (decide (0 ≤ n2) && decide (n2 < (List.length x1.2.2.2.2.1 : Int))) <|
    Option.bind (x1.2.2.2.2.1[n2.toNat]?) fun y3 =>
    chk (decide (0 ≤ x1.1) && decide (x1.1 < (List.length x1.2.2.2.2.1 : Int))) <|
    Option.bind (x1.2.2.2.2.1[x1.1.toNat]?) fun y4 =>
    Option.bind (parcel_Laid_1 y3 y4 x1.2.1) fun r5 =>
    bif decide (r5.1 < 0) then
      again (x1.1, x1.2.1, w64 (n2 + 1), x1.2.2.2.1, x1.2.2.2.2.1, ())
    else
      again (x1.1, x1.2.1, x1.2.2.1, n2, x1.2.2.2.2.1, ())
  else
    some (Sum.inr (x1.1, x1.2.2.1, x1.2.2.2.2.1, ()))

abbrev slices_symMergeCmpFunc_int_x9 : Type := Int × Int × (List Int) × Unit
abbrev slices_symMergeCmpFunc_int_r9 : Type := (((List Int) × Unit) ⊕ ((List Int) × Unit))
def slices_symMergeCmpFunc_int_b9  (x1 : slices_symMergeCmpFunc_int_x9) (again : slices_symMergeCmpFunc_int_x9 → Option slices_symMergeCmpFunc_int_r9) : Option slices_symMergeCmpFunc_int_r9 :=
  bif decide (x1.2.1 < (w64 (x1.1 - 1))) then
    chk (decide (0 ≤ (w64 (x1.2.1 + 1))) && decide ((w64 (x1.2.1 + 1)) < (List.length x1.2.2.1 : Int))) <|
    Option.bind (x1.2.2.1[(w64 (x1.2.1 + 1)).toNat]?) fun y2 =>
    chk (decide (0 ≤ x1.2.1) && decide (x1.2.1 < (List.length x1.2.2.1 : Int))) <|
    Option.bind (x1.2.2.1[x1.2.1.toNat]?) fun y3 =>
    chk (decide (0 ≤ x1.2.1) && decide (x1.2.1 < (List.length x1.2.2.1 : Int))) <|
    Option.bind (x1.2.2.1[x1.2.1.toNat]?) fun _ =>
    chk (decide (0 ≤ (w64 (x1.2.1 + 1))) && decide ((w64 (x1.2.1 + 1)) < (List.length (List.set x1.2.2.1 x1.2.1.toNat y2) : Int))) <|
    Option.bind ((List.set x1.2.2.1 x1.2.1.toNat y2)[(w64 (x1.2.1 + 1)).toNat]?) fun _ =>
    again (x1.1, w64 (x1.2.1 + 1), List.set (List.set x1.2.2.1 x1.2.1.toNat y2) (w64 (x1.2.1 + 1)).toNat y3, ())
  else
    some (Sum.inr (x1.2.2.1, ()))

abbrev slices_symMergeCmpFunc_int_x15 : Type := Int × (List D_api_State) × Int × Int × (List Int) × Unit
abbrev slices_symMergeCmpFunc_int_r15 : Type := (((List Int) × Unit) ⊕ (Int × Int × (List Int) × Unit))
def slices_symMergeCmpFunc_int_b15  (x1 : slices_symMergeCmpFunc_int_x15) (again : slices_symMergeCmpFunc_int_x15 → Option slices_symMergeCmpFunc_int_r15) : Option slices_symMergeCmpFunc_int_r15 :=
  bif decide (x1.2.2.1 < x1.2.2.2.1) then
    let n2 : Int := w64 (Int.fdiv (wu64 (w64 (x1.2.2.1 + x1.2.2.2.1))) (2 ^ 1))
    chk (decide (0 ≤ x1.1) && decide (x1.1 < (List.length x1.2.2.2.2.1 : Int))) <|
    Option.bind (x1.2.2.2.2.1[x1.1.toNat]?) fun y3 =>
    chk (decide (0 ≤ n2) && decide (n2 < (List.length x1.2.2.2.2.1 : Int))) <|
    Option.bind (x1.2.2.2.2.1[n2.toNat]?) fun y4 =>
    Option.bind (parcel_Laid_1 y3 y4 x1.2.1) fun r5 =>
    bif !(decide (r5.1 < 0)) then
      again (x1.1, x1.2.1, w64 (n2 + 1), x1.2.2.2.1, x1.2.2.2.2.1, ())
    else
      again (x1.1, x1.2.1, x1.2.2.1, n2, x1.2.2.2.2.1, ())
  else
    some (Sum.inr (x1.1, x1.2.2.1, x1.2.2.2.2.1, ()))

abbrev slices_symMergeCmpFunc_int_x21 : Type := Int × Int × (List Int) × Unit
abbrev slices_symMergeCmpFunc_int_r21 : Type := (((List Int) × Unit) ⊕ ((List Int) × Unit))
def slices_symMergeCmpFunc_int_b21  (x1 : slices_symMergeCmpFunc_int_x21) (again : slices_symMergeCmpFunc_int_x21 → Option slices_symMergeCmpFunc_int_r21) : Option slices_symMergeCmpFunc_int_r21 :=
  bif decide (x1.2.1 > x1.1) then
    chk (decide (0 ≤ (w64 (x1.2.1 - 1))) && decide ((w64 (x1.2.1 - 1)) < (List.length x1.2.2.1 : Int))) <|
    Option.bind (x1.2.2.1[(w64 (x1.2.1 - 1)).toNat]?) fun y2 =>
    chk (decide (0 ≤ x1.2.1) && decide (x1.2.1 < (List.length x1.2.2.1 : Int))) <|
    Option.bind (x1.2.2.1[x1.2.1.toNat]?) fun y3 =>
    chk (decide (0 ≤ x1.2.1) && decide (x1.2.1 < (List.length x1.2.2.1 : Int))) <|
    Option.bind (x1.2.2.1[x1.2.1.toNat]?) fun _ =>
    chk (decide (0 ≤ (w64 (x1.2.1 - 1))) && decide ((w64 (x1.2.1 - 1)) < (List.length (List.set x1.2.2.1 x1.2.1.toNat y2) : Int))) <|
    Option.bind ((List.set x1.2.2.1 x1.2.1.toNat y2)[(w64 (x1.2.1 - 1)).toNat]?) fun _ =>
    again (x1.1, w64 (x1.2.1 - 1), List.set (List.set x1.2.2.1 x1.2.1.toNat y2) (w64 (x1.2.1 - 1)).toNat y3, ())
  else
    some (Sum.inr (x1.2.2.1, ()))

abbrev slices_symMergeCmpFunc_int_x33 : Type := Int × Int × Int × (List D_api_State) × Int × Int × Int × Int × Int × (List Int) × Unit
abbrev slices_symMergeCmpFunc_int_r33 : Type := (((List Int) × Unit) ⊕ (Int × Int × Int × (List D_api_State) × Int × Int × Int × (List Int) × Unit))
def slices_symMergeCmpFunc_int_b33  (x1 : slices_symMergeCmpFunc_int_x33) (again : slices_symMergeCmpFunc_int_x33 → Option slices_symMergeCmpFunc_int_r33) : Option slices_symMergeCmpFunc_int_r33 :=
  bif decide (x1.2.2.2.2.2.2.1 < x1.2.2.2.2.2.2.2.1) then
    let n2 : Int := w64 (Int.fdiv (wu64 (w64 (x1.2.2.2.2.2.2.1 + x1.2.2.2.2.2.2.2.1))) (2 ^ 1))
    chk (decide (0 ≤ (w64 (x1.2.2.2.2.2.2.2.2.1 - n2))) && decide ((w64 (x1.2.2.2.2.2.2.2.2.1 - n2)) < (List.length x1.2.2.2.2.2.2.2.2.2.1 : Int))) <|
    Option.bind (x1.2.2.2.2.2.2.2.2.2.1[(w64 (x1.2.2.2.2.2.2.2.2.1 - n2)).toNat]?) fun y3 =>
    chk (decide (0 ≤ n2) && decide (n2 < (List.length x1.2.2.2.2.2.2.2.2.2.1 : Int))) <|
    Option.bind (x1.2.2.2.2.2.2.2.2.2.1[n2.toNat]?) fun y4 =>
    Option.bind (parcel_Laid_1 y3 y4 x1.2.2.2.1) fun r5 =>
    bif !(decide (r5.1 < 0)) then
      again (x1.1, x1.2.1, x1.2.2.1, x1.2.2.2.1, x1.2.2.2.2.1, x1.2.2.2.2.2.1, w64 (n2 + 1), x1.2.2.2.2.2.2.2.1, x1.2.2.2.2.2.2.2.2.1, x1.2.2.2.2.2.2.2.2.2.1, ())
    else
      again (x1.1, x1.2.1, x1.2.2.1, x1.2.2.2.1, x1.2.2.2.2.1, x1.2.2.2.2.2.1, x1.2.2.2.2.2.2.1, n2, x1.2.2.2.2.2.2.2.2.1, x1.2.2.2.2.2.2.2.2.2.1, ())
  else
    some (Sum.inr (x1.1, x1.2.1, x1.2.2.1, x1.2.2.2.1, x1.2.2.2.2.1, x1.2.2.2.2.2.1, x1.2.2.2.2.2.2.1, x1.2.2.2.2.2.2.2.2.2.1, ()))

def slices_symMergeCmpFunc_int_F (self : ((List Int) × Int × Int × Int × (List D_api_State) × Unit) → Option ((List Int) × Unit)) (a0 : List Int) (a1 : Int) (a2 : Int) (a3 : Int) (a4 : List D_api_State) : Option ((List Int) × Unit) :=
  bif (w64 (a2 - a1)) == 1 then
    joinB (β := ((List Int) × Unit)) (γ := (Int × Int × (List Int) × Unit)) (
      iter (X := slices_symMergeCmpFunc_int_x3) (β := slices_symMergeCmpFunc_int_r3) (Int.natAbs a1 + (Int.natAbs a2 + (Int.natAbs a3 + (List.length a0 + 2)))) (a1, a4, a2, a3, a0, ()) (slices_symMergeCmpFunc_int_b3)) fun v6 =>
    joinB (β := ((List Int) × Unit)) (γ := ((List Int) × Unit)) (
      iter (X := slices_symMergeCmpFunc_int_x9) (β := slices_symMergeCmpFunc_int_r9) (Int.natAbs v6.2.1 + (Int.natAbs v6.1 + (List.length v6.2.2.1 + 2))) (v6.2.1, v6.1, v6.2.2.1, ()) (slices_symMergeCmpFunc_int_b9)) fun v12 =>
    some (v12.1, ())
  else
    bif (w64 (a3 - a2)) == 1 then
      joinB (β := ((List Int) × Unit)) (γ := (Int × Int × (List Int) × Unit)) (
        iter (X := slices_symMergeCmpFunc_int_x15) (β := slices_symMergeCmpFunc_int_r15) (Int.natAbs a2 + (Int.natAbs a1 + (Int.natAbs a2 + (List.length a0 + 2)))) (a2, a4, a1, a2, a0, ()) (slices_symMergeCmpFunc_int_b15)) fun v18 =>
      joinB (β := ((List Int) × Unit)) (γ := ((List Int) × Unit)) (
        iter (X := slices_symMergeCmpFunc_int_x21) (β := slices_symMergeCmpFunc_int_r21) (Int.natAbs v18.2.1 + (Int.natAbs v18.1 + (List.length v18.2.2.1 + 2))) (v18.2.1, v18.1, v18.2.2.1, ()) (slices_symMergeCmpFunc_int_b21)) fun v24 =>
      some (v24.1, ())
    else
      let n25 : Int := w64 (Int.fdiv (wu64 (w64 (a1 + a3))) (2 ^ 1))
      joinB (β := ((List Int) × Unit)) (γ := (Int × Int × Int × (List D_api_State) × Int × Int × Int × Int × (List Int) × Unit)) (
        bif decide (a2 > n25) then
          some (Sum.inr (a1, a2, a3, a4, n25, w64 (n25 + a2), w64 ((w64 (n25 + a2)) - a3), n25, a0, ()))
        else
          some (Sum.inr (a1, a2, a3, a4, n25, w64 (n25 + a2), a1, a2, a0, ()))) fun v26 =>
      joinB (β := ((List Int) × Unit)) (γ := (Int × Int × Int × (List D_api_State) × Int × Int × Int × (List Int) × Unit)) (
        iter (X := slices_symMergeCmpFunc_int_x33) (β := slices_symMergeCmpFunc_int_r33) (Int.natAbs v26.1 + (Int.natAbs v26.2.1 + (Int.natAbs v26.2.2.1 + (Int.natAbs v26.2.2.2.2.1 + (Int.natAbs v26.2.2.2.2.2.1 + (Int.natAbs v26.2.2.2.2.2.2.1 + (Int.natAbs v26.2.2.2.2.2.2.2.1 + (Int.natAbs (w64 (v26.2.2.2.2.2.1 - 1)) + (List.length v26.2.2.2.2.2.2.2.2.1 + 2))))))))) (v26.1, v26.2.1, v26.2.2.1, v26.2.2.2.1, v26.2.2.2.2.1, v26.2.2.2.2.2.1, v26.2.2.2.2.2.2.1, v26.2.2.2.2.2.2.2.1, w64 (v26.2.2.2.2.2.1 - 1), v26.2.2.2.2.2.2.2.2.1, ()) (slices_symMergeCmpFunc_int_b33)) fun v32 =>
      bif decide (v32.2.2.2.2.2.2.1 < v32.2.1) then
        joinB (β := ((List Int) × Unit)) (γ := (Int × Int × (List D_api_State) × Int × Int × Int × (List Int) × Unit)) (
          bif decide (v32.2.1 < (w64 (v32.2.2.2.2.2.1 - v32.2.2.2.2.2.2.1))) then
            Option.bind (slices_rotateCmpFunc_int v32.2.2.2.2.2.2.2.1 v32.2.2.2.2.2.2.1 v32.2.1 (w64 (v32.2.2.2.2.2.1 - v32.2.2.2.2.2.2.1)) v32.2.2.2.1) fun r33 =>
            some (Sum.inr (v32.1, v32.2.2.1, v32.2.2.2.1, v32.2.2.2.2.1, v32.2.2.2.2.2.2.1, w64 (v32.2.2.2.2.2.1 - v32.2.2.2.2.2.2.1), r33.1, ()))
          else
            some (Sum.inr (v32.1, v32.2.2.1, v32.2.2.2.1, v32.2.2.2.2.1, v32.2.2.2.2.2.2.1, w64 (v32.2.2.2.2.2.1 - v32.2.2.2.2.2.2.1), v32.2.2.2.2.2.2.2.1, ()))) fun v34 =>
        bif decide (v34.1 < v34.2.2.2.2.1) then
          joinB (β := ((List Int) × Unit)) (γ := (Int × (List D_api_State) × Int × Int × (List Int) × Unit)) (
            bif decide (v34.2.2.2.2.1 < v34.2.2.2.1) then
              Option.bind (self (v34.2.2.2.2.2.2.1, v34.1, v34.2.2.2.2.1, v34.2.2.2.1, v34.2.2.1, ())) fun r35 =>
              some (Sum.inr (v34.2.1, v34.2.2.1, v34.2.2.2.1, v34.2.2.2.2.2.1, r35.1, ()))
            else
              some (Sum.inr (v34.2.1, v34.2.2.1, v34.2.2.2.1, v34.2.2.2.2.2.1, v34.2.2.2.2.2.2.1, ()))) fun v36 =>
          bif decide (v36.2.2.1 < v36.2.2.2.1) then
            bif decide (v36.2.2.2.1 < v36.1) then
              Option.bind (self (v36.2.2.2.2.1, v36.2.2.1, v36.2.2.2.1, v36.1, v36.2.1, ())) fun r37 =>
              some (r37.1, ())
            else
              some (v36.2.2.2.2.1, ())
          else
            some (v36.2.2.2.2.1, ())
        else
          joinB (β := ((List Int) × Unit)) (γ := (Int × (List D_api_State) × Int × Int × (List Int) × Unit)) (
            some (Sum.inr (v34.2.1, v34.2.2.1, v34.2.2.2.1, v34.2.2.2.2.2.1, v34.2.2.2.2.2.2.1, ()))) fun v38 =>
          bif decide (v38.2.2.1 < v38.2.2.2.1) then
            bif decide (v38.2.2.2.1 < v38.1) then
              Option.bind (self (v38.2.2.2.2.1, v38.2.2.1, v38.2.2.2.1, v38.1, v38.2.1, ())) fun r39 =>
              some (r39.1, ())
            else
              some (v38.2.2.2.2.1, ())
          else
            some (v38.2.2.2.2.1, ())
      else
        joinB (β := ((List Int) × Unit)) (γ := (Int × Int × (List D_api_State) × Int × Int × Int × (List Int) × Unit)) (
          some (Sum.inr (v32.1, v32.2.2.1, v32.2.2.2.1, v32.2.2.2.2.1, v32.2.2.2.2.2.2.1, w64 (v32.2.2.2.2.2.1 - v32.2.2.2.2.2.2.1), v32.2.2.2.2.2.2.2.1, ()))) fun v40 =>
        bif decide (v40.1 < v40.2.2.2.2.1) then
          joinB (β := ((List Int) × Unit)) (γ := (Int × (List D_api_State) × Int × Int × (List Int) × Unit)) (
            bif decide (v40.2.2.2.2.1 < v40.2.2.2.1) then
              Option.bind (self (v40.2.2.2.2.2.2.1, v40.1, v40.2.2.2.2.1, v40.2.2.2.1, v40.2.2.1, ())) fun r41 =>
              some (Sum.inr (v40.2.1, v40.2.2.1, v40.2.2.2.1, v40.2.2.2.2.2.1, r41.1, ()))
            else
              some (Sum.inr (v40.2.1, v40.2.2.1, v40.2.2.2.1, v40.2.2.2.2.2.1, v40.2.2.2.2.2.2.1, ()))) fun v42 =>
          bif decide (v42.2.2.1 < v42.2.2.2.1) then
            bif decide (v42.2.2.2.1 < v42.1) then
              Option.bind (self (v42.2.2.2.2.1, v42.2.2.1, v42.2.2.2.1, v42.1, v42.2.1, ())) fun r43 =>
              some (r43.1, ())
            else
              some (v42.2.2.2.2.1, ())
          else
            some (v42.2.2.2.2.1, ())
        else
          joinB (β := ((List Int) × Unit)) (γ := (Int × (List D_api_State) × Int × Int × (List Int) × Unit)) (
            some (Sum.inr (v40.2.1, v40.2.2.1, v40.2.2.2.1, v40.2.2.2.2.2.1, v40.2.2.2.2.2.2.1, ()))) fun v44 =>
          bif decide (v44.2.2.1 < v44.2.2.2.1) then
            bif decide (v44.2.2.2.1 < v44.1) then
              Option.bind (self (v44.2.2.2.2.1, v44.2.2.1, v44.2.2.2.1, v44.1, v44.2.1, ())) fun r45 =>
              some (r45.1, ())
            else
              some (v44.2.2.2.2.1, ())
          else
            some (v44.2.2.2.2.1, ())

def slices_symMergeCmpFunc_int_fuel (a0 : List Int) (a1 : Int) (a2 : Int) (a3 : Int) (_a4 : List D_api_State) : Nat := List.length a0 + (Int.natAbs a1 + (Int.natAbs a2 + (Int.natAbs a3 + 2)))

def slices_symMergeCmpFunc_int (a0 : List Int) (a1 : Int) (a2 : Int) (a3 : Int) (a4 : List D_api_State) : Option ((List Int) × Unit) :=
  recM (fun self x => slices_symMergeCmpFunc_int_F self x.1 x.2.1 x.2.2.1 x.2.2.2.1 x.2.2.2.2.1) (slices_symMergeCmpFunc_int_fuel a0 a1 a2 a3 a4) (a0, a1, a2, a3, a4, ())

abbrev slices_stableCmpFunc_int_x2 : Type := Int × (List D_api_State) × Int × Int × Int × (List Int) × Unit
abbrev slices_stableCmpFunc_int_r2 : Type := (((List Int) × Unit) ⊕ (Int × (List D_api_State) × Int × Int × (List Int) × Unit))
def slices_stableCmpFunc_int_b2  (x1 : slices_stableCmpFunc_int_x2) (again : slices_stableCmpFunc_int_x2 → Option slices_stableCmpFunc_int_r2) : Option slices_stableCmpFunc_int_r2 :=
  bif decide (x1.2.2.2.2.1 ≤ x1.1) then
    Option.bind (slices_insertionSortCmpFunc_int x1.2.2.2.2.2.1 x1.2.2.2.1 x1.2.2.2.2.1 x1.2.1) fun r2 =>
    again (x1.1, x1.2.1, x1.2.2.1, x1.2.2.2.2.1, w64 (x1.2.2.2.2.1 + x1.2.2.1), r2.1, ())
  else
    some (Sum.inr (x1.1, x1.2.1, x1.2.2.1, x1.2.2.2.1, x1.2.2.2.2.2.1, ()))

abbrev slices_stableCmpFunc_int_x9 : Type := Int × (List D_api_State) × Int × Int × Int × (List Int) × Unit
abbrev slices_stableCmpFunc_int_r9 : Type := ((((List Int) × Unit) ⊕ ((List Int) × Unit)) ⊕ (Int × (List D_api_State) × Int × Int × (List Int) × Unit))
def slices_stableCmpFunc_int_b9  (x1 : slices_stableCmpFunc_int_x9) (again : slices_stableCmpFunc_int_x9 → Option slices_stableCmpFunc_int_r9) : Option slices_stableCmpFunc_int_r9 :=
  bif decide (x1.2.2.2.2.1 ≤ x1.1) then
    Option.bind (slices_symMergeCmpFunc_int x1.2.2.2.2.2.1 x1.2.2.2.1 (w64 (x1.2.2.2.1 + x1.2.2.1)) x1.2.2.2.2.1 x1.2.1) fun r2 =>
    again (x1.1, x1.2.1, x1.2.2.1, x1.2.2.2.2.1, w64 (x1.2.2.2.2.1 + (w64 (2 * x1.2.2.1))), r2.1, ())
  else
    some (Sum.inr (x1.1, x1.2.1, x1.2.2.1, x1.2.2.2.1, x1.2.2.2.2.2.1, ()))

abbrev slices_stableCmpFunc_int_x7 : Type := Int × (List D_api_State) × Int × (List Int) × Unit
abbrev slices_stableCmpFunc_int_r7 : Type := (((List Int) × Unit) ⊕ ((List Int) × Unit))
def slices_stableCmpFunc_int_b7  (x1 : slices_stableCmpFunc_int_x7) (again : slices_stableCmpFunc_int_x7 → Option slices_stableCmpFunc_int_r7) : Option slices_stableCmpFunc_int_r7 :=
  bif decide (x1.2.2.1 < x1.1) then
    joinB (β := (((List Int) × Unit) ⊕ ((List Int) × Unit))) (γ := (Int × (List D_api_State) × Int × Int × (List Int) × Unit)) (
      iter (X := slices_stableCmpFunc_int_x9) (β := slices_stableCmpFunc_int_r9) (Int.natAbs x1.1 + (Int.natAbs x1.2.2.1 + (Int.natAbs (0 : Int) + (Int.natAbs (w64 (2 * x1.2.2.1)) + (List.length x1.2.2.2.1 + 2))))) (x1.1, x1.2.1, x1.2.2.1, 0, w64 (2 * x1.2.2.1), x1.2.2.2.1, ()) (slices_stableCmpFunc_int_b9)) fun v2 =>
    bif decide ((w64 (v2.2.2.2.1 + v2.2.2.1)) < v2.1) then
      Option.bind (slices_symMergeCmpFunc_int v2.2.2.2.2.1 v2.2.2.2.1 (w64 (v2.2.2.2.1 + v2.2.2.1)) v2.1 v2.2.1) fun r3 =>
      again (v2.1, v2.2.1, w64 (v2.2.2.1 * 2), r3.1, ())
    else
      again (v2.1, v2.2.1, w64 (v2.2.2.1 * 2), v2.2.2.2.2.1, ())
  else
    some (Sum.inr (x1.2.2.2.1, ()))

def slices_stableCmpFunc_int (a0 : List Int) (a1 : Int) (a2 : List D_api_State) : Option ((List Int) × Unit) :=
  joinB (β := ((List Int) × Unit)) (γ := (Int × (List D_api_State) × Int × Int × (List Int) × Unit)) (
    iter (X := slices_stableCmpFunc_int_x2) (β := slices_stableCmpFunc_int_r2) (Int.natAbs a1 + (Int.natAbs (20 : Int) + (Int.natAbs (0 : Int) + (Int.natAbs (20 : Int) + (List.length a0 + 2))))) (a1, a2, 20, 0, 20, a0, ()) (slices_stableCmpFunc_int_b2)) fun v3 =>
  Option.bind (slices_insertionSortCmpFunc_int v3.2.2.2.2.1 v3.2.2.2.1 v3.1 v3.2.1) fun r4 =>
  joinB (β := ((List Int) × Unit)) (γ := ((List Int) × Unit)) (
    iter (X := slices_stableCmpFunc_int_x7) (β := slices_stableCmpFunc_int_r7) (Int.natAbs v3.1 + (Int.natAbs v3.2.2.1 + (List.length r4.1 + 2))) (v3.1, v3.2.1, v3.2.2.1, r4.1, ()) (slices_stableCmpFunc_int_b7)) fun v10 =>
  some (v10.1, ())

def slices_SortStableFunc_int (a0 : List Int) (a1 : List D_api_State) : Option ((List Int) × Unit) :=
  Option.bind (slices_stableCmpFunc_int a0 ((List.length a0 : Int)) a1) fun r1 =>
  some (r1.1, ())

def parcel_told (a0 : D_whole_Int) : Option (D_api_Decimal × Int × Unit) :=
  Option.bind (amount_Fewest a0 9) fun r1 =>
  some (r1.1, r1.2.1, ())

abbrev parcel_Laid_x10 : Type := (List D_api_Mass) × (List Int) × (List D_api_State) × Int × Int × (List D_api_State) × (List D_whole_Int) × Unit
abbrev parcel_Laid_r10 : Type := (((List D_api_Rest) × (List D_api_Mass) × Int × Unit) ⊕ ((List D_api_Mass) × (List Int) × (List D_api_State) × (List D_whole_Int) × Unit))
def parcel_Laid_b10  (x1 : parcel_Laid_x10) (again : parcel_Laid_x10 → Option parcel_Laid_r10) : Option parcel_Laid_r10 :=
  bif decide (x1.2.2.2.2.1 < x1.2.2.2.1) then
    Option.bind (idx x1.2.2.1 x1.2.2.2.2.1) fun y2 =>
    chk (decide (((List.length x1.2.1) + 1) * 8 ≤ 140737488355328) && decide ((List.length x1.2.1) + 1 ≤ maxLen)) <|
    Option.bind (amount_Value y2.2.2.2.2.2.2.2.2.2) fun r3 =>
    chk (decide (0 ≤ x1.2.2.2.2.1) && decide (x1.2.2.2.2.1 < (List.length x1.2.2.2.2.2.2.1 : Int))) <|
    Option.bind (x1.2.2.2.2.2.2.1[x1.2.2.2.2.1.toNat]?) fun _ =>
    again (x1.1, x1.2.1 ++ [x1.2.2.2.2.1], x1.2.2.1, x1.2.2.2.1, w64 (x1.2.2.2.2.1 + 1), x1.2.2.2.2.2.1, List.set x1.2.2.2.2.2.2.1 x1.2.2.2.2.1.toNat r3.1, ())
  else
    some (Sum.inr (x1.1, x1.2.1, x1.2.2.2.2.2.1, x1.2.2.2.2.2.2.1, ()))

abbrev parcel_Laid_x22 : Type := (List Int) × (List D_api_Mass) × (List D_api_Mass) × Int × Int × (List Int) × Int × Int × (List D_api_State) × (List UInt8) × (List UInt8) × Int × Int × Bool × (List Int) × (List D_whole_Int) × Unit
abbrev parcel_Laid_r22 : Type := ((((List D_api_Rest) × (List D_api_Mass) × Int × Unit) ⊕ ((List D_api_Mass) × (List D_api_State) × (List D_whole_Int) × Unit)) ⊕ ((List Int) × (List D_api_Mass) × (List D_api_Mass) × Int × Int × (List D_api_State) × (List UInt8) × (List UInt8) × Int × Int × Bool × (List Int) × (List D_whole_Int) × Unit))
def parcel_Laid_b22  (x1 : parcel_Laid_x22) (again : parcel_Laid_x22 → Option parcel_Laid_r22) : Option parcel_Laid_r22 :=
  bif decide (x1.2.2.2.2.2.2.2.1 < x1.2.2.2.2.2.2.1) then
    Option.bind (idx x1.2.2.2.2.2.1 x1.2.2.2.2.2.2.2.1) fun y2 =>
    Option.bind (idx x1.2.2.2.2.2.2.2.2.1 y2) fun y3 =>
    bif !(y3.2.1 == x1.2.2.2.2.2.2.2.2.2.1) then
      again (x1.1, x1.2.1, x1.2.2.1, x1.2.2.2.1, x1.2.2.2.2.1, x1.2.2.2.2.2.1, x1.2.2.2.2.2.2.1, w64 (x1.2.2.2.2.2.2.2.1 + 1), x1.2.2.2.2.2.2.2.2.1, x1.2.2.2.2.2.2.2.2.2.1, x1.2.2.2.2.2.2.2.2.2.2.1, x1.2.2.2.2.2.2.2.2.2.2.2.1, x1.2.2.2.2.2.2.2.2.2.2.2.2.1, x1.2.2.2.2.2.2.2.2.2.2.2.2.2.1, x1.2.2.2.2.2.2.2.2.2.2.2.2.2.2.1, x1.2.2.2.2.2.2.2.2.2.2.2.2.2.2.2.1, ())
    else
      Option.bind (idx x1.2.2.2.2.2.2.2.2.1 y2) fun y4 =>
      bif !(y4.2.2.1 == x1.2.2.2.2.2.2.2.2.2.2.1) then
        again (x1.1, x1.2.1, x1.2.2.1, x1.2.2.2.1, x1.2.2.2.2.1, x1.2.2.2.2.2.1, x1.2.2.2.2.2.2.1, w64 (x1.2.2.2.2.2.2.2.1 + 1), x1.2.2.2.2.2.2.2.2.1, x1.2.2.2.2.2.2.2.2.2.1, x1.2.2.2.2.2.2.2.2.2.2.1, x1.2.2.2.2.2.2.2.2.2.2.2.1, x1.2.2.2.2.2.2.2.2.2.2.2.2.1, x1.2.2.2.2.2.2.2.2.2.2.2.2.2.1, x1.2.2.2.2.2.2.2.2.2.2.2.2.2.2.1, x1.2.2.2.2.2.2.2.2.2.2.2.2.2.2.2.1, ())
      else
        chk (decide (0 ≤ y2) && decide (y2 < (List.length x1.2.2.2.2.2.2.2.2.2.2.2.2.2.2.2.1 : Int))) <|
        Option.bind (x1.2.2.2.2.2.2.2.2.2.2.2.2.2.2.2.1[y2.toNat]?) fun y5 =>
        Option.bind (whole_Int_Compare y5 (x1.2.2.2.2.2.2.2.2.2.2.2.2.2.1, x1.2.2.2.2.2.2.2.2.2.2.2.2.2.2.1)) fun r6 =>
        joinB (β := ((((List D_api_Rest) × (List D_api_Mass) × Int × Unit) ⊕ ((List D_api_Mass) × (List D_api_State) × (List D_whole_Int) × Unit)) ⊕ ((List Int) × (List D_api_Mass) × (List D_api_Mass) × Int × Int × (List D_api_State) × (List UInt8) × (List UInt8) × Int × Int × Bool × (List Int) × (List D_whole_Int) × Unit))) (γ := ((List Int) × (List D_api_Mass) × Int × (List D_api_Mass) × Int × Int × (List Int) × Int × Int × (List D_api_State) × (List UInt8) × (List UInt8) × Int × Int × Bool × (List Int) × Bool × (List Int) × (List D_whole_Int) × Unit)) (
          bif decide (r6.1 < 0) then
            chk (decide (0 ≤ y2) && decide (y2 < (List.length x1.2.2.2.2.2.2.2.2.2.2.2.2.2.2.2.1 : Int))) <|
            Option.bind (x1.2.2.2.2.2.2.2.2.2.2.2.2.2.2.2.1[y2.toNat]?) fun y7 =>
            some (Sum.inr (x1.1, x1.2.1, y2, x1.2.2.1, x1.2.2.2.1, x1.2.2.2.2.1, x1.2.2.2.2.2.1, x1.2.2.2.2.2.2.1, x1.2.2.2.2.2.2.2.1, x1.2.2.2.2.2.2.2.2.1, x1.2.2.2.2.2.2.2.2.2.1, x1.2.2.2.2.2.2.2.2.2.2.1, x1.2.2.2.2.2.2.2.2.2.2.2.1, x1.2.2.2.2.2.2.2.2.2.2.2.2.1, x1.2.2.2.2.2.2.2.2.2.2.2.2.2.1, x1.2.2.2.2.2.2.2.2.2.2.2.2.2.2.1, y7.1, y7.2, x1.2.2.2.2.2.2.2.2.2.2.2.2.2.2.2.1, ()))
          else
            some (Sum.inr (x1.1, x1.2.1, y2, x1.2.2.1, x1.2.2.2.1, x1.2.2.2.2.1, x1.2.2.2.2.2.1, x1.2.2.2.2.2.2.1, x1.2.2.2.2.2.2.2.1, x1.2.2.2.2.2.2.2.2.1, x1.2.2.2.2.2.2.2.2.2.1, x1.2.2.2.2.2.2.2.2.2.2.1, x1.2.2.2.2.2.2.2.2.2.2.2.1, x1.2.2.2.2.2.2.2.2.2.2.2.2.1, x1.2.2.2.2.2.2.2.2.2.2.2.2.2.1, x1.2.2.2.2.2.2.2.2.2.2.2.2.2.2.1, x1.2.2.2.2.2.2.2.2.2.2.2.2.2.1, x1.2.2.2.2.2.2.2.2.2.2.2.2.2.2.1, x1.2.2.2.2.2.2.2.2.2.2.2.2.2.2.2.1, ()))) fun v8 =>
        Option.bind (whole_Int_Less (v8.2.2.2.2.2.2.2.2.2.2.2.2.2.2.1, v8.2.2.2.2.2.2.2.2.2.2.2.2.2.2.2.1) (v8.2.2.2.2.2.2.2.2.2.2.2.2.2.2.2.2.1, v8.2.2.2.2.2.2.2.2.2.2.2.2.2.2.2.2.2.1)) fun r9 =>
        chk (decide (0 ≤ v8.2.2.1) && decide (v8.2.2.1 < (List.length v8.2.2.2.2.2.2.2.2.2.2.2.2.2.2.2.2.2.2.1 : Int))) <|
        Option.bind (v8.2.2.2.2.2.2.2.2.2.2.2.2.2.2.2.2.2.2.1[v8.2.2.1.toNat]?) fun y10 =>
        Option.bind (whole_Int_Less y10 (v8.2.2.2.2.2.2.2.2.2.2.2.2.2.2.2.2.1, v8.2.2.2.2.2.2.2.2.2.2.2.2.2.2.2.2.2.1)) fun r11 =>
        chk (decide (0 ≤ v8.2.2.1) && decide (v8.2.2.1 < (List.length v8.2.2.2.2.2.2.2.2.2.2.2.2.2.2.2.2.2.2.1 : Int))) <|
        Option.bind (v8.2.2.2.2.2.2.2.2.2.2.2.2.2.2.2.2.2.2.1[v8.2.2.1.toNat]?) fun _ =>
        again (v8.1, v8.2.1, v8.2.2.2.1, v8.2.2.2.2.1, v8.2.2.2.2.2.1, v8.2.2.2.2.2.2.1, v8.2.2.2.2.2.2.2.1, w64 (v8.2.2.2.2.2.2.2.2.1 + 1), v8.2.2.2.2.2.2.2.2.2.1, v8.2.2.2.2.2.2.2.2.2.2.1, v8.2.2.2.2.2.2.2.2.2.2.2.1, v8.2.2.2.2.2.2.2.2.2.2.2.2.1, v8.2.2.2.2.2.2.2.2.2.2.2.2.2.1, r9.1.1, r9.1.2, List.set v8.2.2.2.2.2.2.2.2.2.2.2.2.2.2.2.2.2.2.1 v8.2.2.1.toNat r11.1, ())
  else
    some (Sum.inr (x1.1, x1.2.1, x1.2.2.1, x1.2.2.2.1, x1.2.2.2.2.1, x1.2.2.2.2.2.2.2.2.1, x1.2.2.2.2.2.2.2.2.2.1, x1.2.2.2.2.2.2.2.2.2.2.1, x1.2.2.2.2.2.2.2.2.2.2.2.1, x1.2.2.2.2.2.2.2.2.2.2.2.2.1, x1.2.2.2.2.2.2.2.2.2.2.2.2.2.1, x1.2.2.2.2.2.2.2.2.2.2.2.2.2.2.1, x1.2.2.2.2.2.2.2.2.2.2.2.2.2.2.2.1, ()))

abbrev parcel_Laid_x18 : Type := (List Int) × (List D_api_Mass) × (List D_api_Mass) × Int × Int × (List D_api_State) × (List D_whole_Int) × Unit
abbrev parcel_Laid_r18 : Type := (((List D_api_Rest) × (List D_api_Mass) × Int × Unit) ⊕ ((List D_api_Mass) × (List D_api_State) × (List D_whole_Int) × Unit))
def parcel_Laid_b18  (x1 : parcel_Laid_x18) (again : parcel_Laid_x18 → Option parcel_Laid_r18) : Option parcel_Laid_r18 :=
  bif decide (x1.2.2.2.2.1 < x1.2.2.2.1) then
    Option.bind (idx x1.2.2.1 x1.2.2.2.2.1) fun y2 =>
    Option.bind (amount_Value y2.2.2) fun r3 =>
    joinB (β := (((List D_api_Rest) × (List D_api_Mass) × Int × Unit) ⊕ ((List D_api_Mass) × (List D_api_State) × (List D_whole_Int) × Unit))) (γ := ((List Int) × (List D_api_Mass) × (List D_api_Mass) × Int × Int × (List D_api_State) × (List UInt8) × (List UInt8) × Int × Int × Bool × (List Int) × (List D_whole_Int) × Unit)) (
      iter (X := parcel_Laid_x22) (β := parcel_Laid_r22) (List.length x1.1 + (List.length x1.2.1 + (List.length x1.2.2.1 + (Int.natAbs x1.2.2.2.1 + (Int.natAbs x1.2.2.2.2.1 + (List.length x1.1 + (Int.natAbs ((List.length x1.1 : Int)) + (Int.natAbs (0 : Int) + (List.length x1.2.2.2.2.2.1 + (List.length y2.1 + (List.length y2.2.1 + (Int.natAbs y2.2.2.1 + (Int.natAbs y2.2.2.2 + (List.length r3.1.2 + (List.length x1.2.2.2.2.2.2.1 + 2))))))))))))))) (x1.1, x1.2.1, x1.2.2.1, x1.2.2.2.1, x1.2.2.2.2.1, x1.1, (List.length x1.1 : Int), 0, x1.2.2.2.2.2.1, y2.1, y2.2.1, y2.2.2.1, y2.2.2.2, r3.1.1, r3.1.2, x1.2.2.2.2.2.2.1, ()) (parcel_Laid_b22)) fun v4 =>
    Option.bind (whole_Int_Sign (v4.2.2.2.2.2.2.2.2.2.2.1, v4.2.2.2.2.2.2.2.2.2.2.2.1)) fun r5 =>
    bif decide (r5.1 > 0) then
      Option.bind (parcel_told (v4.2.2.2.2.2.2.2.2.2.2.1, v4.2.2.2.2.2.2.2.2.2.2.2.1)) fun r6 =>
      bif r6.2.1 != 0 then
        some (Sum.inl ([], [], r6.2.1, ()))
      else
        chk (decide (((List.length v4.2.1) + 1) * 48 ≤ 140737488355328) && decide ((List.length v4.2.1) + 1 ≤ maxLen)) <|
        again (v4.1, v4.2.1 ++ [(v4.2.2.2.2.2.2.1, v4.2.2.2.2.2.2.2.1, r6.1)], v4.2.2.1, v4.2.2.2.1, w64 (v4.2.2.2.2.1 + 1), v4.2.2.2.2.2.1, v4.2.2.2.2.2.2.2.2.2.2.2.2.1, ())
    else
      again (v4.1, v4.2.1, v4.2.2.1, v4.2.2.2.1, w64 (v4.2.2.2.2.1 + 1), v4.2.2.2.2.2.1, v4.2.2.2.2.2.2.2.2.2.2.2.2.1, ())
  else
    some (Sum.inr (x1.2.1, x1.2.2.2.2.2.1, x1.2.2.2.2.2.2.1, ()))

abbrev parcel_Laid_x38 : Type := (List D_api_Mass) × (List D_api_Rest) × (List D_api_State) × Int × Int × (List D_whole_Int) × Unit
abbrev parcel_Laid_r38 : Type := (((List D_api_Rest) × (List D_api_Mass) × Int × Unit) ⊕ ((List D_api_Mass) × (List D_api_Rest) × Unit))
def parcel_Laid_b38  (x1 : parcel_Laid_x38) (again : parcel_Laid_x38 → Option parcel_Laid_r38) : Option parcel_Laid_r38 :=
  bif decide (x1.2.2.2.2.1 < x1.2.2.2.1) then
    Option.bind (idx x1.2.2.1 x1.2.2.2.2.1) fun y2 =>
    Option.bind (amount_Value y2.2.2.2.2.2.2.2.2.2) fun r3 =>
    chk (decide (0 ≤ x1.2.2.2.2.1) && decide (x1.2.2.2.2.1 < (List.length x1.2.2.2.2.2.1 : Int))) <|
    Option.bind (x1.2.2.2.2.2.1[x1.2.2.2.2.1.toNat]?) fun y4 =>
    Option.bind (whole_Int_Less r3.1 y4) fun r5 =>
    Option.bind (whole_Int_Sign r5.1) fun r6 =>
    bif decide (r6.1 > 0) then
      Option.bind (parcel_told r5.1) fun r7 =>
      bif r7.2.1 != 0 then
        some (Sum.inl ([], [], r7.2.1, ()))
      else
        chk (decide (((List.length x1.2.1) + 1) * 32 ≤ 140737488355328) && decide ((List.length x1.2.1) + 1 ≤ maxLen)) <|
        again (x1.1, x1.2.1 ++ [(y2.1, r7.1, y2.2.2.2.2.2.1)], x1.2.2.1, x1.2.2.2.1, w64 (x1.2.2.2.2.1 + 1), x1.2.2.2.2.2.1, ())
    else
      again (x1.1, x1.2.1, x1.2.2.1, x1.2.2.2.1, w64 (x1.2.2.2.2.1 + 1), x1.2.2.2.2.2.1, ())
  else
    some (Sum.inr (x1.1, x1.2.1, ()))

def parcel_Laid (a0 : List D_api_Mass) (a1 : List D_api_State) : Option ((List D_api_Rest) × (List D_api_Mass) × Int × Unit) :=
  Option.bind (parcel_itemsFault a0) fun r1 =>
  bif r1.1 != 0 then
    some ([], [], r1.1, ())
  else
    Option.bind (parcel_linesFault a1) fun r2 =>
    bif r2.1 != 0 then
      some ([], [], r2.1, ())
    else
      chk (decide (0 ≤ (0 : Int)) && decide ((0 : Int) ≤ ((List.length a1 : Int))) && decide ((8 : Int) * ((List.length a1 : Int)) ≤ 281474976710656) && decide (((List.length a1 : Int)) ≤ 9223372036854775807)) <|
      chk (decide (0 ≤ ((List.length a1 : Int))) && decide (((List.length a1 : Int)) ≤ ((List.length a1 : Int))) && decide ((32 : Int) * ((List.length a1 : Int)) ≤ 281474976710656) && decide (((List.length a1 : Int)) ≤ 9223372036854775807)) <|
      joinB (β := ((List D_api_Rest) × (List D_api_Mass) × Int × Unit)) (γ := ((List D_api_Mass) × (List Int) × (List D_api_State) × (List D_whole_Int) × Unit)) (
        iter (X := parcel_Laid_x10) (β := parcel_Laid_r10) (List.length a0 + (List.length ([] : List Int) + (List.length a1 + (Int.natAbs ((List.length a1 : Int)) + (Int.natAbs (0 : Int) + (List.length a1 + (List.length ((List.replicate (Int.toNat ((List.length a1 : Int))) (false, [])) : List D_whole_Int) + 2))))))) (a0, [], a1, (List.length a1 : Int), 0, a1, List.replicate (Int.toNat ((List.length a1 : Int))) (false, []), ()) (parcel_Laid_b10)) fun v7 =>
      Option.bind (slices_SortStableFunc_int v7.2.1 v7.2.2.1) fun r8 =>
      joinB (β := ((List D_api_Rest) × (List D_api_Mass) × Int × Unit)) (γ := ((List D_api_Mass) × (List D_api_State) × (List D_whole_Int) × Unit)) (
        iter (X := parcel_Laid_x18) (β := parcel_Laid_r18) (List.length r8.1 + (List.length ([] : List D_api_Mass) + (List.length v7.1 + (Int.natAbs ((List.length v7.1 : Int)) + (Int.natAbs (0 : Int) + (List.length v7.2.2.1 + (List.length v7.2.2.2.1 + 2))))))) (r8.1, [], v7.1, (List.length v7.1 : Int), 0, v7.2.2.1, v7.2.2.2.1, ()) (parcel_Laid_b18)) fun v27 =>
      joinB (β := ((List D_api_Rest) × (List D_api_Mass) × Int × Unit)) (γ := ((List D_api_Mass) × (List D_api_Rest) × Unit)) (
        iter (X := parcel_Laid_x38) (β := parcel_Laid_r38) (List.length v27.1 + (List.length ([] : List D_api_Rest) + (List.length v27.2.1 + (Int.natAbs ((List.length v27.2.1 : Int)) + (Int.natAbs (0 : Int) + (List.length v27.2.2.1 + 2)))))) (v27.1, [], v27.2.1, (List.length v27.2.1 : Int), 0, v27.2.2.1, ()) (parcel_Laid_b38)) fun v35 =>
      some (v35.2.1, v35.1, 0, ())

def r10_AtMost (a0 : D_api_Decimal) (a1 : D_api_Decimal) : Option (Bool × Unit) :=
  Option.bind (r10_cmp a0 a1) fun r1 =>
  some (decide (r1.1 ≤ 0), ())

abbrev r10_Taken_x3 : Type := (List D_api_Rest) × Int × Int × Bool × (List Int) × Bool × (List Int) × Unit
abbrev r10_Taken_r3 : Type := ((D_interchangeref1_Num × Unit) ⊕ (Bool × (List Int) × Bool × (List Int) × Unit))
def r10_Taken_b3  (x1 : r10_Taken_x3) (again : r10_Taken_x3 → Option r10_Taken_r3) : Option r10_Taken_r3 :=
  bif decide (x1.2.2.1 < x1.2.1) then
    Option.bind (idx x1.1 x1.2.2.1) fun y2 =>
    Option.bind (r10_units y2.2.1) fun r3 =>
    Option.bind (r1_Plus (x1.2.2.2.2.2.1, x1.2.2.2.2.2.2.1) r3.1) fun r4 =>
    again (x1.1, x1.2.1, w64 (x1.2.2.1 + 1), x1.2.2.2.1, x1.2.2.2.2.1, r4.1.1, r4.1.2, ())
  else
    some (Sum.inr (x1.2.2.2.1, x1.2.2.2.2.1, x1.2.2.2.2.2.1, x1.2.2.2.2.2.2.1, ()))

def r10_Taken (a0 : List D_api_Rest) : Option (D_interchangeref1_Num × Unit) :=
  joinB (β := (D_interchangeref1_Num × Unit)) (γ := (Bool × (List Int) × Bool × (List Int) × Unit)) (
    iter (X := r10_Taken_x3) (β := r10_Taken_r3) (List.length a0 + (Int.natAbs ((List.length a0 : Int)) + (Int.natAbs (0 : Int) + (List.length ([] : List Int) + (List.length ([] : List Int) + 2))))) (a0, (List.length a0 : Int), 0, false, [], false, [], ()) (r10_Taken_b3)) fun v5 =>
  some ((v5.2.2.1, v5.2.2.2.1), ())

abbrev r10_SumOf_x3 : Type := (List D_api_Mass) × Int × Int × Bool × (List Int) × Bool × (List Int) × Unit
abbrev r10_SumOf_r3 : Type := ((D_interchangeref1_Num × Unit) ⊕ (Bool × (List Int) × Bool × (List Int) × Unit))
def r10_SumOf_b3  (x1 : r10_SumOf_x3) (again : r10_SumOf_x3 → Option r10_SumOf_r3) : Option r10_SumOf_r3 :=
  bif decide (x1.2.2.1 < x1.2.1) then
    Option.bind (idx x1.1 x1.2.2.1) fun y2 =>
    Option.bind (r10_units y2.2.2) fun r3 =>
    Option.bind (r1_Plus (x1.2.2.2.2.2.1, x1.2.2.2.2.2.2.1) r3.1) fun r4 =>
    again (x1.1, x1.2.1, w64 (x1.2.2.1 + 1), x1.2.2.2.1, x1.2.2.2.2.1, r4.1.1, r4.1.2, ())
  else
    some (Sum.inr (x1.2.2.2.1, x1.2.2.2.2.1, x1.2.2.2.2.2.1, x1.2.2.2.2.2.2.1, ()))

def r10_SumOf (a0 : List D_api_Mass) : Option (D_interchangeref1_Num × Unit) :=
  joinB (β := (D_interchangeref1_Num × Unit)) (γ := (Bool × (List Int) × Bool × (List Int) × Unit)) (
    iter (X := r10_SumOf_x3) (β := r10_SumOf_r3) (List.length a0 + (Int.natAbs ((List.length a0 : Int)) + (Int.natAbs (0 : Int) + (List.length ([] : List Int) + (List.length ([] : List Int) + 2))))) (a0, (List.length a0 : Int), 0, false, [], false, [], ()) (r10_SumOf_b3)) fun v5 =>
  some ((v5.2.2.1, v5.2.2.2.1), ())

abbrev l10_ParcelLaysAddUp_x9 : Type := (List D_api_Mass) × (List D_api_State) × (List D_api_Rest) × (List D_api_Mass) × Bool × (List D_api_Rest) × Int × Int × (List D_api_State) × Int × Int × Int × Int × Int × Int × Unit
abbrev l10_ParcelLaysAddUp_r9 : Type := (((Bool × Unit) ⊕ ((List D_api_Mass) × (List D_api_Rest) × (List D_api_Mass) × Unit)) ⊕ ((List D_api_Mass) × (List D_api_State) × (List D_api_Rest) × (List D_api_Mass) × Bool × (List D_api_Rest) × Int × Int × Unit))
def l10_ParcelLaysAddUp_b9  (x1 : l10_ParcelLaysAddUp_x9) (again : l10_ParcelLaysAddUp_x9 → Option l10_ParcelLaysAddUp_r9) : Option l10_ParcelLaysAddUp_r9 :=
  bif decide (x1.2.2.2.2.2.2.2.2.2.2.1 < x1.2.2.2.2.2.2.2.2.2.1) then
    Option.bind (idx x1.2.2.2.2.2.2.2.2.1 x1.2.2.2.2.2.2.2.2.2.2.1) fun y2 =>
    bif x1.2.2.2.2.1 then
      again (x1.1, x1.2.1, x1.2.2.1, x1.2.2.2.1, true, x1.2.2.2.2.2.1, x1.2.2.2.2.2.2.1, x1.2.2.2.2.2.2.2.1, x1.2.2.2.2.2.2.2.2.1, x1.2.2.2.2.2.2.2.2.2.1, w64 (x1.2.2.2.2.2.2.2.2.2.2.1 + 1), x1.2.2.2.2.2.2.2.2.2.2.2.1, x1.2.2.2.2.2.2.2.2.2.2.2.2.1, x1.2.2.2.2.2.2.2.2.2.2.2.2.2.1, x1.2.2.2.2.2.2.2.2.2.2.2.2.2.2.1, ())
    else
      bif y2.1 == x1.2.2.2.2.2.2.2.2.2.2.2.1 then
        Option.bind (r10_AtMost (x1.2.2.2.2.2.2.2.2.2.2.2.2.1, x1.2.2.2.2.2.2.2.2.2.2.2.2.2.1) y2.2.2.2.2.2.2.2.2.2) fun r3 =>
        again (x1.1, x1.2.1, x1.2.2.1, x1.2.2.2.1, r3.1, x1.2.2.2.2.2.1, x1.2.2.2.2.2.2.1, x1.2.2.2.2.2.2.2.1, x1.2.2.2.2.2.2.2.2.1, x1.2.2.2.2.2.2.2.2.2.1, w64 (x1.2.2.2.2.2.2.2.2.2.2.1 + 1), x1.2.2.2.2.2.2.2.2.2.2.2.1, x1.2.2.2.2.2.2.2.2.2.2.2.2.1, x1.2.2.2.2.2.2.2.2.2.2.2.2.2.1, x1.2.2.2.2.2.2.2.2.2.2.2.2.2.2.1, ())
      else
        again (x1.1, x1.2.1, x1.2.2.1, x1.2.2.2.1, false, x1.2.2.2.2.2.1, x1.2.2.2.2.2.2.1, x1.2.2.2.2.2.2.2.1, x1.2.2.2.2.2.2.2.2.1, x1.2.2.2.2.2.2.2.2.2.1, w64 (x1.2.2.2.2.2.2.2.2.2.2.1 + 1), x1.2.2.2.2.2.2.2.2.2.2.2.1, x1.2.2.2.2.2.2.2.2.2.2.2.2.1, x1.2.2.2.2.2.2.2.2.2.2.2.2.2.1, x1.2.2.2.2.2.2.2.2.2.2.2.2.2.2.1, ())
  else
    some (Sum.inr (x1.1, x1.2.1, x1.2.2.1, x1.2.2.2.1, x1.2.2.2.2.1, x1.2.2.2.2.2.1, x1.2.2.2.2.2.2.1, x1.2.2.2.2.2.2.2.1, ()))

abbrev l10_ParcelLaysAddUp_x5 : Type := (List D_api_Mass) × (List D_api_State) × (List D_api_Rest) × (List D_api_Mass) × (List D_api_Rest) × Int × Int × Unit
abbrev l10_ParcelLaysAddUp_r5 : Type := ((Bool × Unit) ⊕ ((List D_api_Mass) × (List D_api_Rest) × (List D_api_Mass) × Unit))
def l10_ParcelLaysAddUp_b5  (x1 : l10_ParcelLaysAddUp_x5) (again : l10_ParcelLaysAddUp_x5 → Option l10_ParcelLaysAddUp_r5) : Option l10_ParcelLaysAddUp_r5 :=
  bif decide (x1.2.2.2.2.2.2.1 < x1.2.2.2.2.2.1) then
    Option.bind (idx x1.2.2.2.2.1 x1.2.2.2.2.2.2.1) fun y2 =>
    joinB (β := ((Bool × Unit) ⊕ ((List D_api_Mass) × (List D_api_Rest) × (List D_api_Mass) × Unit))) (γ := ((List D_api_Mass) × (List D_api_State) × (List D_api_Rest) × (List D_api_Mass) × Bool × (List D_api_Rest) × Int × Int × Unit)) (
      iter (X := l10_ParcelLaysAddUp_x9) (β := l10_ParcelLaysAddUp_r9) (List.length x1.1 + (List.length x1.2.1 + (List.length x1.2.2.1 + (List.length x1.2.2.2.1 + (List.length x1.2.2.2.2.1 + (Int.natAbs x1.2.2.2.2.2.1 + (Int.natAbs x1.2.2.2.2.2.2.1 + (List.length x1.2.1 + (Int.natAbs ((List.length x1.2.1 : Int)) + (Int.natAbs (0 : Int) + (Int.natAbs y2.1 + (Int.natAbs y2.2.1.1 + (Int.natAbs y2.2.1.2 + (Int.natAbs y2.2.2 + 2)))))))))))))) (x1.1, x1.2.1, x1.2.2.1, x1.2.2.2.1, false, x1.2.2.2.2.1, x1.2.2.2.2.2.1, x1.2.2.2.2.2.2.1, x1.2.1, (List.length x1.2.1 : Int), 0, y2.1, y2.2.1.1, y2.2.1.2, y2.2.2, ()) (l10_ParcelLaysAddUp_b9)) fun v3 =>
    bif !v3.2.2.2.2.1 then
      some (Sum.inl (false, ()))
    else
      again (v3.1, v3.2.1, v3.2.2.1, v3.2.2.2.1, v3.2.2.2.2.2.1, v3.2.2.2.2.2.2.1, w64 (v3.2.2.2.2.2.2.2.1 + 1), ())
  else
    some (Sum.inr (x1.1, x1.2.2.1, x1.2.2.2.1, ()))

def l10_ParcelLaysAddUp (a0 : List D_api_Mass) (a1 : List D_api_State) : Option (Bool × Unit) :=
  Option.bind (parcel_Laid a0 a1) fun r1 =>
  bif r1.2.2.1 != 0 then
    bif ((List.length r1.1 : Int)) == 0 then
      bif ((List.length r1.2.1 : Int)) == 0 then
        Option.bind (l10_awake) fun r2 =>
        some (r2.1, ())
      else
        some (false, ())
    else
      some (false, ())
  else
    joinB (β := (Bool × Unit)) (γ := ((List D_api_Mass) × (List D_api_Rest) × (List D_api_Mass) × Unit)) (
      iter (X := l10_ParcelLaysAddUp_x5) (β := l10_ParcelLaysAddUp_r5) (List.length a0 + (List.length a1 + (List.length r1.1 + (List.length r1.2.1 + (List.length r1.1 + (Int.natAbs ((List.length r1.1 : Int)) + (Int.natAbs (0 : Int) + 2))))))) (a0, a1, r1.1, r1.2.1, r1.1, (List.length r1.1 : Int), 0, ()) (l10_ParcelLaysAddUp_b5)) fun v9 =>
    Option.bind (r10_Taken v9.2.1) fun r10 =>
    Option.bind (r10_SumOf v9.2.2.1) fun r11 =>
    Option.bind (r1_Plus r10.1 r11.1) fun r12 =>
    Option.bind (r10_SumOf v9.1) fun r13 =>
    Option.bind (r1_Cmp r12.1 r13.1) fun r14 =>
    bif r14.1 == 0 then
      Option.bind (l10_awake) fun r15 =>
      some (r15.1, ())
    else
      some (false, ())

end Go.Md
