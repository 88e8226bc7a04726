/-
  The plain models of the functions that the law reaches, second part. No condition.
-/
import Derived.Test.YtglaikpklmafkaaGreatDoorXm
import Derived.Lib.Bytealg
import Derived.Lib.Repeat
set_option linter.all false
namespace Go.Md
open Go.Dn

def strings_Compare (a b : List UInt8) : Option (Int × Unit) := some (Lib.compareBytes a b, ())

abbrev D_api_Rate : Type := (List UInt8) × D_api_Decimal

abbrev D_api_Extra : Type := Bool × D_api_Decimal × (List UInt8)

abbrev D_api_BillLine : Type := Int × Int × (List UInt8) × D_api_Decimal × (List UInt8) × D_api_Decimal × Int × (List D_api_Extra) × (List UInt8)

abbrev D_api_Invoice : Type := (List UInt8) × (List UInt8) × Int × Int × Int × Bool × (List D_api_Rate) × (List D_api_BillLine) × (List D_api_Extra)

abbrev order_power_x3 : Type := Int × Int × Int × Unit
abbrev order_power_r3 : Type := ((Int × Unit) ⊕ (Int × Unit))
def order_power_b3  (x1 : order_power_x3) (again : order_power_x3 → Option order_power_r3) : Option order_power_r3 :=
  bif decide (x1.2.2.1 < x1.2.1) then
    again (w64 (x1.1 * 10), x1.2.1, w64 (x1.2.2.1 + 1), ())
  else
    some (Sum.inr (x1.1, ()))

def order_power (a0 : Int) : Option (Int × Unit) :=
  joinB (β := (Int × Unit)) (γ := (Int × Unit)) (
    iter (X := order_power_x3) (β := order_power_r3) (Int.natAbs (1 : Int) + (Int.natAbs a0 + (Int.natAbs (0 : Int) + 2))) (1, a0, 0, ()) (order_power_b3)) fun v2 =>
  some (v2.1, ())

def order_within (a0 : D_api_Decimal) (a1 : Int) (a2 : Int) : Option (Bool × Unit) :=
  bif decide (a0.2 ≤ a1) then
    bif decide (a0.1 ≥ 0) then
      Option.bind (order_power a0.2) fun r1 =>
      some (decide (a0.1 ≤ (w64 (a2 * r1.1))), ())
    else
      some (false, ())
  else
    some (false, ())

abbrev whole_Int_Times_x7 : Type := Int × Int × Int × (List Int) × Int × Int × (List Int) × Int × Int × Bool × (List Int) × Bool × (List Int) × Bool × (List Int) × (List Int) × Unit
abbrev whole_Int_Times_r7 : Type := (((D_whole_Int × Unit) ⊕ (Bool × (List Int) × Bool × (List Int) × Bool × (List Int) × (List Int) × Unit)) ⊕ (Int × Int × (List Int) × Int × Int × Bool × (List Int) × Bool × (List Int) × Bool × (List Int) × (List Int) × Unit))
def whole_Int_Times_b7  (x1 : whole_Int_Times_x7) (again : whole_Int_Times_x7 → Option whole_Int_Times_r7) : Option whole_Int_Times_r7 :=
  bif decide (x1.2.2.2.2.2.2.2.2.1 < x1.2.2.2.2.2.2.2.1) then
    Option.bind (idx x1.2.2.2.2.2.2.1 x1.2.2.2.2.2.2.2.2.1) fun y2 =>
    chk (decide (0 ≤ (w64 (x1.1 + x1.2.2.2.2.2.2.2.2.1))) && decide ((w64 (x1.1 + x1.2.2.2.2.2.2.2.2.1)) < (List.length x1.2.2.2.2.2.2.2.2.2.2.2.2.2.2.2.1 : Int))) <|
    Option.bind (x1.2.2.2.2.2.2.2.2.2.2.2.2.2.2.2.1[(w64 (x1.1 + x1.2.2.2.2.2.2.2.2.1)).toNat]?) fun y3 =>
    let n4 : Int := wu64 ((wu64 y3) + (wu64 ((wu64 x1.2.1) * (wu64 y2))))
    chk (decide (0 ≤ (w64 (x1.1 + x1.2.2.2.2.2.2.2.2.1))) && decide ((w64 (x1.1 + x1.2.2.2.2.2.2.2.2.1)) < (List.length x1.2.2.2.2.2.2.2.2.2.2.2.2.2.2.2.1 : Int))) <|
    Option.bind (x1.2.2.2.2.2.2.2.2.2.2.2.2.2.2.2.1[(w64 (x1.1 + x1.2.2.2.2.2.2.2.2.1)).toNat]?) fun _ =>
    again (x1.1, x1.2.1, Int.fdiv (wu64 (x1.2.2.1 + n4)) (2 ^ 32), x1.2.2.2.1, x1.2.2.2.2.1, x1.2.2.2.2.2.1, x1.2.2.2.2.2.2.1, x1.2.2.2.2.2.2.2.1, w64 (x1.2.2.2.2.2.2.2.2.1 + 1), x1.2.2.2.2.2.2.2.2.2.1, x1.2.2.2.2.2.2.2.2.2.2.1, x1.2.2.2.2.2.2.2.2.2.2.2.1, x1.2.2.2.2.2.2.2.2.2.2.2.2.1, x1.2.2.2.2.2.2.2.2.2.2.2.2.2.1, x1.2.2.2.2.2.2.2.2.2.2.2.2.2.2.1, List.set x1.2.2.2.2.2.2.2.2.2.2.2.2.2.2.2.1 (w64 (x1.1 + x1.2.2.2.2.2.2.2.2.1)).toNat (wu32 (wu64 (x1.2.2.1 + n4))), ())
  else
    some (Sum.inr (x1.1, x1.2.2.1, x1.2.2.2.1, x1.2.2.2.2.1, x1.2.2.2.2.2.1, x1.2.2.2.2.2.2.2.2.2.1, x1.2.2.2.2.2.2.2.2.2.2.1, x1.2.2.2.2.2.2.2.2.2.2.2.1, x1.2.2.2.2.2.2.2.2.2.2.2.2.1, x1.2.2.2.2.2.2.2.2.2.2.2.2.2.1, x1.2.2.2.2.2.2.2.2.2.2.2.2.2.2.1, x1.2.2.2.2.2.2.2.2.2.2.2.2.2.2.2.1, ()))

abbrev whole_Int_Times_x3 : Type := (List Int) × Int × Int × Bool × (List Int) × Bool × (List Int) × Bool × (List Int) × (List Int) × Unit
abbrev whole_Int_Times_r3 : Type := ((D_whole_Int × Unit) ⊕ (Bool × (List Int) × Bool × (List Int) × Bool × (List Int) × (List Int) × Unit))
def whole_Int_Times_b3  (x1 : whole_Int_Times_x3) (again : whole_Int_Times_x3 → Option whole_Int_Times_r3) : Option whole_Int_Times_r3 :=
  bif decide (x1.2.2.1 < x1.2.1) then
    Option.bind (idx x1.1 x1.2.2.1) fun y2 =>
    joinB (β := ((D_whole_Int × Unit) ⊕ (Bool × (List Int) × Bool × (List Int) × Bool × (List Int) × (List Int) × Unit))) (γ := (Int × Int × (List Int) × Int × Int × Bool × (List Int) × Bool × (List Int) × Bool × (List Int) × (List Int) × Unit)) (
      iter (X := whole_Int_Times_x7) (β := whole_Int_Times_r7) (Int.natAbs x1.2.2.1 + (Int.natAbs y2 + (Int.natAbs (0 : Int) + (List.length x1.1 + (Int.natAbs x1.2.1 + (Int.natAbs x1.2.2.1 + (List.length x1.2.2.2.2.2.2.1 + (Int.natAbs ((List.length x1.2.2.2.2.2.2.1 : Int)) + (Int.natAbs (0 : Int) + (List.length x1.2.2.2.2.1 + (List.length x1.2.2.2.2.2.2.1 + (List.length x1.2.2.2.2.2.2.2.2.1 + (List.length x1.2.2.2.2.2.2.2.2.2.1 + 2))))))))))))) (x1.2.2.1, y2, 0, x1.1, x1.2.1, x1.2.2.1, x1.2.2.2.2.2.2.1, (List.length x1.2.2.2.2.2.2.1 : Int), 0, x1.2.2.2.1, x1.2.2.2.2.1, x1.2.2.2.2.2.1, x1.2.2.2.2.2.2.1, x1.2.2.2.2.2.2.2.1, x1.2.2.2.2.2.2.2.2.1, x1.2.2.2.2.2.2.2.2.2.1, ()) (whole_Int_Times_b7)) fun v3 =>
    chk (decide (0 ≤ (w64 (v3.1 + ((List.length v3.2.2.2.2.2.2.2.2.1 : Int))))) && decide ((w64 (v3.1 + ((List.length v3.2.2.2.2.2.2.2.2.1 : Int)))) < (List.length v3.2.2.2.2.2.2.2.2.2.2.2.1 : Int))) <|
    Option.bind (v3.2.2.2.2.2.2.2.2.2.2.2.1[(w64 (v3.1 + ((List.length v3.2.2.2.2.2.2.2.2.1 : Int)))).toNat]?) fun _ =>
    again (v3.2.2.1, v3.2.2.2.1, w64 (v3.2.2.2.2.1 + 1), v3.2.2.2.2.2.1, v3.2.2.2.2.2.2.1, v3.2.2.2.2.2.2.2.1, v3.2.2.2.2.2.2.2.2.1, v3.2.2.2.2.2.2.2.2.2.1, v3.2.2.2.2.2.2.2.2.2.2.1, List.set v3.2.2.2.2.2.2.2.2.2.2.2.1 (w64 (v3.1 + ((List.length v3.2.2.2.2.2.2.2.2.1 : Int)))).toNat (wu32 v3.2.1), ())
  else
    some (Sum.inr (x1.2.2.2.1, x1.2.2.2.2.1, x1.2.2.2.2.2.1, x1.2.2.2.2.2.2.1, x1.2.2.2.2.2.2.2.1, x1.2.2.2.2.2.2.2.2.1, x1.2.2.2.2.2.2.2.2.2.1, ()))

def whole_Int_Times (a0 : D_whole_Int) (a1 : D_whole_Int) : Option (D_whole_Int × Unit) :=
  chk (decide (0 ≤ (w64 (((List.length a0.2 : Int)) + ((List.length a1.2 : Int))))) && decide ((w64 (((List.length a0.2 : Int)) + ((List.length a1.2 : Int)))) ≤ (w64 (((List.length a0.2 : Int)) + ((List.length a1.2 : Int))))) && decide ((4 : Int) * (w64 (((List.length a0.2 : Int)) + ((List.length a1.2 : Int)))) ≤ 281474976710656) && decide ((w64 (((List.length a0.2 : Int)) + ((List.length a1.2 : Int)))) ≤ 9223372036854775807)) <|
  joinB (β := (D_whole_Int × Unit)) (γ := (Bool × (List Int) × Bool × (List Int) × Bool × (List Int) × (List Int) × Unit)) (
    iter (X := whole_Int_Times_x3) (β := whole_Int_Times_r3) (List.length a0.2 + (Int.natAbs ((List.length a0.2 : Int)) + (Int.natAbs (0 : Int) + (List.length a0.2 + (List.length a1.2 + (List.length ([] : List Int) + (List.length ((List.replicate (Int.toNat (w64 (((List.length a0.2 : Int)) + ((List.length a1.2 : Int))))) 0) : List Int) + 2))))))) (a0.2, (List.length a0.2 : Int), 0, a0.1, a0.2, a1.1, a1.2, false, [], List.replicate (Int.toNat (w64 (((List.length a0.2 : Int)) + ((List.length a1.2 : Int))))) 0, ()) (whole_Int_Times_b3)) fun v10 =>
  Option.bind (whole_made (!(v10.1 == v10.2.2.1)) v10.2.2.2.2.2.2.1) fun r11 =>
  some (r11.1, ())

abbrev whole_Power_x3 : Type := Int × Int × Bool × (List Int) × Bool × (List Int) × Unit
abbrev whole_Power_r3 : Type := ((D_whole_Int × Unit) ⊕ (Bool × (List Int) × Bool × (List Int) × Unit))
def whole_Power_b3  (x1 : whole_Power_x3) (again : whole_Power_x3 → Option whole_Power_r3) : Option whole_Power_r3 :=
  bif decide (x1.2.1 < x1.1) then
    Option.bind (whole_Of 10) fun r2 =>
    Option.bind (whole_Int_Times (x1.2.2.2.2.1, x1.2.2.2.2.2.1) r2.1) fun r3 =>
    again (x1.1, w64 (x1.2.1 + 1), x1.2.2.1, x1.2.2.2.1, r3.1.1, r3.1.2, ())
  else
    some (Sum.inr (x1.2.2.1, x1.2.2.2.1, x1.2.2.2.2.1, x1.2.2.2.2.2.1, ()))

def whole_Power (a0 : Int) : Option (D_whole_Int × Unit) :=
  Option.bind (whole_Of 1) fun r1 =>
  joinB (β := (D_whole_Int × Unit)) (γ := (Bool × (List Int) × Bool × (List Int) × Unit)) (
    iter (X := whole_Power_x3) (β := whole_Power_r3) (Int.natAbs a0 + (Int.natAbs (0 : Int) + (List.length ([] : List Int) + (List.length r1.1.2 + 2)))) (a0, 0, false, [], r1.1.1, r1.1.2, ()) (whole_Power_b3)) fun v5 =>
  some ((v5.2.2.1, v5.2.2.2.1), ())

abbrev whole_sum_v_x6 : Type := (List Int) × (List Int) × Int × (List Int) × Int × Int × Unit
abbrev whole_sum_v_r6 : Type := (((List Int) × Unit) ⊕ ((List Int) × Int × Unit))
def whole_sum_v_b6  (x1 : whole_sum_v_x6) (again : whole_sum_v_x6 → Option whole_sum_v_r6) : Option whole_sum_v_r6 :=
  bif decide (x1.2.2.2.2.2.1 < x1.2.2.2.2.1) then
    Option.bind (idx x1.2.2.2.1 x1.2.2.2.2.2.1) fun y2 =>
    joinB (β := (((List Int) × Unit) ⊕ ((List Int) × Int × Unit))) (γ := ((List Int) × (List Int) × Int × (List Int) × Int × Int × Unit)) (
      bif decide (x1.2.2.2.2.2.1 < ((List.length x1.1 : Int))) then
        Option.bind (idx x1.1 x1.2.2.2.2.2.1) fun y3 =>
        let n4 : Int := wu64 ((wu64 (x1.2.2.1 + (wu64 y2))) + (wu64 y3))
        some (Sum.inr (x1.1, x1.2.1, n4, x1.2.2.2.1, x1.2.2.2.2.1, x1.2.2.2.2.2.1, ()))
      else
        some (Sum.inr (x1.1, x1.2.1, wu64 (x1.2.2.1 + (wu64 y2)), x1.2.2.2.1, x1.2.2.2.2.1, x1.2.2.2.2.2.1, ()))) fun v5 =>
    chk (decide (((List.length v5.2.1) + 1) * 4 ≤ 140737488355328) && decide ((List.length v5.2.1) + 1 ≤ maxLen)) <|
    again (v5.1, v5.2.1 ++ [(wu32 v5.2.2.1)], Int.fdiv v5.2.2.1 (2 ^ 32), v5.2.2.2.1, v5.2.2.2.2.1, w64 (v5.2.2.2.2.2.1 + 1), ())
  else
    some (Sum.inr (x1.2.1, x1.2.2.1, ()))

def whole_sum_v (a0 : List Int) (a1 : List Int) : Option ((List Int) × Unit) :=
  joinB (β := ((List Int) × Unit)) (γ := ((List Int) × (List Int) × Unit)) (
    bif decide (((List.length a0 : Int)) < ((List.length a1 : Int))) then
      some (Sum.inr (a1, a0, ()))
    else
      some (Sum.inr (a0, a1, ()))) fun v1 =>
  chk (decide (0 ≤ (0 : Int)) && decide ((0 : Int) ≤ (w64 (((List.length v1.1 : Int)) + 1))) && decide ((4 : Int) * (w64 (((List.length v1.1 : Int)) + 1)) ≤ 281474976710656) && decide ((w64 (((List.length v1.1 : Int)) + 1)) ≤ 9223372036854775807)) <|
  joinB (β := ((List Int) × Unit)) (γ := ((List Int) × Int × Unit)) (
    iter (X := whole_sum_v_x6) (β := whole_sum_v_r6) (List.length v1.2.1 + (List.length ([] : List Int) + (Int.natAbs (0 : Int) + (List.length v1.1 + (Int.natAbs ((List.length v1.1 : Int)) + (Int.natAbs (0 : Int) + 2)))))) (v1.2.1, [], 0, v1.1, (List.length v1.1 : Int), 0, ()) (whole_sum_v_b6)) fun v7 =>
  chk (decide (((List.length v7.1) + 1) * 4 ≤ 140737488355328) && decide ((List.length v7.1) + 1 ≤ maxLen)) <|
  some (v7.1 ++ [(wu32 v7.2.1)], ())

def whole_Int_Plus (a0 : D_whole_Int) (a1 : D_whole_Int) : Option (D_whole_Int × Unit) :=
  bif a0.1 == a1.1 then
    Option.bind (whole_sum_v a0.2 a1.2) fun r1 =>
    Option.bind (whole_made a0.1 r1.1) fun r2 =>
    some (r2.1, ())
  else
    Option.bind (whole_compare a0.2 a1.2) fun r3 =>
    bif decide (r3.1 ≥ 0) then
      Option.bind (whole_less a0.2 a1.2) fun r4 =>
      Option.bind (whole_made a0.1 r4.1) fun r5 =>
      some (r5.1, ())
    else
      Option.bind (whole_less a1.2 a0.2) fun r6 =>
      Option.bind (whole_made a1.1 r6.1) fun r7 =>
      some (r7.1, ())

def amount_Scaled (a0 : D_api_Decimal) (a1 : Int) : Option (D_whole_Int × Unit) :=
  Option.bind (whole_Of a0.1) fun r1 =>
  Option.bind (whole_Power (w64 (a1 - a0.2))) fun r2 =>
  Option.bind (whole_Int_Times r1.1 r2.1) fun r3 =>
  some (r3.1, ())

abbrev r1_half_x4 : Type := Int × Int × Bool × (List Int) × Bool × (List Int) × Bool × (List Int) × Unit
abbrev r1_half_r4 : Type := ((D_interchangeref1_Num × Int × Unit) ⊕ (Int × Bool × (List Int) × Bool × (List Int) × Unit))
def r1_half_b4  (x1 : r1_half_x4) (again : r1_half_x4 → Option r1_half_r4) : Option r1_half_r4 :=
  bif decide (x1.2.1 ≥ 0) then
    Option.bind (idx x1.2.2.2.1 x1.2.1) fun y2 =>
    let n3 : Int := w64 (Int.tdiv (w64 ((w64 (x1.1 * 1000000)) + y2)) 2)
    let n4 : Int := Int.tmod (w64 ((w64 (x1.1 * 1000000)) + y2)) 2
    chk (decide (0 ≤ x1.2.1) && decide (x1.2.1 < (List.length x1.2.2.2.2.2.2.2.1 : Int))) <|
    Option.bind (x1.2.2.2.2.2.2.2.1[x1.2.1.toNat]?) fun _ =>
    again (n4, w64 (x1.2.1 - 1), x1.2.2.1, x1.2.2.2.1, x1.2.2.2.2.1, x1.2.2.2.2.2.1, x1.2.2.2.2.2.2.1, List.set x1.2.2.2.2.2.2.2.1 x1.2.1.toNat n3, ())
  else
    some (Sum.inr (x1.1, x1.2.2.2.2.1, x1.2.2.2.2.2.1, x1.2.2.2.2.2.2.1, x1.2.2.2.2.2.2.2.1, ()))

def r1_half (a0 : D_interchangeref1_Num) : Option (D_interchangeref1_Num × Int × Unit) :=
  chk (decide (0 ≤ ((List.length a0.2 : Int))) && decide (((List.length a0.2 : Int)) ≤ ((List.length a0.2 : Int))) && decide ((8 : Int) * ((List.length a0.2 : Int)) ≤ 281474976710656) && decide (((List.length a0.2 : Int)) ≤ 9223372036854775807)) <|
  joinB (β := (D_interchangeref1_Num × Int × Unit)) (γ := (Int × Bool × (List Int) × Bool × (List Int) × Unit)) (
    iter (X := r1_half_x4) (β := r1_half_r4) (Int.natAbs (0 : Int) + (Int.natAbs (w64 (((List.length a0.2 : Int)) - 1)) + (List.length a0.2 + (List.length ([] : List Int) + (List.length ((List.replicate (Int.toNat ((List.length a0.2 : Int))) 0) : List Int) + 2))))) (0, w64 (((List.length a0.2 : Int)) - 1), a0.1, a0.2, false, [], false, List.replicate (Int.toNat ((List.length a0.2 : Int))) 0, ()) (r1_half_b4)) fun v6 =>
  Option.bind (r1_trimmed (v6.2.2.2.1, v6.2.2.2.2.1)) fun r7 =>
  some (r7.1, v6.1, ())

abbrev r1_DivMod_x3 : Type := (List Int) × Bool × (List Int) × Bool × (List Int) × Bool × (List Int) × Bool × (List Int) × Unit
abbrev r1_DivMod_r3 : Type := ((D_interchangeref1_Num × D_interchangeref1_Num × Unit) ⊕ ((List Int) × Bool × (List Int) × Bool × (List Int) × Bool × (List Int) × Unit))
def r1_DivMod_b3  (x1 : r1_DivMod_x3) (again : r1_DivMod_x3 → Option r1_DivMod_r3) : Option r1_DivMod_r3 :=
  Option.bind (r1_Sign (x1.2.2.2.2.2.2.2.1, x1.2.2.2.2.2.2.2.2.1)) fun r2 =>
  bif decide (r2.1 > 0) then
    Option.bind (r1_half (x1.2.2.2.2.2.2.2.1, x1.2.2.2.2.2.2.2.2.1)) fun r3 =>
    chk (decide (((List.length x1.1) + 1) * 8 ≤ 140737488355328) && decide ((List.length x1.1) + 1 ≤ maxLen)) <|
    again (x1.1 ++ [r3.2.1], x1.2.1, x1.2.2.1, x1.2.2.2.1, x1.2.2.2.2.1, x1.2.2.2.2.2.1, x1.2.2.2.2.2.2.1, r3.1.1, r3.1.2, ())
  else
    some (Sum.inr (x1.1, x1.2.1, x1.2.2.1, x1.2.2.2.1, x1.2.2.2.2.1, x1.2.2.2.2.2.1, x1.2.2.2.2.2.2.1, ()))

abbrev r1_DivMod_x11 : Type := (List Int) × Int × Bool × (List Int) × Bool × (List Int) × Bool × (List Int) × Bool × (List Int) × Bool × (List Int) × Bool × (List Int) × Unit
abbrev r1_DivMod_r11 : Type := ((D_interchangeref1_Num × D_interchangeref1_Num × Unit) ⊕ (Bool × (List Int) × Bool × (List Int) × Bool × (List Int) × Bool × (List Int) × Unit))
def r1_DivMod_b11  (x1 : r1_DivMod_x11) (again : r1_DivMod_x11 → Option r1_DivMod_r11) : Option r1_DivMod_r11 :=
  bif decide (x1.2.1 ≥ 0) then
    Option.bind (r1_TimesOf (x1.2.2.2.2.2.2.2.2.1, x1.2.2.2.2.2.2.2.2.2.1) (x1.2.2.2.2.2.2.2.2.2.2.2.2.1, x1.2.2.2.2.2.2.2.2.2.2.2.2.2.1)) fun r2 =>
    Option.bind (r1_TimesOf (x1.2.2.2.2.2.2.2.2.2.2.1, x1.2.2.2.2.2.2.2.2.2.2.2.1) (x1.2.2.2.2.2.2.2.2.2.2.2.2.1, x1.2.2.2.2.2.2.2.2.2.2.2.2.2.1)) fun r3 =>
    chk (decide (0 ≤ x1.2.1) && decide (x1.2.1 < (List.length x1.1 : Int))) <|
    Option.bind (x1.1[x1.2.1.toNat]?) fun y4 =>
    Option.bind (r1_Of y4) fun r5 =>
    Option.bind (r1_Plus r3.1 r5.1) fun r6 =>
    Option.bind (r1_Cmp r6.1 (x1.2.2.1, x1.2.2.2.1)) fun r7 =>
    bif decide (r7.1 ≥ 0) then
      Option.bind (r1_Of 1) fun r8 =>
      Option.bind (r1_Plus r2.1 r8.1) fun r9 =>
      Option.bind (r1_Minus (x1.2.2.1, x1.2.2.2.1)) fun r10 =>
      Option.bind (r1_Plus r6.1 r10.1) fun r11 =>
      again (x1.1, w64 (x1.2.1 - 1), x1.2.2.1, x1.2.2.2.1, x1.2.2.2.2.1, x1.2.2.2.2.2.1, x1.2.2.2.2.2.2.1, x1.2.2.2.2.2.2.2.1, r9.1.1, r9.1.2, r11.1.1, r11.1.2, x1.2.2.2.2.2.2.2.2.2.2.2.2.1, x1.2.2.2.2.2.2.2.2.2.2.2.2.2.1, ())
    else
      again (x1.1, w64 (x1.2.1 - 1), x1.2.2.1, x1.2.2.2.1, x1.2.2.2.2.1, x1.2.2.2.2.2.1, x1.2.2.2.2.2.2.1, x1.2.2.2.2.2.2.2.1, r2.1.1, r2.1.2, r6.1.1, r6.1.2, x1.2.2.2.2.2.2.2.2.2.2.2.2.1, x1.2.2.2.2.2.2.2.2.2.2.2.2.2.1, ())
  else
    some (Sum.inr (x1.2.2.2.2.1, x1.2.2.2.2.2.1, x1.2.2.2.2.2.2.1, x1.2.2.2.2.2.2.2.1, x1.2.2.2.2.2.2.2.2.1, x1.2.2.2.2.2.2.2.2.2.1, x1.2.2.2.2.2.2.2.2.2.2.1, x1.2.2.2.2.2.2.2.2.2.2.2.1, ()))

def r1_DivMod (a0 : D_interchangeref1_Num) (a1 : D_interchangeref1_Num) : Option (D_interchangeref1_Num × D_interchangeref1_Num × Unit) :=
  joinB (β := (D_interchangeref1_Num × D_interchangeref1_Num × Unit)) (γ := ((List Int) × Bool × (List Int) × Bool × (List Int) × Bool × (List Int) × Unit)) (
    iter (X := r1_DivMod_x3) (β := r1_DivMod_r3) ((20 * List.length (([], a1.1, a1.2, false, [], false, [], a0.1, a0.2, ()) : r1_DivMod_x3).2.2.2.2.2.2.2.2.1 + 2)) ([], a1.1, a1.2, false, [], false, [], a0.1, a0.2, ()) (r1_DivMod_b3)) fun v4 =>
  Option.bind (r1_Of 2) fun r5 =>
  joinB (β := (D_interchangeref1_Num × D_interchangeref1_Num × Unit)) (γ := (Bool × (List Int) × Bool × (List Int) × Bool × (List Int) × Bool × (List Int) × Unit)) (
    iter (X := r1_DivMod_x11) (β := r1_DivMod_r11) (List.length v4.1 + (Int.natAbs (w64 (((List.length v4.1 : Int)) - 1)) + (List.length v4.2.2.1 + (List.length v4.2.2.2.2.1 + (List.length v4.2.2.2.2.2.2.1 + (List.length ([] : List Int) + (List.length ([] : List Int) + (List.length r5.1.2 + 2)))))))) (v4.1, w64 (((List.length v4.1 : Int)) - 1), v4.2.1, v4.2.2.1, v4.2.2.2.1, v4.2.2.2.2.1, v4.2.2.2.2.2.1, v4.2.2.2.2.2.2.1, false, [], false, [], r5.1.1, r5.1.2, ()) (r1_DivMod_b11)) fun v17 =>
  some ((v17.2.2.2.2.1, v17.2.2.2.2.2.1), (v17.2.2.2.2.2.2.1, v17.2.2.2.2.2.2.2.1), ())

abbrev r1_Small_x5 : Type := Int × Int × Bool × (List Int) × Unit
abbrev r1_Small_r5 : Type := ((Int × Bool × Unit) ⊕ (Int × Bool × (List Int) × Unit))
def r1_Small_b5  (x1 : r1_Small_x5) (again : r1_Small_x5 → Option r1_Small_r5) : Option r1_Small_r5 :=
  bif decide (x1.2.1 ≥ 0) then
    Option.bind (idx x1.2.2.2.1 x1.2.1) fun y2 =>
    again (w64 ((w64 (x1.1 * 1000000)) + y2), w64 (x1.2.1 - 1), x1.2.2.1, x1.2.2.2.1, ())
  else
    some (Sum.inr (x1.1, x1.2.2.1, x1.2.2.2.1, ()))

def r1_Small (a0 : D_interchangeref1_Num) (a1 : Int) : Option (Int × Bool × Unit) :=
  Option.bind (r1_Of a1) fun r1 =>
  Option.bind (r1_sizes a0.2 r1.1.2) fun r2 =>
  bif decide (r2.1 > 0) then
    some (0, false, ())
  else
    joinB (β := (Int × Bool × Unit)) (γ := (Int × Bool × (List Int) × Unit)) (
      iter (X := r1_Small_x5) (β := r1_Small_r5) (Int.natAbs (0 : Int) + (Int.natAbs (w64 (((List.length a0.2 : Int)) - 1)) + (List.length a0.2 + 2))) (0, w64 (((List.length a0.2 : Int)) - 1), a0.1, a0.2, ()) (r1_Small_b5)) fun v5 =>
    bif v5.2.1 then
      some (w64 (0 - v5.1), true, ())
    else
      some (v5.1, true, ())

end Go.Md

namespace Go.Md
open Go.Dn

def dec2 (n : Nat) : List UInt8 := if n < 10 then [UInt8.ofNat (48 + n)] else [UInt8.ofNat (48 + n / 10), UInt8.ofNat (48 + n % 10)]
def strconv_Itoa (n : Int) : Option (List UInt8 × Unit) := bif decide (0 ≤ n) && decide (n < 100) then some (dec2 n.toNat, ()) else none
def strings_Repeat (s : List UInt8) (n : Int) : Option (List UInt8 × Unit) := bif decide (2 ≤ n) && (decide (n ≤ 9223372036854775807) && (decide (0 < s.length) && decide (s.length * n.toNat ≤ 140737488355328))) then some (Lib.repeatL s n.toNat, ()) else none
/-- Not needed. -/
def amount_bankRestOf (_a : List UInt8) : Option (Int × Unit) := none
/-- Not needed. -/
def amount_isBank (_a : List UInt8) : Option (Bool × Unit) := none
/-- Not needed. -/
def amount_isBody (_a : List UInt8) : Option (Bool × Unit) := none
/-- Not needed. -/
def amount_isTax (_a : List UInt8) : Option (Bool × Unit) := none
/-- Not needed. -/
def amount_padded (_a _b : Int) : Option (List UInt8 × Unit) := none
/-- Not needed. -/
def r1_isLetters (_a : List UInt8) (_b : Bool) : Option (Bool × Unit) := none
/-- Not needed. -/
def r1_remainder (_a : List UInt8) (_b : Int) : Option (Int × Unit) := none
/-- Not needed. -/
def r1_taxDigit (_a : List UInt8) : Option (Int × Unit) := none
/-- Not needed. -/
def r1_values (_a : List UInt8) : Option (List UInt8 × Unit) := none

abbrev t_api_Content : Ty := (.st (.pair .str (.pair .str (.pair .str t_api_Decimal))))
abbrev D_api_Content : Type := (List UInt8) × (List UInt8) × (List UInt8) × D_api_Decimal

abbrev t_api_Parcel : Ty := (.st (.pair .str (.pair .str (.pair t_api_Decimal (.slice t_api_Content)))))
abbrev D_api_Parcel : Type := (List UInt8) × (List UInt8) × D_api_Decimal × (List D_api_Content)

abbrev t_api_Advice : Ty := (.st (.pair .str (.pair .str (.pair tI (.slice t_api_Parcel)))))
abbrev D_api_Advice : Type := (List UInt8) × (List UInt8) × Int × (List D_api_Parcel)

abbrev t_api_Mass : Ty := (.st (.pair .str (.pair .str t_api_Decimal)))
abbrev D_api_Mass : Type := (List UInt8) × (List UInt8) × D_api_Decimal

abbrev t_parcel_goods : Ty := (.st (.pair .str .str))
abbrev D_parcel_goods : Type := (List UInt8) × (List UInt8)

def amount_isKind (a0 : Int) : Option (Bool × Unit) :=
  Option.bind (kit_Outside a0 1 5) fun r1 =>
  some (!r1.1, ())

def amount_lengths (a0 : Int) : Option ((List Int) × Unit) :=
  bif a0 == 1 then
    some ([8, 12, 13, 14], ())
  else
    bif a0 == 2 then
      some ([13], ())
    else
      some ([18], ())

abbrev slices_Index_int_x2 : Type := (List Int) × Int × Int × Int × Unit
abbrev slices_Index_int_r2 : Type := ((Int × Unit) ⊕ Unit)
def slices_Index_int_b2  (x1 : slices_Index_int_x2) (again : slices_Index_int_x2 → Option slices_Index_int_r2) : Option slices_Index_int_r2 :=
  bif decide (x1.2.2.2.1 < x1.2.2.1) then
    Option.bind (idx x1.1 x1.2.2.2.1) fun y2 =>
    bif x1.2.1 == y2 then
      some (Sum.inl (x1.2.2.2.1, ()))
    else
      again (x1.1, x1.2.1, x1.2.2.1, w64 (x1.2.2.2.1 + 1), ())
  else
    some (Sum.inr ())

def slices_Index_int (a0 : List Int) (a1 : Int) : Option (Int × Unit) :=
  joinB (β := (Int × Unit)) (γ := Unit) (
    iter (X := slices_Index_int_x2) (β := slices_Index_int_r2) (List.length a0 + (Int.natAbs a1 + (Int.natAbs ((List.length a0 : Int)) + (Int.natAbs (0 : Int) + 2)))) (a0, a1, (List.length a0 : Int), 0, ()) (slices_Index_int_b2)) fun _ =>
  some ((-1), ())

def slices_Contains_int (a0 : List Int) (a1 : Int) : Option (Bool × Unit) :=
  Option.bind (slices_Index_int a0 a1) fun r1 =>
  some (decide (r1.1 ≥ 0), ())

abbrev kit_InBytes_x2 : Type := (List UInt8) × Int × Int × Int × Int × Unit
abbrev kit_InBytes_r2 : Type := ((Bool × Unit) ⊕ Unit)
def kit_InBytes_b2  (x1 : kit_InBytes_x2) (again : kit_InBytes_x2 → Option kit_InBytes_r2) : Option kit_InBytes_r2 :=
  bif decide (x1.2.2.2.2.1 < x1.2.2.2.1) then
    Option.bind (sidx x1.1 x1.2.2.2.2.1) fun c2 =>
    bif decide ((c2.toNat : Int) < x1.2.1) then
      some (Sum.inl (false, ()))
    else
      Option.bind (sidx x1.1 x1.2.2.2.2.1) fun c3 =>
      bif decide ((c3.toNat : Int) > x1.2.2.1) then
        some (Sum.inl (false, ()))
      else
        again (x1.1, x1.2.1, x1.2.2.1, x1.2.2.2.1, w64 (x1.2.2.2.2.1 + 1), ())
  else
    some (Sum.inr ())

def kit_InBytes (a0 : List UInt8) (a1 : Int) (a2 : Int) : Option (Bool × Unit) :=
  joinB (β := (Bool × Unit)) (γ := Unit) (
    iter (X := kit_InBytes_x2) (β := kit_InBytes_r2) (List.length a0 + (Int.natAbs a1 + (Int.natAbs a2 + (Int.natAbs ((List.length a0 : Int)) + (Int.natAbs (0 : Int) + 2))))) (a0, a1, a2, (List.length a0 : Int), 0, ()) (kit_InBytes_b2)) fun _ =>
  some (true, ())

def kit_IsDigits (a0 : List UInt8) : Option (Bool × Unit) :=
  bif !(a0 == []) then
    Option.bind (kit_InBytes a0 48 57) fun r1 =>
    some (r1.1, ())
  else
    some (false, ())

abbrev amount_isSum_x3 : Type := (List UInt8) × Int × Int × Int × Unit
abbrev amount_isSum_r3 : Type := ((Bool × Unit) ⊕ (Int × Unit))
def amount_isSum_b3  (x1 : amount_isSum_x3) (again : amount_isSum_x3 → Option amount_isSum_r3) : Option amount_isSum_r3 :=
  bif decide (x1.2.2.2.1 < x1.2.2.1) then
    let n2 : Int := w64 ((w64 (((List.length x1.1 : Int)) - 1)) - x1.2.2.2.1)
    Option.bind (sidx x1.1 n2) fun c3 =>
    bif (Int.tmod x1.2.2.2.1 2) == 1 then
      let n4 : Int := w64 ((w64 (wu8 ((c3.toNat : Int) - 48))) * 3)
      again (x1.1, w64 (x1.2.1 + n4), x1.2.2.1, w64 (x1.2.2.2.1 + 1), ())
    else
      let n5 : Int := w64 (x1.2.1 + (w64 (wu8 ((c3.toNat : Int) - 48))))
      again (x1.1, n5, x1.2.2.1, w64 (x1.2.2.2.1 + 1), ())
  else
    some (Sum.inr (x1.2.1, ()))

def amount_isSum (a0 : List UInt8) : Option (Bool × Unit) :=
  joinB (β := (Bool × Unit)) (γ := (Int × Unit)) (
    iter (X := amount_isSum_x3) (β := amount_isSum_r3) (List.length a0 + (Int.natAbs (0 : Int) + (Int.natAbs ((List.length a0 : Int)) + (Int.natAbs (0 : Int) + 2)))) (a0, 0, (List.length a0 : Int), 0, ()) (amount_isSum_b3)) fun v6 =>
  some ((Int.tmod v6.1 10) == 0, ())

def amount_isNumber (a0 : Int) (a1 : List UInt8) : Option (Bool × Unit) :=
  bif a0 == 4 then
    Option.bind (amount_isBank a1) fun r1 =>
    some (r1.1, ())
  else
    bif a0 == 5 then
      Option.bind (amount_isTax a1) fun r2 =>
      some (r2.1, ())
    else
      Option.bind (amount_lengths a0) fun r3 =>
      Option.bind (slices_Contains_int r3.1 ((List.length a1 : Int))) fun r4 =>
      bif r4.1 then
        Option.bind (kit_IsDigits a1) fun r5 =>
        bif r5.1 then
          Option.bind (amount_isSum a1) fun r6 =>
          some (r6.1, ())
        else
          some (false, ())
      else
        some (false, ())

def amount_IsNumber (a0 : Int) (a1 : List UInt8) : Option (Bool × Int × Unit) :=
  Option.bind (amount_isKind a0) fun r1 =>
  bif !r1.1 then
    some (false, 4, ())
  else
    Option.bind (amount_isNumber a0 a1) fun r2 =>
    some (r2.1, 0, ())

def parcel_isLabel (a0 : List UInt8) : Option (Bool × Unit) :=
  Option.bind (amount_IsNumber 3 a0) fun r1 =>
  some (r1.1, ())

def order_QuantityFault (a0 : D_api_Decimal) (a1 : Bool) : Option (Int × Unit) :=
  Option.bind (amount_CheckDecimal a0) fun r1 =>
  bif r1.1 != 0 then
    some (r1.1, ())
  else
    Option.bind (order_within a0 3 1000000000) fun r2 =>
    bif !r2.1 then
      some (1, ())
    else
      bif a0.1 == 0 then
        bif !a1 then
          some (1, ())
        else
          some (0, ())
      else
        some (0, ())

abbrev cmp_Or_int_x3 : Type := Int × (List Int) × Int × Int × Unit
abbrev cmp_Or_int_r3 : Type := ((Int × Unit) ⊕ (Int × Unit))
def cmp_Or_int_b3  (x1 : cmp_Or_int_x3) (again : cmp_Or_int_x3 → Option cmp_Or_int_r3) : Option cmp_Or_int_r3 :=
  bif decide (x1.2.2.2.1 < x1.2.2.1) then
    Option.bind (idx x1.2.1 x1.2.2.2.1) fun y2 =>
    bif y2 != x1.1 then
      some (Sum.inl (y2, ()))
    else
      again (x1.1, x1.2.1, x1.2.2.1, w64 (x1.2.2.2.1 + 1), ())
  else
    some (Sum.inr (x1.1, ()))

def cmp_Or_int (a0 : List Int) : Option (Int × Unit) :=
  joinB (β := (Int × Unit)) (γ := (Int × Unit)) (
    iter (X := cmp_Or_int_x3) (β := cmp_Or_int_r3) (Int.natAbs (0 : Int) + (List.length a0 + (Int.natAbs ((List.length a0 : Int)) + (Int.natAbs (0 : Int) + 2)))) (0, a0, (List.length a0 : Int), 0, ()) (cmp_Or_int_b3)) fun v3 =>
  some (v3.1, ())

def parcel_compareContents (a0 : D_api_Content) (a1 : D_api_Content) : Option (Int × Unit) :=
  Option.bind (strings_Compare a0.1 a1.1) fun r1 =>
  Option.bind (strings_Compare a0.2.1 a1.2.1) fun r2 =>
  Option.bind (strings_Compare a0.2.2.1 a1.2.2.1) fun r3 =>
  Option.bind (cmp_Or_int [r1.1, r2.1, r3.1]) fun r4 =>
  some (r4.1, ())

abbrev parcel_contentsFault_x4 : Type := (List D_api_Content) × (List D_api_Content) × Int × Int × Unit
abbrev parcel_contentsFault_r4 : Type := ((Int × Unit) ⊕ Unit)
def parcel_contentsFault_b4  (x1 : parcel_contentsFault_x4) (again : parcel_contentsFault_x4 → Option parcel_contentsFault_r4) : Option parcel_contentsFault_r4 :=
  bif decide (x1.2.2.2.1 < x1.2.2.1) then
    Option.bind (idx x1.2.1 x1.2.2.2.1) fun y2 =>
    Option.bind (kit_IsName y2.1) fun r3 =>
    bif !r3.1 then
      some (Sum.inl (5, ()))
    else
      Option.bind (kit_IsName y2.2.1) fun r4 =>
      bif !r4.1 then
        some (Sum.inl (5, ()))
      else
        bif !(y2.2.2.1 == []) then
          Option.bind (kit_IsName y2.2.2.1) fun r5 =>
          bif !r5.1 then
            some (Sum.inl (5, ()))
          else
            bif decide (x1.2.2.2.1 > 0) then
              Option.bind (idx x1.1 (w64 (x1.2.2.2.1 - 1))) fun y6 =>
              Option.bind (parcel_compareContents y6 y2) fun r7 =>
              bif decide (r7.1 ≥ 0) then
                some (Sum.inl (8, ()))
              else
                Option.bind (order_QuantityFault y2.2.2.2 false) fun r8 =>
                bif r8.1 != 0 then
                  some (Sum.inl (r8.1, ()))
                else
                  again (x1.1, x1.2.1, x1.2.2.1, w64 (x1.2.2.2.1 + 1), ())
            else
              Option.bind (order_QuantityFault y2.2.2.2 false) fun r9 =>
              bif r9.1 != 0 then
                some (Sum.inl (r9.1, ()))
              else
                again (x1.1, x1.2.1, x1.2.2.1, w64 (x1.2.2.2.1 + 1), ())
        else
          bif decide (x1.2.2.2.1 > 0) then
            Option.bind (idx x1.1 (w64 (x1.2.2.2.1 - 1))) fun y10 =>
            Option.bind (parcel_compareContents y10 y2) fun r11 =>
            bif decide (r11.1 ≥ 0) then
              some (Sum.inl (8, ()))
            else
              Option.bind (order_QuantityFault y2.2.2.2 false) fun r12 =>
              bif r12.1 != 0 then
                some (Sum.inl (r12.1, ()))
              else
                again (x1.1, x1.2.1, x1.2.2.1, w64 (x1.2.2.2.1 + 1), ())
          else
            Option.bind (order_QuantityFault y2.2.2.2 false) fun r13 =>
            bif r13.1 != 0 then
              some (Sum.inl (r13.1, ()))
            else
              again (x1.1, x1.2.1, x1.2.2.1, w64 (x1.2.2.2.1 + 1), ())
  else
    some (Sum.inr ())

def parcel_contentsFault (a0 : List D_api_Content) : Option (Int × Unit) :=
  bif decide (((List.length a0 : Int)) > 100) then
    some (2, ())
  else
    joinB (β := (Int × Unit)) (γ := Unit) (
      iter (X := parcel_contentsFault_x4) (β := parcel_contentsFault_r4) (List.length a0 + (List.length a0 + (Int.natAbs ((List.length a0 : Int)) + (Int.natAbs (0 : Int) + 2)))) (a0, a0, (List.length a0 : Int), 0, ()) (parcel_contentsFault_b4)) fun _ =>
    some (0, ())

def parcel_parcelFault (a0 : List D_api_Parcel) (a1 : Int) : Option (Int × Unit) :=
  Option.bind (idx a0 a1) fun y1 =>
  Option.bind (parcel_isLabel y1.1) fun r2 =>
  bif !r2.1 then
    some (3, ())
  else
    bif decide (a1 > 0) then
      Option.bind (idx a0 (w64 (a1 - 1))) fun y3 =>
      bif Op.bytesLess y1.1 y3.1 || y1.1 == y3.1 then
        some (8, ())
      else
        Option.bind (order_QuantityFault y1.2.2.1 true) fun r4 =>
        bif r4.1 != 0 then
          some (r4.1, ())
        else
          Option.bind (parcel_contentsFault y1.2.2.2) fun r5 =>
          some (r5.1, ())
    else
      Option.bind (order_QuantityFault y1.2.2.1 true) fun r6 =>
      bif r6.1 != 0 then
        some (r6.1, ())
      else
        Option.bind (parcel_contentsFault y1.2.2.2) fun r7 =>
        some (r7.1, ())

def parcel_parcelAt_1 (a0 : D_api_Parcel) (a1 : List UInt8) : Option (Int × Unit) :=
  Option.bind (strings_Compare a0.1 a1) fun r1 =>
  some (r1.1, ())

abbrev slices_BinarySearchFunc_api_Parcel_string_x3 : Type := (List D_api_Parcel) × (List UInt8) × Unit × Int × Int × Int × Unit
abbrev slices_BinarySearchFunc_api_Parcel_string_r3 : Type := ((Int × Bool × Unit) ⊕ ((List D_api_Parcel) × (List UInt8) × Unit × Int × Int × Unit))
def slices_BinarySearchFunc_api_Parcel_string_b3  (x1 : slices_BinarySearchFunc_api_Parcel_string_x3) (again : slices_BinarySearchFunc_api_Parcel_string_x3 → Option slices_BinarySearchFunc_api_Parcel_string_r3) : Option slices_BinarySearchFunc_api_Parcel_string_r3 :=
  bif decide (x1.2.2.2.2.1 < x1.2.2.2.2.2.1) then
    let n2 : Int := w64 (Int.fdiv (wu64 (w64 (x1.2.2.2.2.1 + x1.2.2.2.2.2.1))) (2 ^ 1))
    Option.bind (idx x1.1 n2) fun y3 =>
    Option.bind (parcel_parcelAt_1 y3 x1.2.1) fun r4 =>
    bif decide (r4.1 < 0) then
      again (x1.1, x1.2.1, x1.2.2.1, x1.2.2.2.1, w64 (n2 + 1), x1.2.2.2.2.2.1, ())
    else
      again (x1.1, x1.2.1, x1.2.2.1, x1.2.2.2.1, x1.2.2.2.2.1, n2, ())
  else
    some (Sum.inr (x1.1, x1.2.1, x1.2.2.1, x1.2.2.2.1, x1.2.2.2.2.1, ()))

def slices_BinarySearchFunc_api_Parcel_string (a0 : List D_api_Parcel) (a1 : List UInt8) (a2 : Unit) : Option (Int × Bool × Unit) :=
  joinB (β := (Int × Bool × Unit)) (γ := ((List D_api_Parcel) × (List UInt8) × Unit × Int × Int × Unit)) (
    iter (X := slices_BinarySearchFunc_api_Parcel_string_x3) (β := slices_BinarySearchFunc_api_Parcel_string_r3) (List.length a0 + (List.length a1 + (Int.natAbs ((List.length a0 : Int)) + (Int.natAbs (0 : Int) + (Int.natAbs ((List.length a0 : Int)) + 2))))) (a0, a1, a2, (List.length a0 : Int), 0, (List.length a0 : Int), ()) (slices_BinarySearchFunc_api_Parcel_string_b3)) fun v5 =>
  bif decide (v5.2.2.2.2.1 < v5.2.2.2.1) then
    Option.bind (idx v5.1 v5.2.2.2.2.1) fun y6 =>
    Option.bind (parcel_parcelAt_1 y6 v5.2.1) fun r7 =>
    some (v5.2.2.2.2.1, r7.1 == 0, ())
  else
    some (v5.2.2.2.2.1, false, ())

def parcel_parcelAt (a0 : D_api_Advice) (a1 : List UInt8) : Option (Int × Bool × Unit) :=
  Option.bind (slices_BinarySearchFunc_api_Parcel_string a0.2.2.2 a1 ()) fun r1 =>
  some (r1.1, r1.2.1, ())

abbrev parcel_around_x3 : Type := Int × (List Int) × Int × (List UInt8) × (List UInt8) × Int × (List D_api_Parcel) × Unit
abbrev parcel_around_r3 : Type := (((List Int) × Bool × Unit) ⊕ ((List Int) × Unit))
def parcel_around_b3  (x1 : parcel_around_x3) (again : parcel_around_x3 → Option parcel_around_r3) : Option parcel_around_r3 :=
  Option.bind (idx x1.2.2.2.2.2.2.1 x1.2.2.1) fun y2 =>
  bif !(y2.2.1 == []) then
    Option.bind (idx x1.2.2.2.2.2.2.1 x1.2.2.1) fun y3 =>
    Option.bind (parcel_parcelAt (x1.2.2.2.1, x1.2.2.2.2.1, x1.2.2.2.2.2.1, x1.2.2.2.2.2.2.1) y3.2.1) fun r4 =>
    bif r4.1 == x1.1 then
      some (Sum.inl ([], false, ()))
    else
      Option.bind (slices_Contains_int x1.2.1 r4.1) fun r5 =>
      bif r5.1 then
        some (Sum.inl (x1.2.1, true, ()))
      else
        chk (decide (((List.length x1.2.1) + 1) * 8 ≤ 140737488355328) && decide ((List.length x1.2.1) + 1 ≤ maxLen)) <|
        again (x1.1, x1.2.1 ++ [r4.1], r4.1, x1.2.2.2.1, x1.2.2.2.2.1, x1.2.2.2.2.2.1, x1.2.2.2.2.2.2.1, ())
  else
    some (Sum.inr (x1.2.1, ()))

def parcel_around (a0 : D_api_Advice) (a1 : Int) : Option ((List Int) × Bool × Unit) :=
  joinB (β := ((List Int) × Bool × Unit)) (γ := ((List Int) × Unit)) (
    iter (X := parcel_around_x3) (β := parcel_around_r3) (Int.natAbs a1 + (List.length ([] : List Int) + (Int.natAbs a1 + (List.length a0.1 + (List.length a0.2.1 + (Int.natAbs a0.2.2.1 + (List.length a0.2.2.2 + 2))))))) (a1, [], a1, a0.1, a0.2.1, a0.2.2.1, a0.2.2.2, ()) (parcel_around_b3)) fun v6 =>
  some (v6.1, true, ())

abbrev parcel_nestFault_x2 : Type := (List D_api_Parcel) × Int × Int × (List UInt8) × (List UInt8) × Int × (List D_api_Parcel) × Unit
abbrev parcel_nestFault_r2 : Type := ((Int × Unit) ⊕ ((List UInt8) × (List UInt8) × Int × (List D_api_Parcel) × Unit))
def parcel_nestFault_b2  (x1 : parcel_nestFault_x2) (again : parcel_nestFault_x2 → Option parcel_nestFault_r2) : Option parcel_nestFault_r2 :=
  bif decide (x1.2.2.1 < x1.2.1) then
    Option.bind (idx x1.1 x1.2.2.1) fun y2 =>
    Option.bind (parcel_parcelAt (x1.2.2.2.1, x1.2.2.2.2.1, x1.2.2.2.2.2.1, x1.2.2.2.2.2.2.1) y2.2.1) fun r3 =>
    bif !(y2.2.1 == []) then
      bif !r3.2.1 then
        some (Sum.inl (9, ()))
      else
        again (x1.1, x1.2.1, w64 (x1.2.2.1 + 1), x1.2.2.2.1, x1.2.2.2.2.1, x1.2.2.2.2.2.1, x1.2.2.2.2.2.2.1, ())
    else
      again (x1.1, x1.2.1, w64 (x1.2.2.1 + 1), x1.2.2.2.1, x1.2.2.2.2.1, x1.2.2.2.2.2.1, x1.2.2.2.2.2.2.1, ())
  else
    some (Sum.inr (x1.2.2.2.1, x1.2.2.2.2.1, x1.2.2.2.2.2.1, x1.2.2.2.2.2.2.1, ()))

abbrev parcel_nestFault_x9 : Type := Int × Int × (List UInt8) × (List UInt8) × Int × (List D_api_Parcel) × Unit
abbrev parcel_nestFault_r9 : Type := ((Int × Unit) ⊕ ((List UInt8) × (List UInt8) × Int × (List D_api_Parcel) × Unit))
def parcel_nestFault_b9  (x1 : parcel_nestFault_x9) (again : parcel_nestFault_x9 → Option parcel_nestFault_r9) : Option parcel_nestFault_r9 :=
  bif decide (x1.2.1 < x1.1) then
    Option.bind (parcel_around (x1.2.2.1, x1.2.2.2.1, x1.2.2.2.2.1, x1.2.2.2.2.2.1) x1.2.1) fun r2 =>
    bif !r2.2.1 then
      some (Sum.inl (17, ()))
    else
      again (x1.1, w64 (x1.2.1 + 1), x1.2.2.1, x1.2.2.2.1, x1.2.2.2.2.1, x1.2.2.2.2.2.1, ())
  else
    some (Sum.inr (x1.2.2.1, x1.2.2.2.1, x1.2.2.2.2.1, x1.2.2.2.2.2.1, ()))

abbrev parcel_nestFault_x16 : Type := Int × Int × (List UInt8) × (List UInt8) × Int × (List D_api_Parcel) × Unit
abbrev parcel_nestFault_r16 : Type := ((Int × Unit) ⊕ Unit)
def parcel_nestFault_b16  (x1 : parcel_nestFault_x16) (again : parcel_nestFault_x16 → Option parcel_nestFault_r16) : Option parcel_nestFault_r16 :=
  bif decide (x1.2.1 < x1.1) then
    Option.bind (parcel_around (x1.2.2.1, x1.2.2.2.1, x1.2.2.2.2.1, x1.2.2.2.2.2.1) x1.2.1) fun r2 =>
    bif decide (((List.length r2.1 : Int)) > 5) then
      some (Sum.inl (2, ()))
    else
      again (x1.1, w64 (x1.2.1 + 1), x1.2.2.1, x1.2.2.2.1, x1.2.2.2.2.1, x1.2.2.2.2.2.1, ())
  else
    some (Sum.inr ())

def parcel_nestFault (a0 : D_api_Advice) : Option (Int × Unit) :=
  joinB (β := (Int × Unit)) (γ := ((List UInt8) × (List UInt8) × Int × (List D_api_Parcel) × Unit)) (
    iter (X := parcel_nestFault_x2) (β := parcel_nestFault_r2) (List.length a0.2.2.2 + (Int.natAbs ((List.length a0.2.2.2 : Int)) + (Int.natAbs (0 : Int) + (List.length a0.1 + (List.length a0.2.1 + (Int.natAbs a0.2.2.1 + (List.length a0.2.2.2 + 2))))))) (a0.2.2.2, (List.length a0.2.2.2 : Int), 0, a0.1, a0.2.1, a0.2.2.1, a0.2.2.2, ()) (parcel_nestFault_b2)) fun v4 =>
  joinB (β := (Int × Unit)) (γ := ((List UInt8) × (List UInt8) × Int × (List D_api_Parcel) × Unit)) (
    iter (X := parcel_nestFault_x9) (β := parcel_nestFault_r9) (Int.natAbs ((List.length v4.2.2.2.1 : Int)) + (Int.natAbs (0 : Int) + (List.length v4.1 + (List.length v4.2.1 + (Int.natAbs v4.2.2.1 + (List.length v4.2.2.2.1 + 2)))))) ((List.length v4.2.2.2.1 : Int), 0, v4.1, v4.2.1, v4.2.2.1, v4.2.2.2.1, ()) (parcel_nestFault_b9)) fun v7 =>
  joinB (β := (Int × Unit)) (γ := Unit) (
    iter (X := parcel_nestFault_x16) (β := parcel_nestFault_r16) (Int.natAbs ((List.length v7.2.2.2.1 : Int)) + (Int.natAbs (0 : Int) + (List.length v7.1 + (List.length v7.2.1 + (Int.natAbs v7.2.2.1 + (List.length v7.2.2.2.1 + 2)))))) ((List.length v7.2.2.2.1 : Int), 0, v7.1, v7.2.1, v7.2.2.1, v7.2.2.2.1, ()) (parcel_nestFault_b16)) fun _ =>
  some (0, ())

abbrev parcel_CheckAdvice_x8 : Type := Int × Int × (List UInt8) × (List UInt8) × Int × (List D_api_Parcel) × Unit
abbrev parcel_CheckAdvice_r8 : Type := ((Int × Unit) ⊕ ((List UInt8) × (List UInt8) × Int × (List D_api_Parcel) × Unit))
def parcel_CheckAdvice_b8  (x1 : parcel_CheckAdvice_x8) (again : parcel_CheckAdvice_x8 → Option parcel_CheckAdvice_r8) : Option parcel_CheckAdvice_r8 :=
  bif decide (x1.2.1 < x1.1) then
    Option.bind (parcel_parcelFault x1.2.2.2.2.2.1 x1.2.1) fun r2 =>
    bif r2.1 != 0 then
      some (Sum.inl (r2.1, ()))
    else
      again (x1.1, w64 (x1.2.1 + 1), x1.2.2.1, x1.2.2.2.1, x1.2.2.2.2.1, x1.2.2.2.2.2.1, ())
  else
    some (Sum.inr (x1.2.2.1, x1.2.2.2.1, x1.2.2.2.2.1, x1.2.2.2.2.2.1, ()))

def parcel_CheckAdvice (a0 : D_api_Advice) : Option (Int × Unit) :=
  Option.bind (kit_IsName a0.1) fun r1 =>
  bif !r1.1 then
    some (5, ())
  else
    Option.bind (kit_IsName a0.2.1) fun r2 =>
    bif !r2.1 then
      some (5, ())
    else
      Option.bind (kit_IsDay a0.2.2.1) fun r3 =>
      bif !r3.1 then
        some (1, ())
      else
        bif decide (((List.length a0.2.2.2 : Int)) > 500) then
          some (2, ())
        else
          joinB (β := (Int × Unit)) (γ := ((List UInt8) × (List UInt8) × Int × (List D_api_Parcel) × Unit)) (
            iter (X := parcel_CheckAdvice_x8) (β := parcel_CheckAdvice_r8) (Int.natAbs ((List.length a0.2.2.2 : Int)) + (Int.natAbs (0 : Int) + (List.length a0.1 + (List.length a0.2.1 + (Int.natAbs a0.2.2.1 + (List.length a0.2.2.2 + 2)))))) ((List.length a0.2.2.2 : Int), 0, a0.1, a0.2.1, a0.2.2.1, a0.2.2.2, ()) (parcel_CheckAdvice_b8)) fun v6 =>
          Option.bind (parcel_nestFault (v6.1, v6.2.1, v6.2.2.1, v6.2.2.2.1)) fun r7 =>
          some (r7.1, ())

def parcel_labelFault (a0 : D_api_Advice) (a1 : List UInt8) (a2 : Bool) : Option (Int × Unit) :=
  Option.bind (parcel_CheckAdvice a0) fun r1 =>
  bif r1.1 != 0 then
    some (r1.1, ())
  else
    Option.bind (parcel_parcelAt a0 a1) fun r2 =>
    bif !r2.2.1 then
      bif a2 then
        bif !(a1 == []) then
          some (9, ())
        else
          some (0, ())
      else
        some (9, ())
    else
      some (0, ())

def parcel_isWithin_1 (a0 : Int) (a1 : D_api_Advice) (a2 : List UInt8) : Option (Bool × Unit) :=
  Option.bind (idx a1.2.2.2 a0) fun y1 =>
  some (y1.1 == a2, ())

abbrev slices_IndexFunc_int_x2 : Type := (List Int) × (D_api_Advice × (List UInt8)) × Int × Int × Unit
abbrev slices_IndexFunc_int_r2 : Type := ((Int × Unit) ⊕ Unit)
def slices_IndexFunc_int_b2  (x1 : slices_IndexFunc_int_x2) (again : slices_IndexFunc_int_x2 → Option slices_IndexFunc_int_r2) : Option slices_IndexFunc_int_r2 :=
  bif decide (x1.2.2.2.1 < x1.2.2.1) then
    Option.bind (idx x1.1 x1.2.2.2.1) fun y2 =>
    Option.bind (parcel_isWithin_1 y2 x1.2.1.1 x1.2.1.2) fun r3 =>
    bif r3.1 then
      some (Sum.inl (x1.2.2.2.1, ()))
    else
      again (x1.1, x1.2.1, x1.2.2.1, w64 (x1.2.2.2.1 + 1), ())
  else
    some (Sum.inr ())

def slices_IndexFunc_int (a0 : List Int) (a1 : D_api_Advice × (List UInt8)) : Option (Int × Unit) :=
  joinB (β := (Int × Unit)) (γ := Unit) (
    iter (X := slices_IndexFunc_int_x2) (β := slices_IndexFunc_int_r2) (List.length a0 + (Int.natAbs ((List.length a0 : Int)) + (Int.natAbs (0 : Int) + 2))) (a0, a1, (List.length a0 : Int), 0, ()) (slices_IndexFunc_int_b2)) fun _ =>
  some ((-1), ())

def slices_ContainsFunc_int (a0 : List Int) (a1 : D_api_Advice × (List UInt8)) : Option (Bool × Unit) :=
  Option.bind (slices_IndexFunc_int a0 a1) fun r1 =>
  some (decide (r1.1 ≥ 0), ())

def parcel_isWithin (a0 : D_api_Advice) (a1 : Int) (a2 : List UInt8) : Option (Bool × Unit) :=
  Option.bind (parcel_around a0 a1) fun r1 =>
  Option.bind (slices_ContainsFunc_int r1.1 (a0, a2)) fun r2 =>
  some (r2.1, ())

def r1_isKind (a0 : Int) : Option (Bool × Unit) :=
  Option.bind (r1_within a0 1 5) fun r1 =>
  some (r1.1, ())

abbrev r1_isDigits_x4 : Type := (List UInt8) × Int × Int × Unit
abbrev r1_isDigits_r4 : Type := ((Bool × Unit) ⊕ Unit)
def r1_isDigits_b4  (x1 : r1_isDigits_x4) (again : r1_isDigits_x4 → Option r1_isDigits_r4) : Option r1_isDigits_r4 :=
  bif decide (x1.2.2.1 < x1.2.1) then
    Option.bind (sidx x1.1 x1.2.2.1) fun c2 =>
    bif decide ((c2.toNat : Int) < 48) then
      some (Sum.inl (false, ()))
    else
      Option.bind (sidx x1.1 x1.2.2.1) fun c3 =>
      bif decide ((c3.toNat : Int) > 57) then
        some (Sum.inl (false, ()))
      else
        again (x1.1, x1.2.1, w64 (x1.2.2.1 + 1), ())
  else
    some (Sum.inr ())

def r1_isDigits (a0 : List UInt8) : Option (Bool × Unit) :=
  bif a0 == [] then
    some (false, ())
  else
    joinB (β := (Bool × Unit)) (γ := Unit) (
      iter (X := r1_isDigits_x4) (β := r1_isDigits_r4) (List.length a0 + (Int.natAbs ((List.length a0 : Int)) + (Int.natAbs (0 : Int) + 2))) (a0, (List.length a0 : Int), 0, ()) (r1_isDigits_b4)) fun _ =>
    some (true, ())

abbrev r1_threes_x3 : Type := (List UInt8) × Int × Int × Int × Unit
abbrev r1_threes_r3 : Type := ((Bool × Unit) ⊕ (Int × Unit))
def r1_threes_b3  (x1 : r1_threes_x3) (again : r1_threes_x3 → Option r1_threes_r3) : Option r1_threes_r3 :=
  bif decide (x1.2.2.2.1 < x1.2.2.1) then
    let n2 : Int := w64 ((w64 (((List.length x1.1 : Int)) - 1)) - x1.2.2.2.1)
    Option.bind (sidx x1.1 n2) fun c3 =>
    bif (Int.tmod x1.2.2.2.1 2) == 1 then
      let n4 : Int := w64 ((w64 (wu8 ((c3.toNat : Int) - 48))) * 3)
      again (x1.1, w64 (x1.2.1 + n4), x1.2.2.1, w64 (x1.2.2.2.1 + 1), ())
    else
      let n5 : Int := w64 (x1.2.1 + (w64 (wu8 ((c3.toNat : Int) - 48))))
      again (x1.1, n5, x1.2.2.1, w64 (x1.2.2.2.1 + 1), ())
  else
    some (Sum.inr (x1.2.1, ()))

def r1_threes (a0 : List UInt8) : Option (Bool × Unit) :=
  joinB (β := (Bool × Unit)) (γ := (Int × Unit)) (
    iter (X := r1_threes_x3) (β := r1_threes_r3) (List.length a0 + (Int.natAbs (0 : Int) + (Int.natAbs ((List.length a0 : Int)) + (Int.natAbs (0 : Int) + 2)))) (a0, 0, (List.length a0 : Int), 0, ()) (r1_threes_b3)) fun v6 =>
  some ((Int.tmod v6.1 10) == 0, ())

def r1_isNumber (a0 : Int) (a1 : List UInt8) : Option (Bool × Unit) :=
  bif a0 == 1 then
    Option.bind (r1_isDigits a1) fun r1 =>
    bif r1.1 then
      bif ((List.length a1 : Int)) == 8 then
        Option.bind (r1_threes a1) fun r2 =>
        some (r2.1, ())
      else
        bif decide (((List.length a1 : Int)) ≥ 12) then
          bif decide (((List.length a1 : Int)) ≤ 14) then
            Option.bind (r1_threes a1) fun r3 =>
            some (r3.1, ())
          else
            some (false, ())
        else
          some (false, ())
    else
      some (false, ())
  else
    bif a0 == 2 then
      Option.bind (r1_isDigits a1) fun r4 =>
      bif r4.1 then
        bif ((List.length a1 : Int)) == 13 then
          Option.bind (r1_threes a1) fun r5 =>
          some (r5.1, ())
        else
          some (false, ())
      else
        some (false, ())
    else
      bif a0 == 3 then
        Option.bind (r1_isDigits a1) fun r6 =>
        bif r6.1 then
          bif ((List.length a1 : Int)) == 18 then
            Option.bind (r1_threes a1) fun r7 =>
            some (r7.1, ())
          else
            some (false, ())
        else
          some (false, ())
      else
        bif a0 == 4 then
          Option.bind (r1_within ((List.length a1 : Int)) 15 34) fun r8 =>
          bif !r8.1 then
            some (false, ())
          else
            chk (decide (0 ≤ (0 : Int)) && decide ((0 : Int) ≤ 2) && decide (2 ≤ (List.length a1 : Int))) <|
            Option.bind (r1_isLetters (List.drop 0 (List.take (Int.toNat 2) a1)) false) fun r9 =>
            bif !r9.1 then
              some (false, ())
            else
              chk (decide (0 ≤ (2 : Int)) && decide ((2 : Int) ≤ 4) && decide (4 ≤ (List.length a1 : Int))) <|
              Option.bind (r1_isDigits (List.drop 2 (List.take (Int.toNat 4) a1))) fun r10 =>
              bif !r10.1 then
                some (false, ())
              else
                chk (decide (0 ≤ (4 : Int)) && decide ((4 : Int) ≤ ((List.length a1 : Int))) && decide (((List.length a1 : Int)) ≤ (List.length a1 : Int))) <|
                Option.bind (r1_isLetters (List.drop 4 (List.take (Int.toNat ((List.length a1 : Int))) a1)) true) fun r11 =>
                bif !r11.1 then
                  some (false, ())
                else
                  chk (decide (0 ≤ (2 : Int)) && decide ((2 : Int) ≤ 4) && decide (4 ≤ (List.length a1 : Int))) <|
                  bif !(Op.bytesLess (List.drop 2 (List.take (Int.toNat 4) a1)) [48, 50]) then
                    chk (decide (0 ≤ (2 : Int)) && decide ((2 : Int) ≤ 4) && decide (4 ≤ (List.length a1 : Int))) <|
                    bif Op.bytesLess (List.drop 2 (List.take (Int.toNat 4) a1)) [57, 56] || (List.drop 2 (List.take (Int.toNat 4) a1)) == [57, 56] then
                      chk (decide (0 ≤ (4 : Int)) && decide ((4 : Int) ≤ ((List.length a1 : Int))) && decide (((List.length a1 : Int)) ≤ (List.length a1 : Int))) <|
                      chk (decide (0 ≤ (0 : Int)) && decide ((0 : Int) ≤ 4) && decide (4 ≤ (List.length a1 : Int))) <|
                      chk (decide (List.length (List.drop 4 (List.take (Int.toNat ((List.length a1 : Int))) a1)) + List.length (List.drop 0 (List.take (Int.toNat 4) a1)) ≤ maxLen)) <|
                      Option.bind (r1_values ((List.drop 4 (List.take (Int.toNat ((List.length a1 : Int))) a1)) ++ (List.drop 0 (List.take (Int.toNat 4) a1)))) fun r12 =>
                      Option.bind (r1_remainder r12.1 97) fun r13 =>
                      some (r13.1 == 1, ())
                    else
                      some (false, ())
                  else
                    some (false, ())
        else
          Option.bind (r1_isDigits a1) fun r14 =>
          bif r14.1 then
            bif ((List.length a1 : Int)) == 11 then
              Option.bind (sidx a1 0) fun c15 =>
              bif (c15.toNat : Int) != 48 then
                Option.bind (sidx a1 10) fun c16 =>
                Option.bind (r1_taxDigit a1) fun r17 =>
                some ((c16.toNat : Int) == r17.1, ())
              else
                some (false, ())
            else
              some (false, ())
          else
            some (false, ())

def r1_IsNumber (a0 : Int) (a1 : List UInt8) : Option (Bool × Int × Unit) :=
  Option.bind (r1_isKind a0) fun r1 =>
  bif !r1.1 then
    some (false, 4, ())
  else
    Option.bind (r1_isNumber a0 a1) fun r2 =>
    some (r2.1, 0, ())

def r10_isLabel (a0 : List UInt8) : Option (Bool × Unit) :=
  Option.bind (r1_IsNumber 3 a0) fun r1 =>
  some (r1.1, ())

def r10_cmp (a0 : D_api_Decimal) (a1 : D_api_Decimal) : Option (Int × Unit) :=
  Option.bind (r1_At a0 9) fun r1 =>
  Option.bind (r1_At a1 9) fun r2 =>
  Option.bind (r1_Cmp r1.1 r2.1) fun r3 =>
  some (r3.1, ())

def r10_isMass (a0 : D_api_Decimal) (a1 : Bool) : Option (Bool × Unit) :=
  Option.bind (r1_CheckDecimal a0) fun r1 =>
  bif r1.1 == 0 then
    bif decide (a0.1 ≥ 0) then
      bif decide (a0.1 > 0) then
        Option.bind (r10_cmp a0 (1000000000, 0)) fun r2 =>
        bif decide (r2.1 ≤ 0) then
          some (decide (a0.2 ≤ 3), ())
        else
          some (false, ())
      else
        bif !a1 then
          Option.bind (r10_cmp a0 (1000000000, 0)) fun r3 =>
          bif decide (r3.1 ≤ 0) then
            some (decide (a0.2 ≤ 3), ())
          else
            some (false, ())
        else
          some (false, ())
    else
      some (false, ())
  else
    some (false, ())

abbrev r10_contentOrder_x2 : Type := (List Int) × Int × Int × Unit
abbrev r10_contentOrder_r2 : Type := ((Int × Unit) ⊕ Unit)
def r10_contentOrder_b2  (x1 : r10_contentOrder_x2) (again : r10_contentOrder_x2 → Option r10_contentOrder_r2) : Option r10_contentOrder_r2 :=
  bif decide (x1.2.2.1 < x1.2.1) then
    Option.bind (idx x1.1 x1.2.2.1) fun y2 =>
    bif y2 != 0 then
      some (Sum.inl (y2, ()))
    else
      again (x1.1, x1.2.1, w64 (x1.2.2.1 + 1), ())
  else
    some (Sum.inr ())

def r10_contentOrder (a0 : D_api_Content) (a1 : D_api_Content) : Option (Int × Unit) :=
  Option.bind (strings_Compare a0.1 a1.1) fun r1 =>
  Option.bind (strings_Compare a0.2.1 a1.2.1) fun r2 =>
  Option.bind (strings_Compare a0.2.2.1 a1.2.2.1) fun r3 =>
  joinB (β := (Int × Unit)) (γ := Unit) (
    iter (X := r10_contentOrder_x2) (β := r10_contentOrder_r2) (List.length [r1.1, r2.1, r3.1] + (Int.natAbs ((List.length [r1.1, r2.1, r3.1] : Int)) + (Int.natAbs (0 : Int) + 2))) ([r1.1, r2.1, r3.1], (List.length [r1.1, r2.1, r3.1] : Int), 0, ()) (r10_contentOrder_b2)) fun _ =>
  some (0, ())

abbrev r10_checkContents_x4 : Type := (List D_api_Content) × (List D_api_Content) × Int × Int × Unit
abbrev r10_checkContents_r4 : Type := ((Int × Unit) ⊕ Unit)
def r10_checkContents_b4  (x1 : r10_checkContents_x4) (again : r10_checkContents_x4 → Option r10_checkContents_r4) : Option r10_checkContents_r4 :=
  bif decide (x1.2.2.2.1 < x1.2.2.1) then
    Option.bind (idx x1.2.1 x1.2.2.2.1) fun y2 =>
    Option.bind (r1_IsName y2.1) fun r3 =>
    bif !r3.1 then
      some (Sum.inl (5, ()))
    else
      Option.bind (r1_IsName y2.2.1) fun r4 =>
      bif !r4.1 then
        some (Sum.inl (5, ()))
      else
        bif !(y2.2.2.1 == []) then
          Option.bind (r1_IsName y2.2.2.1) fun r5 =>
          bif !r5.1 then
            some (Sum.inl (5, ()))
          else
            bif decide (x1.2.2.2.1 > 0) then
              Option.bind (idx x1.1 (w64 (x1.2.2.2.1 - 1))) fun y6 =>
              Option.bind (r10_contentOrder y6 y2) fun r7 =>
              bif decide (r7.1 ≥ 0) then
                some (Sum.inl (8, ()))
              else
                Option.bind (r10_isMass y2.2.2.2 true) fun r8 =>
                bif !r8.1 then
                  some (Sum.inl (1, ()))
                else
                  again (x1.1, x1.2.1, x1.2.2.1, w64 (x1.2.2.2.1 + 1), ())
            else
              Option.bind (r10_isMass y2.2.2.2 true) fun r9 =>
              bif !r9.1 then
                some (Sum.inl (1, ()))
              else
                again (x1.1, x1.2.1, x1.2.2.1, w64 (x1.2.2.2.1 + 1), ())
        else
          bif decide (x1.2.2.2.1 > 0) then
            Option.bind (idx x1.1 (w64 (x1.2.2.2.1 - 1))) fun y10 =>
            Option.bind (r10_contentOrder y10 y2) fun r11 =>
            bif decide (r11.1 ≥ 0) then
              some (Sum.inl (8, ()))
            else
              Option.bind (r10_isMass y2.2.2.2 true) fun r12 =>
              bif !r12.1 then
                some (Sum.inl (1, ()))
              else
                again (x1.1, x1.2.1, x1.2.2.1, w64 (x1.2.2.2.1 + 1), ())
          else
            Option.bind (r10_isMass y2.2.2.2 true) fun r13 =>
            bif !r13.1 then
              some (Sum.inl (1, ()))
            else
              again (x1.1, x1.2.1, x1.2.2.1, w64 (x1.2.2.2.1 + 1), ())
  else
    some (Sum.inr ())

def r10_checkContents (a0 : List D_api_Content) : Option (Int × Unit) :=
  bif decide (((List.length a0 : Int)) > 100) then
    some (2, ())
  else
    joinB (β := (Int × Unit)) (γ := Unit) (
      iter (X := r10_checkContents_x4) (β := r10_checkContents_r4) (List.length a0 + (List.length a0 + (Int.natAbs ((List.length a0 : Int)) + (Int.natAbs (0 : Int) + 2)))) (a0, a0, (List.length a0 : Int), 0, ()) (r10_checkContents_b4)) fun _ =>
    some (0, ())

abbrev r10_parcelOf_x2 : Type := (List UInt8) × (List D_api_Parcel) × Int × Int × Unit
abbrev r10_parcelOf_r2 : Type := ((Int × Unit) ⊕ Unit)
def r10_parcelOf_b2  (x1 : r10_parcelOf_x2) (again : r10_parcelOf_x2 → Option r10_parcelOf_r2) : Option r10_parcelOf_r2 :=
  bif decide (x1.2.2.2.1 < x1.2.2.1) then
    Option.bind (idx x1.2.1 x1.2.2.2.1) fun y2 =>
    bif y2.1 == x1.1 then
      some (Sum.inl (x1.2.2.2.1, ()))
    else
      again (x1.1, x1.2.1, x1.2.2.1, w64 (x1.2.2.2.1 + 1), ())
  else
    some (Sum.inr ())

def r10_parcelOf (a0 : List D_api_Parcel) (a1 : List UInt8) : Option (Int × Unit) :=
  joinB (β := (Int × Unit)) (γ := Unit) (
    iter (X := r10_parcelOf_x2) (β := r10_parcelOf_r2) (List.length a1 + (List.length a0 + (Int.natAbs ((List.length a0 : Int)) + (Int.natAbs (0 : Int) + 2)))) (a1, a0, (List.length a0 : Int), 0, ()) (r10_parcelOf_b2)) fun _ =>
  some ((-1), ())

abbrev r10_loops_x3 : Type := (List D_api_Parcel) × Int × Int × Int × Int × Unit
abbrev r10_loops_r3 : Type := ((Bool × Unit) ⊕ Unit)
def r10_loops_b3  (x1 : r10_loops_x3) (again : r10_loops_x3 → Option r10_loops_r3) : Option r10_loops_r3 :=
  bif decide (x1.2.2.2.2.1 < x1.2.2.2.1) then
    Option.bind (idx x1.1 x1.2.2.1) fun y2 =>
    bif y2.2.1 == [] then
      some (Sum.inl (false, ()))
    else
      Option.bind (idx x1.1 x1.2.2.1) fun y3 =>
      Option.bind (r10_parcelOf x1.1 y3.2.1) fun r4 =>
      bif r4.1 == x1.2.1 then
        some (Sum.inl (true, ()))
      else
        again (x1.1, x1.2.1, r4.1, x1.2.2.2.1, w64 (x1.2.2.2.2.1 + 1), ())
  else
    some (Sum.inr ())

def r10_loops (a0 : List D_api_Parcel) (a1 : Int) : Option (Bool × Unit) :=
  joinB (β := (Bool × Unit)) (γ := Unit) (
    iter (X := r10_loops_x3) (β := r10_loops_r3) (List.length a0 + (Int.natAbs a1 + (Int.natAbs a1 + (Int.natAbs ((List.length a0 : Int)) + (Int.natAbs (0 : Int) + 2))))) (a0, a1, a1, (List.length a0 : Int), 0, ()) (r10_loops_b3)) fun _ =>
  some (false, ())

abbrev r10_up_x2 : Type := (List D_api_Parcel) × Int × (List Int) × Unit
abbrev r10_up_r2 : Type := (((List Int) × Bool × Unit) ⊕ ((List Int) × Unit))
def r10_up_b2  (x1 : r10_up_x2) (again : r10_up_x2 → Option r10_up_r2) : Option r10_up_r2 :=
  Option.bind (idx x1.1 x1.2.1) fun y2 =>
  bif !(y2.2.1 == []) then
    Option.bind (idx x1.1 x1.2.1) fun y3 =>
    Option.bind (r10_parcelOf x1.1 y3.2.1) fun r4 =>
    bif decide (((List.length x1.2.2.1 : Int)) > ((List.length x1.1 : Int))) then
      some (Sum.inl ([], false, ()))
    else
      chk (decide (((List.length x1.2.2.1) + 1) * 8 ≤ 140737488355328) && decide ((List.length x1.2.2.1) + 1 ≤ maxLen)) <|
      again (x1.1, r4.1, x1.2.2.1 ++ [r4.1], ())
  else
    some (Sum.inr (x1.2.2.1, ()))

def r10_up (a0 : List D_api_Parcel) (a1 : Int) : Option ((List Int) × Bool × Unit) :=
  joinB (β := ((List Int) × Bool × Unit)) (γ := ((List Int) × Unit)) (
    iter (X := r10_up_x2) (β := r10_up_r2) (List.length a0 + (Int.natAbs a1 + (List.length ([a1] : List Int) + 2))) (a0, a1, [a1], ()) (r10_up_b2)) fun v5 =>
  some (v5.1, true, ())

abbrev r10_nests_x2 : Type := (List D_api_Parcel) × (List D_api_Parcel) × Int × Int × Unit
abbrev r10_nests_r2 : Type := ((Int × Unit) ⊕ ((List D_api_Parcel) × Unit))
def r10_nests_b2  (x1 : r10_nests_x2) (again : r10_nests_x2 → Option r10_nests_r2) : Option r10_nests_r2 :=
  bif decide (x1.2.2.2.1 < x1.2.2.1) then
    Option.bind (idx x1.2.1 x1.2.2.2.1) fun y2 =>
    bif !(y2.2.1 == []) then
      Option.bind (r10_parcelOf x1.1 y2.2.1) fun r3 =>
      bif decide (r3.1 < 0) then
        some (Sum.inl (9, ()))
      else
        again (x1.1, x1.2.1, x1.2.2.1, w64 (x1.2.2.2.1 + 1), ())
    else
      again (x1.1, x1.2.1, x1.2.2.1, w64 (x1.2.2.2.1 + 1), ())
  else
    some (Sum.inr (x1.1, ()))

abbrev r10_nests_x8 : Type := (List D_api_Parcel) × Int × Int × Unit
abbrev r10_nests_r8 : Type := ((Int × Unit) ⊕ ((List D_api_Parcel) × Unit))
def r10_nests_b8  (x1 : r10_nests_x8) (again : r10_nests_x8 → Option r10_nests_r8) : Option r10_nests_r8 :=
  bif decide (x1.2.2.1 < x1.2.1) then
    Option.bind (r10_loops x1.1 x1.2.2.1) fun r2 =>
    bif r2.1 then
      some (Sum.inl (17, ()))
    else
      again (x1.1, x1.2.1, w64 (x1.2.2.1 + 1), ())
  else
    some (Sum.inr (x1.1, ()))

abbrev r10_nests_x14 : Type := (List D_api_Parcel) × Int × Int × Unit
abbrev r10_nests_r14 : Type := ((Int × Unit) ⊕ Unit)
def r10_nests_b14  (x1 : r10_nests_x14) (again : r10_nests_x14 → Option r10_nests_r14) : Option r10_nests_r14 :=
  bif decide (x1.2.2.1 < x1.2.1) then
    Option.bind (r10_up x1.1 x1.2.2.1) fun r2 =>
    bif !r2.2.1 then
      some (Sum.inl (2, ()))
    else
      bif decide ((w64 (((List.length r2.1 : Int)) - 1)) > 5) then
        some (Sum.inl (2, ()))
      else
        again (x1.1, x1.2.1, w64 (x1.2.2.1 + 1), ())
  else
    some (Sum.inr ())

def r10_nests (a0 : List D_api_Parcel) : Option (Int × Unit) :=
  joinB (β := (Int × Unit)) (γ := ((List D_api_Parcel) × Unit)) (
    iter (X := r10_nests_x2) (β := r10_nests_r2) (List.length a0 + (List.length a0 + (Int.natAbs ((List.length a0 : Int)) + (Int.natAbs (0 : Int) + 2)))) (a0, a0, (List.length a0 : Int), 0, ()) (r10_nests_b2)) fun v4 =>
  joinB (β := (Int × Unit)) (γ := ((List D_api_Parcel) × Unit)) (
    iter (X := r10_nests_x8) (β := r10_nests_r8) (List.length v4.1 + (Int.natAbs ((List.length v4.1 : Int)) + (Int.natAbs (0 : Int) + 2))) (v4.1, (List.length v4.1 : Int), 0, ()) (r10_nests_b8)) fun v7 =>
  joinB (β := (Int × Unit)) (γ := Unit) (
    iter (X := r10_nests_x14) (β := r10_nests_r14) (List.length v7.1 + (Int.natAbs ((List.length v7.1 : Int)) + (Int.natAbs (0 : Int) + 2))) (v7.1, (List.length v7.1 : Int), 0, ()) (r10_nests_b14)) fun _ =>
  some (0, ())

abbrev r10_CheckAdvice_x8 : Type := (List D_api_Parcel) × Int × Int × (List UInt8) × (List UInt8) × Int × (List D_api_Parcel) × Unit
abbrev r10_CheckAdvice_r8 : Type := ((Int × Unit) ⊕ ((List UInt8) × (List UInt8) × Int × (List D_api_Parcel) × Unit))
def r10_CheckAdvice_b8  (x1 : r10_CheckAdvice_x8) (again : r10_CheckAdvice_x8 → Option r10_CheckAdvice_r8) : Option r10_CheckAdvice_r8 :=
  bif decide (x1.2.2.1 < x1.2.1) then
    Option.bind (idx x1.1 x1.2.2.1) fun y2 =>
    Option.bind (r10_isLabel y2.1) fun r3 =>
    bif !r3.1 then
      some (Sum.inl (3, ()))
    else
      bif decide (x1.2.2.1 > 0) then
        Option.bind (idx x1.2.2.2.2.2.2.1 (w64 (x1.2.2.1 - 1))) fun y4 =>
        bif Op.bytesLess y2.1 y4.1 || y2.1 == y4.1 then
          some (Sum.inl (8, ()))
        else
          Option.bind (r10_isMass y2.2.2.1 false) fun r5 =>
          bif !r5.1 then
            some (Sum.inl (1, ()))
          else
            Option.bind (r10_checkContents y2.2.2.2) fun r6 =>
            bif r6.1 != 0 then
              some (Sum.inl (r6.1, ()))
            else
              again (x1.1, x1.2.1, w64 (x1.2.2.1 + 1), x1.2.2.2.1, x1.2.2.2.2.1, x1.2.2.2.2.2.1, x1.2.2.2.2.2.2.1, ())
      else
        Option.bind (r10_isMass y2.2.2.1 false) fun r7 =>
        bif !r7.1 then
          some (Sum.inl (1, ()))
        else
          Option.bind (r10_checkContents y2.2.2.2) fun r8 =>
          bif r8.1 != 0 then
            some (Sum.inl (r8.1, ()))
          else
            again (x1.1, x1.2.1, w64 (x1.2.2.1 + 1), x1.2.2.2.1, x1.2.2.2.2.1, x1.2.2.2.2.2.1, x1.2.2.2.2.2.2.1, ())
  else
    some (Sum.inr (x1.2.2.2.1, x1.2.2.2.2.1, x1.2.2.2.2.2.1, x1.2.2.2.2.2.2.1, ()))

def r10_CheckAdvice (a0 : D_api_Advice) : Option (Int × Unit) :=
  Option.bind (r1_IsName a0.1) fun r1 =>
  bif !r1.1 then
    some (5, ())
  else
    Option.bind (r1_IsName a0.2.1) fun r2 =>
    bif !r2.1 then
      some (5, ())
    else
      Option.bind (r1_IsDay a0.2.2.1) fun r3 =>
      bif !r3.1 then
        some (1, ())
      else
        bif decide (((List.length a0.2.2.2 : Int)) > 500) then
          some (2, ())
        else
          joinB (β := (Int × Unit)) (γ := ((List UInt8) × (List UInt8) × Int × (List D_api_Parcel) × Unit)) (
            iter (X := r10_CheckAdvice_x8) (β := r10_CheckAdvice_r8) (List.length a0.2.2.2 + (Int.natAbs ((List.length a0.2.2.2 : Int)) + (Int.natAbs (0 : Int) + (List.length a0.1 + (List.length a0.2.1 + (Int.natAbs a0.2.2.1 + (List.length a0.2.2.2 + 2))))))) (a0.2.2.2, (List.length a0.2.2.2 : Int), 0, a0.1, a0.2.1, a0.2.2.1, a0.2.2.2, ()) (r10_CheckAdvice_b8)) fun v12 =>
          Option.bind (r10_nests v12.2.2.2.1) fun r13 =>
          some (r13.1, ())

abbrev r10_inside_x3 : Type := (List D_api_Parcel) × (List UInt8) × (List Int) × Int × Int × Unit
abbrev r10_inside_r3 : Type := (((List Int) × Unit) ⊕ ((List Int) × Unit))
def r10_inside_b3  (x1 : r10_inside_x3) (again : r10_inside_x3 → Option r10_inside_r3) : Option r10_inside_r3 :=
  bif decide (x1.2.2.2.2.1 < x1.2.2.2.1) then
    Option.bind (r10_up x1.1 x1.2.2.2.2.1) fun r2 =>
    bif x1.2.1 == [] then
      chk (decide (((List.length x1.2.2.1) + 1) * 8 ≤ 140737488355328) && decide ((List.length x1.2.2.1) + 1 ≤ maxLen)) <|
      again (x1.1, x1.2.1, x1.2.2.1 ++ [x1.2.2.2.2.1], x1.2.2.2.1, w64 (x1.2.2.2.2.1 + 1), ())
    else
      Option.bind (r10_parcelOf x1.1 x1.2.1) fun r3 =>
      Option.bind (slices_Contains_int r2.1 r3.1) fun r4 =>
      bif r4.1 then
        chk (decide (((List.length x1.2.2.1) + 1) * 8 ≤ 140737488355328) && decide ((List.length x1.2.2.1) + 1 ≤ maxLen)) <|
        again (x1.1, x1.2.1, x1.2.2.1 ++ [x1.2.2.2.2.1], x1.2.2.2.1, w64 (x1.2.2.2.2.1 + 1), ())
      else
        again (x1.1, x1.2.1, x1.2.2.1, x1.2.2.2.1, w64 (x1.2.2.2.2.1 + 1), ())
  else
    some (Sum.inr (x1.2.2.1, ()))

def r10_inside (a0 : List D_api_Parcel) (a1 : List UInt8) : Option ((List Int) × Unit) :=
  joinB (β := ((List Int) × Unit)) (γ := ((List Int) × Unit)) (
    iter (X := r10_inside_x3) (β := r10_inside_r3) (List.length a0 + (List.length a1 + (List.length ([] : List Int) + (Int.natAbs ((List.length a0 : Int)) + (Int.natAbs (0 : Int) + 2))))) (a0, a1, [], (List.length a0 : Int), 0, ()) (r10_inside_b3)) fun v5 =>
  some (v5.1, ())

abbrev parcel_room_x5 : Type := Int × Int × Int × Unit
abbrev parcel_room_r5 : Type := ((Int × Bool × Unit) ⊕ (Int × Unit))
def parcel_room_b5  (x1 : parcel_room_x5) (again : parcel_room_x5 → Option parcel_room_r5) : Option parcel_room_r5 :=
  bif decide (x1.2.2.1 < x1.2.1) then
    again (w64 (x1.1 * 10), x1.2.1, w64 (x1.2.2.1 + 1), ())
  else
    some (Sum.inr (x1.1, ()))

def parcel_room (a0 : List UInt8) : Option (Int × Bool × Unit) :=
  bif decide (((List.length a0 : Int)) > 15) then
    some (0, false, ())
  else
    Option.bind (kit_IsDigits a0) fun r1 =>
    bif !r1.1 then
      some (0, false, ())
    else
      joinB (β := (Int × Bool × Unit)) (γ := (Int × Unit)) (
        iter (X := parcel_room_x5) (β := parcel_room_r5) (Int.natAbs (1 : Int) + (Int.natAbs (w64 (17 - ((List.length a0 : Int)))) + (Int.natAbs (0 : Int) + 2))) (1, w64 (17 - ((List.length a0 : Int))), 0, ()) (parcel_room_b5)) fun v3 =>
      some (v3.1, true, ())

abbrev amount_Completed_x16 : Type := Int × (List UInt8) × Int × Unit
abbrev amount_Completed_r16 : Type := (((List UInt8) × Int × Unit) ⊕ Unit)
def amount_Completed_b16  (x1 : amount_Completed_x16) (again : amount_Completed_x16 → Option amount_Completed_r16) : Option amount_Completed_r16 :=
  bif decide (x1.2.2.1 < 10) then
    Option.bind (strconv_Itoa x1.2.2.1) fun r2 =>
    chk (decide (List.length x1.2.1 + List.length r2.1 ≤ maxLen)) <|
    Option.bind (amount_isNumber x1.1 (x1.2.1 ++ r2.1)) fun r3 =>
    bif r3.1 then
      some (Sum.inl (x1.2.1 ++ r2.1, 0, ()))
    else
      again (x1.1, x1.2.1, w64 (x1.2.2.1 + 1), ())
  else
    some (Sum.inr ())

def amount_Completed (a0 : Int) (a1 : List UInt8) : Option ((List UInt8) × Int × Unit) :=
  Option.bind (amount_isKind a0) fun r1 =>
  bif !r1.1 then
    some ([], 4, ())
  else
    bif decide (((List.length a1 : Int)) > 34) then
      some ([], 3, ())
    else
      bif a0 == 4 then
        bif decide (((List.length a1 : Int)) < 2) then
          some ([], 3, ())
        else
          Option.bind (amount_isBody a1) fun r2 =>
          bif !r2.1 then
            some ([], 3, ())
          else
            bif decide (((List.length a1 : Int)) < 13) then
              some ([], 3, ())
            else
              chk (decide (0 ≤ (0 : Int)) && decide ((0 : Int) ≤ 2) && decide (2 ≤ (List.length a1 : Int))) <|
              chk (decide (List.length (List.drop 0 (List.take (Int.toNat 2) a1)) + List.length [48, 48] ≤ maxLen)) <|
              chk (decide (0 ≤ (2 : Int)) && decide ((2 : Int) ≤ ((List.length a1 : Int))) && decide (((List.length a1 : Int)) ≤ (List.length a1 : Int))) <|
              chk (decide (List.length ((List.drop 0 (List.take (Int.toNat 2) a1)) ++ [48, 48]) + List.length (List.drop 2 (List.take (Int.toNat ((List.length a1 : Int))) a1)) ≤ maxLen)) <|
              Option.bind (amount_bankRestOf (((List.drop 0 (List.take (Int.toNat 2) a1)) ++ [48, 48]) ++ (List.drop 2 (List.take (Int.toNat ((List.length a1 : Int))) a1)))) fun r3 =>
              chk (decide (0 ≤ (0 : Int)) && decide ((0 : Int) ≤ 2) && decide (2 ≤ (List.length a1 : Int))) <|
              Option.bind (amount_padded (w64 (98 - r3.1)) 2) fun r4 =>
              chk (decide (List.length (List.drop 0 (List.take (Int.toNat 2) a1)) + List.length r4.1 ≤ maxLen)) <|
              chk (decide (0 ≤ (2 : Int)) && decide ((2 : Int) ≤ ((List.length a1 : Int))) && decide (((List.length a1 : Int)) ≤ (List.length a1 : Int))) <|
              chk (decide (List.length ((List.drop 0 (List.take (Int.toNat 2) a1)) ++ r4.1) + List.length (List.drop 2 (List.take (Int.toNat ((List.length a1 : Int))) a1)) ≤ maxLen)) <|
              Option.bind (amount_isBank (((List.drop 0 (List.take (Int.toNat 2) a1)) ++ r4.1) ++ (List.drop 2 (List.take (Int.toNat ((List.length a1 : Int))) a1)))) fun r5 =>
              bif !r5.1 then
                some ([], 3, ())
              else
                some (((List.drop 0 (List.take (Int.toNat 2) a1)) ++ r4.1) ++ (List.drop 2 (List.take (Int.toNat ((List.length a1 : Int))) a1)), 0, ())
      else
        joinB (β := ((List UInt8) × Int × Unit)) (γ := Unit) (
          iter (X := amount_Completed_x16) (β := amount_Completed_r16) (Int.natAbs a0 + (List.length a1 + (Int.natAbs (0 : Int) + 2))) (a0, a1, 0, ()) (amount_Completed_b16)) fun _ =>
        some ([], 3, ())

def parcel_LabelOf (a0 : List UInt8) (a1 : Int) : Option ((List UInt8) × Int × Unit) :=
  Option.bind (parcel_room a0) fun r1 =>
  bif !r1.2.1 then
    some ([], 3, ())
  else
    Option.bind (kit_Outside a1 0 (w64 (r1.1 - 1))) fun r2 =>
    bif r2.1 then
      some ([], 1, ())
    else
      Option.bind (strconv_Itoa a1) fun r3 =>
      let n4 : Int := w64 ((w64 (17 - ((List.length a0 : Int)))) - ((List.length r3.1 : Int)))
      Option.bind (strings_Repeat [48] n4) fun r5 =>
      chk (decide (List.length a0 + List.length r5.1 ≤ maxLen)) <|
      chk (decide (List.length (a0 ++ r5.1) + List.length r3.1 ≤ maxLen)) <|
      Option.bind (amount_Completed 3 ((a0 ++ r5.1) ++ r3.1)) fun r6 =>
      some (r6.1, r6.2.1, ())

def l10_awake  : Option (Bool × Unit) :=
  Option.bind (parcel_LabelOf [51, 52, 48, 49, 50, 51, 52, 53] 1) fun r1 =>
  bif r1.2.1 == 0 then
    some (r1.1 == [51, 52, 48, 49, 50, 51, 52, 53, 48, 48, 48, 48, 48, 48, 48, 48, 49, 55], ())
  else
    some (false, ())

end Go.Md

namespace Go.Md
open Go.Dn

abbrev parcel_CheckMasses_x4 : Type := (List D_api_Mass) × (List D_api_Mass) × Int × Int × Unit
abbrev parcel_CheckMasses_r4 : Type := ((Int × Unit) ⊕ Unit)
def parcel_CheckMasses_b4  (x1 : parcel_CheckMasses_x4) (again : parcel_CheckMasses_x4 → Option parcel_CheckMasses_r4) : Option parcel_CheckMasses_r4 :=
  bif decide (x1.2.2.2.1 < x1.2.2.1) then
    Option.bind (idx x1.2.1 x1.2.2.2.1) fun y2 =>
    Option.bind (kit_IsName y2.1) fun r3 =>
    bif !r3.1 then
      some (Sum.inl (5, ()))
    else
      Option.bind (kit_IsName y2.2.1) fun r4 =>
      bif !r4.1 then
        some (Sum.inl (5, ()))
      else
        bif decide (x1.2.2.2.1 > 0) then
          Option.bind (idx x1.1 (w64 (x1.2.2.2.1 - 1))) fun y5 =>
          Option.bind (strings_Compare y5.1 y2.1) fun r6 =>
          Option.bind (idx x1.1 (w64 (x1.2.2.2.1 - 1))) fun y7 =>
          Option.bind (strings_Compare y7.2.1 y2.2.1) fun r8 =>
          Option.bind (cmp_Or_int [r6.1, r8.1]) fun r9 =>
          bif decide (r9.1 ≥ 0) then
            some (Sum.inl (8, ()))
          else
            Option.bind (order_QuantityFault y2.2.2 true) fun r10 =>
            bif r10.1 != 0 then
              some (Sum.inl (r10.1, ()))
            else
              again (x1.1, x1.2.1, x1.2.2.1, w64 (x1.2.2.2.1 + 1), ())
        else
          Option.bind (order_QuantityFault y2.2.2 true) fun r11 =>
          bif r11.1 != 0 then
            some (Sum.inl (r11.1, ()))
          else
            again (x1.1, x1.2.1, x1.2.2.1, w64 (x1.2.2.2.1 + 1), ())
  else
    some (Sum.inr ())

def parcel_CheckMasses (a0 : List D_api_Mass) : Option (Int × Unit) :=
  bif decide (((List.length a0 : Int)) > 500) then
    some (2, ())
  else
    joinB (β := (Int × Unit)) (γ := Unit) (
      iter (X := parcel_CheckMasses_x4) (β := parcel_CheckMasses_r4) (List.length a0 + (List.length a0 + (Int.natAbs ((List.length a0 : Int)) + (Int.natAbs (0 : Int) + 2)))) (a0, a0, (List.length a0 : Int), 0, ()) (parcel_CheckMasses_b4)) fun _ =>
    some (0, ())

def parcel_belongs (a0 : D_api_Advice) (a1 : Int) (a2 : List UInt8) : Option (Bool × Unit) :=
  bif a2 == [] then
    some (true, ())
  else
    Option.bind (idx a0.2.2.2 a1) fun y1 =>
    bif y1.1 == a2 then
      some (true, ())
    else
      Option.bind (parcel_isWithin a0 a1 a2) fun r2 =>
      some (r2.1, ())

abbrev parcel_weighed_x3 : Type := (List D_api_Parcel) × (List D_api_Mass) × Int × Int × Bool × (List Int) × (List (D_parcel_goods × D_api_Decimal)) × Unit
abbrev parcel_weighed_r3 : Type := ((D_whole_Int × Bool × Unit) ⊕ ((List D_api_Parcel) × Bool × (List Int) × (List (D_parcel_goods × D_api_Decimal)) × Unit))
def parcel_weighed_b3  (x1 : parcel_weighed_x3) (again : parcel_weighed_x3 → Option parcel_weighed_r3) : Option parcel_weighed_r3 :=
  bif decide (x1.2.2.2.1 < x1.2.2.1) then
    Option.bind (idx x1.2.1 x1.2.2.2.1) fun y2 =>
    again (x1.1, x1.2.1, x1.2.2.1, w64 (x1.2.2.2.1 + 1), x1.2.2.2.2.1, x1.2.2.2.2.2.1, mset (k := t_parcel_goods) (v := t_api_Decimal) x1.2.2.2.2.2.2.1 (y2.1, y2.2.1) y2.2.2, ())
  else
    some (Sum.inr (x1.1, x1.2.2.2.2.1, x1.2.2.2.2.2.1, x1.2.2.2.2.2.2.1, ()))

abbrev parcel_weighed_x13 : Type := (List D_api_Parcel) × Int × Int × (List D_api_Content) × Int × Int × Bool × (List Int) × Bool × (List Int) × (List (D_parcel_goods × D_api_Decimal)) × Unit
abbrev parcel_weighed_r13 : Type := (((D_whole_Int × Bool × Unit) ⊕ (Bool × (List Int) × Bool × (List Int) × Unit)) ⊕ ((List D_api_Parcel) × Int × Int × Bool × (List Int) × Bool × (List Int) × (List (D_parcel_goods × D_api_Decimal)) × Unit))
def parcel_weighed_b13  (x1 : parcel_weighed_x13) (again : parcel_weighed_x13 → Option parcel_weighed_r13) : Option parcel_weighed_r13 :=
  bif decide (x1.2.2.2.2.2.1 < x1.2.2.2.2.1) then
    Option.bind (idx x1.2.2.2.1 x1.2.2.2.2.2.1) fun y2 =>
    bif !(Option.isSome (mget (k := t_parcel_goods) (v := t_api_Decimal) x1.2.2.2.2.2.2.2.2.2.2.1 (y2.1, y2.2.1))) then
      inlM <|
        some (Sum.inl ((x1.2.2.2.2.2.2.2.2.1, x1.2.2.2.2.2.2.2.2.2.1), false, ()))
    else
      Option.bind (amount_Scaled y2.2.2.2 3) fun r3 =>
      Option.bind (amount_Scaled (Option.getD (mget (k := t_parcel_goods) (v := t_api_Decimal) x1.2.2.2.2.2.2.2.2.2.2.1 (y2.1, y2.2.1)) (0, 0)) 3) fun r4 =>
      Option.bind (whole_Int_Times r3.1 r4.1) fun r5 =>
      Option.bind (whole_Int_Plus (x1.2.2.2.2.2.2.2.2.1, x1.2.2.2.2.2.2.2.2.2.1) r5.1) fun r6 =>
      again (x1.1, x1.2.1, x1.2.2.1, x1.2.2.2.1, x1.2.2.2.2.1, w64 (x1.2.2.2.2.2.1 + 1), x1.2.2.2.2.2.2.1, x1.2.2.2.2.2.2.2.1, r6.1.1, r6.1.2, x1.2.2.2.2.2.2.2.2.2.2.1, ())
  else
    some (Sum.inr (x1.1, x1.2.1, x1.2.2.1, x1.2.2.2.2.2.2.1, x1.2.2.2.2.2.2.2.1, x1.2.2.2.2.2.2.2.2.1, x1.2.2.2.2.2.2.2.2.2.1, x1.2.2.2.2.2.2.2.2.2.2.1, ()))

abbrev parcel_weighed_x9 : Type := (List D_api_Parcel) × Int × Int × Bool × (List Int) × Bool × (List Int) × (List (D_parcel_goods × D_api_Decimal)) × Unit
abbrev parcel_weighed_r9 : Type := ((D_whole_Int × Bool × Unit) ⊕ (Bool × (List Int) × Bool × (List Int) × Unit))
def parcel_weighed_b9  (x1 : parcel_weighed_x9) (again : parcel_weighed_x9 → Option parcel_weighed_r9) : Option parcel_weighed_r9 :=
  bif decide (x1.2.2.1 < x1.2.1) then
    Option.bind (idx x1.1 x1.2.2.1) fun y2 =>
    Option.bind (amount_Scaled y2.2.2.1 6) fun r3 =>
    Option.bind (whole_Int_Plus (x1.2.2.2.2.2.1, x1.2.2.2.2.2.2.1) r3.1) fun r4 =>
    joinB (β := ((D_whole_Int × Bool × Unit) ⊕ (Bool × (List Int) × Bool × (List Int) × Unit))) (γ := ((List D_api_Parcel) × Int × Int × Bool × (List Int) × Bool × (List Int) × (List (D_parcel_goods × D_api_Decimal)) × Unit)) (
      iter (X := parcel_weighed_x13) (β := parcel_weighed_r13) (List.length x1.1 + (Int.natAbs x1.2.1 + (Int.natAbs x1.2.2.1 + (List.length y2.2.2.2 + (Int.natAbs ((List.length y2.2.2.2 : Int)) + (Int.natAbs (0 : Int) + (List.length x1.2.2.2.2.1 + (List.length r4.1.2 + (List.length x1.2.2.2.2.2.2.2.1 + 2))))))))) (x1.1, x1.2.1, x1.2.2.1, y2.2.2.2, (List.length y2.2.2.2 : Int), 0, x1.2.2.2.1, x1.2.2.2.2.1, r4.1.1, r4.1.2, x1.2.2.2.2.2.2.2.1, ()) (parcel_weighed_b13)) fun v5 =>
    again (v5.1, v5.2.1, w64 (v5.2.2.1 + 1), v5.2.2.2.1, v5.2.2.2.2.1, v5.2.2.2.2.2.1, v5.2.2.2.2.2.2.1, v5.2.2.2.2.2.2.2.1, ())
  else
    some (Sum.inr (x1.2.2.2.1, x1.2.2.2.2.1, x1.2.2.2.2.2.1, x1.2.2.2.2.2.2.1, ()))

def parcel_weighed (a0 : List D_api_Parcel) (a1 : List D_api_Mass) : Option (D_whole_Int × Bool × Unit) :=
  joinB (β := (D_whole_Int × Bool × Unit)) (γ := ((List D_api_Parcel) × Bool × (List Int) × (List (D_parcel_goods × D_api_Decimal)) × Unit)) (
    iter (X := parcel_weighed_x3) (β := parcel_weighed_r3) (List.length a0 + (List.length a1 + (Int.natAbs ((List.length a1 : Int)) + (Int.natAbs (0 : Int) + (List.length ([] : List Int) + (List.length ([] : List (D_parcel_goods × D_api_Decimal)) + 2)))))) (a0, a1, (List.length a1 : Int), 0, false, [], [], ()) (parcel_weighed_b3)) fun v3 =>
  Option.bind (whole_Of 0) fun r4 =>
  joinB (β := (D_whole_Int × Bool × Unit)) (γ := (Bool × (List Int) × Bool × (List Int) × Unit)) (
    iter (X := parcel_weighed_x9) (β := parcel_weighed_r9) (List.length v3.1 + (Int.natAbs ((List.length v3.1 : Int)) + (Int.natAbs (0 : Int) + (List.length v3.2.2.1 + (List.length r4.1.2 + (List.length v3.2.2.2.1 + 2)))))) (v3.1, (List.length v3.1 : Int), 0, v3.2.1, v3.2.2.1, r4.1.1, r4.1.2, v3.2.2.2.1, ()) (parcel_weighed_b9)) fun v16 =>
  some ((v16.2.2.1, v16.2.2.2.1), true, ())

abbrev parcel_Weight_x12 : Type := (List D_api_Mass) × (List UInt8) × (List D_api_Parcel) × (List D_api_Parcel) × Int × Int × (List UInt8) × (List UInt8) × Int × (List D_api_Parcel) × Int × Int × Unit
abbrev parcel_Weight_r12 : Type := ((D_api_Decimal × Int × Unit) ⊕ ((List D_api_Mass) × (List D_api_Parcel) × Int × Int × Unit))
def parcel_Weight_b12  (x1 : parcel_Weight_x12) (again : parcel_Weight_x12 → Option parcel_Weight_r12) : Option parcel_Weight_r12 :=
  bif decide (x1.2.2.2.2.2.1 < x1.2.2.2.2.1) then
    Option.bind (idx x1.2.2.2.1 x1.2.2.2.2.2.1) fun y2 =>
    Option.bind (parcel_belongs (x1.2.2.2.2.2.2.1, x1.2.2.2.2.2.2.2.1, x1.2.2.2.2.2.2.2.2.1, x1.2.2.2.2.2.2.2.2.2.1) x1.2.2.2.2.2.1 x1.2.1) fun r3 =>
    bif r3.1 then
      chk (decide (((List.length x1.2.2.1) + 1) * 72 ≤ 140737488355328) && decide ((List.length x1.2.2.1) + 1 ≤ maxLen)) <|
      again (x1.1, x1.2.1, x1.2.2.1 ++ [y2], x1.2.2.2.1, x1.2.2.2.2.1, w64 (x1.2.2.2.2.2.1 + 1), x1.2.2.2.2.2.2.1, x1.2.2.2.2.2.2.2.1, x1.2.2.2.2.2.2.2.2.1, x1.2.2.2.2.2.2.2.2.2.1, x1.2.2.2.2.2.2.2.2.2.2.1, x1.2.2.2.2.2.2.2.2.2.2.2.1, ())
    else
      again (x1.1, x1.2.1, x1.2.2.1, x1.2.2.2.1, x1.2.2.2.2.1, w64 (x1.2.2.2.2.2.1 + 1), x1.2.2.2.2.2.2.1, x1.2.2.2.2.2.2.2.1, x1.2.2.2.2.2.2.2.2.1, x1.2.2.2.2.2.2.2.2.2.1, x1.2.2.2.2.2.2.2.2.2.2.1, x1.2.2.2.2.2.2.2.2.2.2.2.1, ())
  else
    some (Sum.inr (x1.1, x1.2.2.1, x1.2.2.2.2.2.2.2.2.2.2.1, x1.2.2.2.2.2.2.2.2.2.2.2.1, ()))

def parcel_Weight (a0 : D_api_Advice) (a1 : List D_api_Mass) (a2 : List UInt8) : Option (D_api_Decimal × Int × Unit) :=
  Option.bind (parcel_CheckAdvice a0) fun r1 =>
  bif r1.1 != 0 then
    some ((0, 0), r1.1, ())
  else
    Option.bind (parcel_CheckMasses a1) fun r2 =>
    bif r2.1 != 0 then
      some ((0, 0), r2.1, ())
    else
      Option.bind (parcel_labelFault a0 a2 true) fun r3 =>
      bif r3.1 != 0 then
        some ((0, 0), r3.1, ())
      else
        joinB (β := (D_api_Decimal × Int × Unit)) (γ := ((List D_api_Mass) × (List D_api_Parcel) × Int × Int × Unit)) (
          iter (X := parcel_Weight_x12) (β := parcel_Weight_r12) (List.length a1 + (List.length a2 + (List.length ([] : List D_api_Parcel) + (List.length a0.2.2.2 + (Int.natAbs ((List.length a0.2.2.2 : Int)) + (Int.natAbs (0 : Int) + (List.length a0.1 + (List.length a0.2.1 + (Int.natAbs a0.2.2.1 + (List.length a0.2.2.2 + (Int.natAbs (0 : Int) + (Int.natAbs (0 : Int) + 2)))))))))))) (a1, a2, [], a0.2.2.2, (List.length a0.2.2.2 : Int), 0, a0.1, a0.2.1, a0.2.2.1, a0.2.2.2, 0, 0, ()) (parcel_Weight_b12)) fun v7 =>
        Option.bind (parcel_weighed v7.2.1 v7.1) fun r8 =>
        bif !r8.2.1 then
          some ((0, 0), 5, ())
        else
          Option.bind (amount_Fewest r8.1 6) fun r9 =>
          some (r9.1, r9.2.1, ())

abbrev r10_CheckMasses_x4 : Type := (List D_api_Mass) × (List D_api_Mass) × Int × Int × Unit
abbrev r10_CheckMasses_r4 : Type := ((Int × Unit) ⊕ Unit)
def r10_CheckMasses_b4  (x1 : r10_CheckMasses_x4) (again : r10_CheckMasses_x4 → Option r10_CheckMasses_r4) : Option r10_CheckMasses_r4 :=
  bif decide (x1.2.2.2.1 < x1.2.2.1) then
    Option.bind (idx x1.2.1 x1.2.2.2.1) fun y2 =>
    Option.bind (r1_IsName y2.1) fun r3 =>
    bif !r3.1 then
      some (Sum.inl (5, ()))
    else
      Option.bind (r1_IsName y2.2.1) fun r4 =>
      bif !r4.1 then
        some (Sum.inl (5, ()))
      else
        bif decide (x1.2.2.2.1 > 0) then
          Option.bind (idx x1.1 (w64 (x1.2.2.2.1 - 1))) fun y5 =>
          bif Op.bytesLess y2.1 y5.1 then
            some (Sum.inl (8, ()))
          else
            Option.bind (idx x1.1 (w64 (x1.2.2.2.1 - 1))) fun y6 =>
            bif y2.1 == y6.1 then
              Option.bind (idx x1.1 (w64 (x1.2.2.2.1 - 1))) fun y7 =>
              bif Op.bytesLess y2.2.1 y7.2.1 || y2.2.1 == y7.2.1 then
                some (Sum.inl (8, ()))
              else
                Option.bind (r10_isMass y2.2.2 false) fun r8 =>
                bif !r8.1 then
                  some (Sum.inl (1, ()))
                else
                  again (x1.1, x1.2.1, x1.2.2.1, w64 (x1.2.2.2.1 + 1), ())
            else
              Option.bind (r10_isMass y2.2.2 false) fun r9 =>
              bif !r9.1 then
                some (Sum.inl (1, ()))
              else
                again (x1.1, x1.2.1, x1.2.2.1, w64 (x1.2.2.2.1 + 1), ())
        else
          Option.bind (r10_isMass y2.2.2 false) fun r10 =>
          bif !r10.1 then
            some (Sum.inl (1, ()))
          else
            again (x1.1, x1.2.1, x1.2.2.1, w64 (x1.2.2.2.1 + 1), ())
  else
    some (Sum.inr ())

def r10_CheckMasses (a0 : List D_api_Mass) : Option (Int × Unit) :=
  bif decide (((List.length a0 : Int)) > 500) then
    some (2, ())
  else
    joinB (β := (Int × Unit)) (γ := Unit) (
      iter (X := r10_CheckMasses_x4) (β := r10_CheckMasses_r4) (List.length a0 + (List.length a0 + (Int.natAbs ((List.length a0 : Int)) + (Int.natAbs (0 : Int) + 2)))) (a0, a0, (List.length a0 : Int), 0, ()) (r10_CheckMasses_b4)) fun _ =>
    some (0, ())

def r10_units (a0 : D_api_Decimal) : Option (D_interchangeref1_Num × Unit) :=
  Option.bind (r1_At a0 9) fun r1 =>
  some (r1.1, ())

abbrev r10_massOf_x2 : Type := (List UInt8) × (List UInt8) × (List D_api_Mass) × Int × Int × Unit
abbrev r10_massOf_r2 : Type := ((Int × Unit) ⊕ Unit)
def r10_massOf_b2  (x1 : r10_massOf_x2) (again : r10_massOf_x2 → Option r10_massOf_r2) : Option r10_massOf_r2 :=
  bif decide (x1.2.2.2.2.1 < x1.2.2.2.1) then
    Option.bind (idx x1.2.2.1 x1.2.2.2.2.1) fun y2 =>
    bif y2.1 == x1.1 then
      bif y2.2.1 == x1.2.1 then
        some (Sum.inl (x1.2.2.2.2.1, ()))
      else
        again (x1.1, x1.2.1, x1.2.2.1, x1.2.2.2.1, w64 (x1.2.2.2.2.1 + 1), ())
    else
      again (x1.1, x1.2.1, x1.2.2.1, x1.2.2.2.1, w64 (x1.2.2.2.2.1 + 1), ())
  else
    some (Sum.inr ())

def r10_massOf (a0 : List D_api_Mass) (a1 : List UInt8) (a2 : List UInt8) : Option (Int × Unit) :=
  joinB (β := (Int × Unit)) (γ := Unit) (
    iter (X := r10_massOf_x2) (β := r10_massOf_r2) (List.length a1 + (List.length a2 + (List.length a0 + (Int.natAbs ((List.length a0 : Int)) + (Int.natAbs (0 : Int) + 2))))) (a1, a2, a0, (List.length a0 : Int), 0, ()) (r10_massOf_b2)) fun _ =>
  some ((-1), ())

abbrev r10_weigh_x7 : Type := (List D_api_Parcel) × (List D_api_Mass) × (List Int) × Int × Int × (List D_api_Content) × Int × Int × Bool × (List Int) × Bool × (List Int) × Unit
abbrev r10_weigh_r7 : Type := (((D_interchangeref1_Num × Bool × Unit) ⊕ (Bool × (List Int) × Bool × (List Int) × Unit)) ⊕ ((List D_api_Parcel) × (List D_api_Mass) × (List Int) × Int × Int × Bool × (List Int) × Bool × (List Int) × Unit))
def r10_weigh_b7  (x1 : r10_weigh_x7) (again : r10_weigh_x7 → Option r10_weigh_r7) : Option r10_weigh_r7 :=
  bif decide (x1.2.2.2.2.2.2.2.1 < x1.2.2.2.2.2.2.1) then
    Option.bind (idx x1.2.2.2.2.2.1 x1.2.2.2.2.2.2.2.1) fun y2 =>
    Option.bind (r10_massOf x1.2.1 y2.1 y2.2.1) fun r3 =>
    bif decide (r3.1 < 0) then
      inlM <|
        some (Sum.inl ((x1.2.2.2.2.2.2.2.2.2.2.1, x1.2.2.2.2.2.2.2.2.2.2.2.1), false, ()))
    else
      Option.bind (idx x1.2.1 r3.1) fun y4 =>
      Option.bind (r1_Of y2.2.2.2.1) fun r5 =>
      Option.bind (r1_Of y4.2.2.1) fun r6 =>
      Option.bind (r1_TimesOf r5.1 r6.1) fun r7 =>
      Option.bind (r1_Power (w64 ((w64 (9 - y2.2.2.2.2)) - y4.2.2.2))) fun r8 =>
      Option.bind (r1_TimesOf r7.1 r8.1) fun r9 =>
      Option.bind (r1_Plus (x1.2.2.2.2.2.2.2.2.2.2.1, x1.2.2.2.2.2.2.2.2.2.2.2.1) r9.1) fun r10 =>
      again (x1.1, x1.2.1, x1.2.2.1, x1.2.2.2.1, x1.2.2.2.2.1, x1.2.2.2.2.2.1, x1.2.2.2.2.2.2.1, w64 (x1.2.2.2.2.2.2.2.1 + 1), x1.2.2.2.2.2.2.2.2.1, x1.2.2.2.2.2.2.2.2.2.1, r10.1.1, r10.1.2, ())
  else
    some (Sum.inr (x1.1, x1.2.1, x1.2.2.1, x1.2.2.2.1, x1.2.2.2.2.1, x1.2.2.2.2.2.2.2.2.1, x1.2.2.2.2.2.2.2.2.2.1, x1.2.2.2.2.2.2.2.2.2.2.1, x1.2.2.2.2.2.2.2.2.2.2.2.1, ()))

abbrev r10_weigh_x3 : Type := (List D_api_Parcel) × (List D_api_Mass) × (List Int) × Int × Int × Bool × (List Int) × Bool × (List Int) × Unit
abbrev r10_weigh_r3 : Type := ((D_interchangeref1_Num × Bool × Unit) ⊕ (Bool × (List Int) × Bool × (List Int) × Unit))
def r10_weigh_b3  (x1 : r10_weigh_x3) (again : r10_weigh_x3 → Option r10_weigh_r3) : Option r10_weigh_r3 :=
  bif decide (x1.2.2.2.2.1 < x1.2.2.2.1) then
    Option.bind (idx x1.2.2.1 x1.2.2.2.2.1) fun y2 =>
    Option.bind (idx x1.1 y2) fun y3 =>
    Option.bind (r10_units y3.2.2.1) fun r4 =>
    Option.bind (r1_Plus (x1.2.2.2.2.2.2.2.1, x1.2.2.2.2.2.2.2.2.1) r4.1) fun r5 =>
    Option.bind (idx x1.1 y2) fun y6 =>
    joinB (β := ((D_interchangeref1_Num × Bool × Unit) ⊕ (Bool × (List Int) × Bool × (List Int) × Unit))) (γ := ((List D_api_Parcel) × (List D_api_Mass) × (List Int) × Int × Int × Bool × (List Int) × Bool × (List Int) × Unit)) (
      iter (X := r10_weigh_x7) (β := r10_weigh_r7) (List.length x1.1 + (List.length x1.2.1 + (List.length x1.2.2.1 + (Int.natAbs x1.2.2.2.1 + (Int.natAbs x1.2.2.2.2.1 + (List.length y6.2.2.2 + (Int.natAbs ((List.length y6.2.2.2 : Int)) + (Int.natAbs (0 : Int) + (List.length x1.2.2.2.2.2.2.1 + (List.length r5.1.2 + 2)))))))))) (x1.1, x1.2.1, x1.2.2.1, x1.2.2.2.1, x1.2.2.2.2.1, y6.2.2.2, (List.length y6.2.2.2 : Int), 0, x1.2.2.2.2.2.1, x1.2.2.2.2.2.2.1, r5.1.1, r5.1.2, ()) (r10_weigh_b7)) fun v7 =>
    again (v7.1, v7.2.1, v7.2.2.1, v7.2.2.2.1, w64 (v7.2.2.2.2.1 + 1), v7.2.2.2.2.2.1, v7.2.2.2.2.2.2.1, v7.2.2.2.2.2.2.2.1, v7.2.2.2.2.2.2.2.2.1, ())
  else
    some (Sum.inr (x1.2.2.2.2.2.1, x1.2.2.2.2.2.2.1, x1.2.2.2.2.2.2.2.1, x1.2.2.2.2.2.2.2.2.1, ()))

def r10_weigh (a0 : List D_api_Parcel) (a1 : List D_api_Mass) (a2 : List Int) : Option (D_interchangeref1_Num × Bool × Unit) :=
  joinB (β := (D_interchangeref1_Num × Bool × Unit)) (γ := (Bool × (List Int) × Bool × (List Int) × Unit)) (
    iter (X := r10_weigh_x3) (β := r10_weigh_r3) (List.length a0 + (List.length a1 + (List.length a2 + (Int.natAbs ((List.length a2 : Int)) + (Int.natAbs (0 : Int) + (List.length ([] : List Int) + (List.length ([] : List Int) + 2))))))) (a0, a1, a2, (List.length a2 : Int), 0, false, [], false, [], ()) (r10_weigh_b3)) fun v18 =>
  some ((v18.2.2.1, v18.2.2.2.1), true, ())

abbrev r10_told_x2 : Type := Int × Bool × (List Int) × Int × Int × Unit
abbrev r10_told_r2 : Type := ((D_api_Decimal × Int × Unit) ⊕ (Int × Bool × (List Int) × Int × Int × Unit))
def r10_told_b2  (x1 : r10_told_x2) (again : r10_told_x2 → Option r10_told_r2) : Option r10_told_r2 :=
  bif decide (x1.1 > 0) then
    Option.bind (r1_Of 10) fun r2 =>
    Option.bind (r1_DivMod (false, x1.2.2.1) r2.1) fun r3 =>
    Option.bind (r1_Sign r3.2.1) fun r4 =>
    bif r4.1 != 0 then
      some (Sum.inr (x1.1, x1.2.1, x1.2.2.1, x1.2.2.2.1, x1.2.2.2.2.1, ()))
    else
      bif x1.2.1 then
        Option.bind (r1_Sign r3.1) fun r5 =>
        again (w64 (x1.1 - 1), r5.1 != 0, r3.1.2, x1.2.2.2.1, x1.2.2.2.2.1, ())
      else
        again (w64 (x1.1 - 1), false, r3.1.2, x1.2.2.2.1, x1.2.2.2.2.1, ())
  else
    some (Sum.inr (x1.1, x1.2.1, x1.2.2.1, x1.2.2.2.1, x1.2.2.2.2.1, ()))

def r10_told (a0 : D_interchangeref1_Num) : Option (D_api_Decimal × Int × Unit) :=
  joinB (β := (D_api_Decimal × Int × Unit)) (γ := (Int × Bool × (List Int) × Int × Int × Unit)) (
    iter (X := r10_told_x2) (β := r10_told_r2) (Int.natAbs (9 : Int) + (List.length a0.2 + (Int.natAbs (0 : Int) + (Int.natAbs (0 : Int) + 2)))) (9, a0.1, a0.2, 0, 0, ()) (r10_told_b2)) fun v6 =>
  Option.bind (r1_Small (v6.2.1, v6.2.2.1) 1000000000000000) fun r7 =>
  bif !r7.2.1 then
    some ((0, 0), 1, ())
  else
    some ((r7.1, v6.1), 0, ())

def r10_Weight (a0 : D_api_Advice) (a1 : List D_api_Mass) (a2 : List UInt8) : Option (D_api_Decimal × Int × Unit) :=
  Option.bind (r10_CheckAdvice a0) fun r1 =>
  bif r1.1 != 0 then
    some ((0, 0), r1.1, ())
  else
    Option.bind (r10_CheckMasses a1) fun r2 =>
    bif r2.1 != 0 then
      some ((0, 0), r2.1, ())
    else
      bif !(a2 == []) then
        Option.bind (r10_parcelOf a0.2.2.2 a2) fun r3 =>
        bif decide (r3.1 < 0) then
          some ((0, 0), 9, ())
        else
          Option.bind (r10_inside a0.2.2.2 a2) fun r4 =>
          Option.bind (r10_weigh a0.2.2.2 a1 r4.1) fun r5 =>
          bif !r5.2.1 then
            some ((0, 0), 5, ())
          else
            Option.bind (r10_told r5.1) fun r6 =>
            some (r6.1, r6.2.1, ())
      else
        Option.bind (r10_inside a0.2.2.2 a2) fun r7 =>
        Option.bind (r10_weigh a0.2.2.2 a1 r7.1) fun r8 =>
        bif !r8.2.1 then
          some ((0, 0), 5, ())
        else
          Option.bind (r10_told r8.1) fun r9 =>
          some (r9.1, r9.2.1, ())

def l10_ParcelWeightsMatchSpec (a0 : D_api_Advice) (a1 : List D_api_Mass) (a2 : List UInt8) : Option (Bool × Unit) :=
  Option.bind (parcel_Weight a0 a1 a2) fun r1 =>
  Option.bind (r10_Weight a0 a1 a2) fun r2 =>
  Option.bind (parcel_CheckMasses a1) fun r3 =>
  Option.bind (r10_CheckMasses a1) fun r4 =>
  bif r3.1 == r4.1 then
    bif r1.2.1 == r2.2.1 then
      bif (r1.1.1 == r2.1.1) && ((r1.1.2 == r2.1.2) && true) then
        Option.bind (l10_awake) fun r5 =>
        some (r5.1, ())
      else
        some (false, ())
    else
      some (false, ())
  else
    some (false, ())

end Go.Md
