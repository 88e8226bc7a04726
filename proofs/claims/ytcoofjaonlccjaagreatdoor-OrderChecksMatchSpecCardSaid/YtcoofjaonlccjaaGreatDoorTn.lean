/-
 The plain models of the functions that the law reaches, second part. No condition.
-/
import Derived.Test.YtcoofjaonlccjaaGreatDoorTm
import Derived.Lib.Bytealg
import Derived.Lib.Repeat
set_option linter.all false
namespace Go.Md
open Go.Dn

abbrev order_power_x3 : Type := Int × Int × Int × Unit
abbrev order_power_r3 : Type := ((Int × Unit) ⊕ (Int × Unit))
def order_power_b3  (x1 : order_power_x3) (again : order_power_x3 → Option order_power_r3) : Option order_power_r3 :=
 bif decide (x1.2.2.1 < x1.2.1) then
  again (w64 (x1.1 * 10), x1.2.1, w64 (x1.2.2.1 + 1), ())
 else
  some (Sum.inr (x1.1, ()))

def order_power (a0 : Int) : Option (Int × Unit) :=
 joinB (β := (Int × Unit)) (γ := (Int × Unit)) (
  iter (X := order_power_x3) (β := order_power_r3) (Int.natAbs (1 : Int) + (Int.natAbs a0 + (Int.natAbs (0 : Int) + 2))) (1, a0, 0, ()) (order_power_b3)) fun v2 =>
 some (v2.1, ())

def order_within (a0 : D_api_Decimal) (a1 : Int) (a2 : Int) : Option (Bool × Unit) :=
 bif decide (a0.2 ≤ a1) then
  bif decide (a0.1 ≥ 0) then
   Option.bind (order_power a0.2) fun r1 =>
   some (decide (a0.1 ≤ (w64 (a2 * r1.1))), ())
  else
   some (false, ())
 else
  some (false, ())

def order_PriceFault (a0 : D_api_Decimal) : Option (Int × Unit) :=
 Option.bind (amount_CheckDecimal a0) fun r1 =>
 bif r1.1 != 0 then
  some (r1.1, ())
 else
  Option.bind (order_within a0 4 1000000000) fun r2 =>
  bif !r2.1 then
   some (1, ())
  else
   some (0, ())

abbrev whole_Int_Times_x7 : Type := Int × Int × Int × (List Int) × Int × Int × (List Int) × Int × Int × Bool × (List Int) × Bool × (List Int) × Bool × (List Int) × (List Int) × Unit
abbrev whole_Int_Times_r7 : Type := (((D_whole_Int × Unit) ⊕ (Bool × (List Int) × Bool × (List Int) × Bool × (List Int) × (List Int) × Unit)) ⊕ (Int × Int × (List Int) × Int × Int × Bool × (List Int) × Bool × (List Int) × Bool × (List Int) × (List Int) × Unit))
def whole_Int_Times_b7  (x1 : whole_Int_Times_x7) (again : whole_Int_Times_x7 → Option whole_Int_Times_r7) : Option whole_Int_Times_r7 :=
 bif decide (x1.2.2.2.2.2.2.2.2.1 < x1.2.2.2.2.2.2.2.1) then
  Option.bind (idx x1.2.2.2.2.2.2.1 x1.2.2.2.2.2.2.2.2.1) fun y2 =>
  chk (decide (0 ≤ (w64 (x1.1 + x1.2.2.2.2.2.2.2.2.1))) && decide ((w64 (x1.1 + x1.2.2.2.2.2.2.2.2.1)) < (List.length x1.2.2.2.2.2.2.2.2.2.2.2.2.2.2.2.1 : Int))) <|
  Option.bind (x1.2.2.2.2.2.2.2.2.2.2.2.2.2.2.2.1[(w64 (x1.1 + x1.2.2.2.2.2.2.2.2.1)).toNat]?) fun y3 =>
  let n4 : Int := wu64 ((wu64 y3) + (wu64 ((wu64 x1.2.1) * (wu64 y2))))
  chk (decide (0 ≤ (w64 (x1.1 + x1.2.2.2.2.2.2.2.2.1))) && decide ((w64 (x1.1 + x1.2.2.2.2.2.2.2.2.1)) < (List.length x1.2.2.2.2.2.2.2.2.2.2.2.2.2.2.2.1 : Int))) <|
  Option.bind (x1.2.2.2.2.2.2.2.2.2.2.2.2.2.2.2.1[(w64 (x1.1 + x1.2.2.2.2.2.2.2.2.1)).toNat]?) fun _ =>
  again (x1.1, x1.2.1, Int.fdiv (wu64 (x1.2.2.1 + n4)) (2 ^ 32), x1.2.2.2.1, x1.2.2.2.2.1, x1.2.2.2.2.2.1, x1.2.2.2.2.2.2.1, x1.2.2.2.2.2.2.2.1, w64 (x1.2.2.2.2.2.2.2.2.1 + 1), x1.2.2.2.2.2.2.2.2.2.1, x1.2.2.2.2.2.2.2.2.2.2.1, x1.2.2.2.2.2.2.2.2.2.2.2.1, x1.2.2.2.2.2.2.2.2.2.2.2.2.1, x1.2.2.2.2.2.2.2.2.2.2.2.2.2.1, x1.2.2.2.2.2.2.2.2.2.2.2.2.2.2.1, List.set x1.2.2.2.2.2.2.2.2.2.2.2.2.2.2.2.1 (w64 (x1.1 + x1.2.2.2.2.2.2.2.2.1)).toNat (wu32 (wu64 (x1.2.2.1 + n4))), ())
 else
  some (Sum.inr (x1.1, x1.2.2.1, x1.2.2.2.1, x1.2.2.2.2.1, x1.2.2.2.2.2.1, x1.2.2.2.2.2.2.2.2.2.1, x1.2.2.2.2.2.2.2.2.2.2.1, x1.2.2.2.2.2.2.2.2.2.2.2.1, x1.2.2.2.2.2.2.2.2.2.2.2.2.1, x1.2.2.2.2.2.2.2.2.2.2.2.2.2.1, x1.2.2.2.2.2.2.2.2.2.2.2.2.2.2.1, x1.2.2.2.2.2.2.2.2.2.2.2.2.2.2.2.1, ()))

abbrev whole_Int_Times_x3 : Type := (List Int) × Int × Int × Bool × (List Int) × Bool × (List Int) × Bool × (List Int) × (List Int) × Unit
abbrev whole_Int_Times_r3 : Type := ((D_whole_Int × Unit) ⊕ (Bool × (List Int) × Bool × (List Int) × Bool × (List Int) × (List Int) × Unit))
def whole_Int_Times_b3  (x1 : whole_Int_Times_x3) (again : whole_Int_Times_x3 → Option whole_Int_Times_r3) : Option whole_Int_Times_r3 :=
 bif decide (x1.2.2.1 < x1.2.1) then
  Option.bind (idx x1.1 x1.2.2.1) fun y2 =>
  joinB (β := ((D_whole_Int × Unit) ⊕ (Bool × (List Int) × Bool × (List Int) × Bool × (List Int) × (List Int) × Unit))) (γ := (Int × Int × (List Int) × Int × Int × Bool × (List Int) × Bool × (List Int) × Bool × (List Int) × (List Int) × Unit)) (
   iter (X := whole_Int_Times_x7) (β := whole_Int_Times_r7) (Int.natAbs x1.2.2.1 + (Int.natAbs y2 + (Int.natAbs (0 : Int) + (List.length x1.1 + (Int.natAbs x1.2.1 + (Int.natAbs x1.2.2.1 + (List.length x1.2.2.2.2.2.2.1 + (Int.natAbs ((List.length x1.2.2.2.2.2.2.1 : Int)) + (Int.natAbs (0 : Int) + (List.length x1.2.2.2.2.1 + (List.length x1.2.2.2.2.2.2.1 + (List.length x1.2.2.2.2.2.2.2.2.1 + (List.length x1.2.2.2.2.2.2.2.2.2.1 + 2))))))))))))) (x1.2.2.1, y2, 0, x1.1, x1.2.1, x1.2.2.1, x1.2.2.2.2.2.2.1, (List.length x1.2.2.2.2.2.2.1 : Int), 0, x1.2.2.2.1, x1.2.2.2.2.1, x1.2.2.2.2.2.1, x1.2.2.2.2.2.2.1, x1.2.2.2.2.2.2.2.1, x1.2.2.2.2.2.2.2.2.1, x1.2.2.2.2.2.2.2.2.2.1, ()) (whole_Int_Times_b7)) fun v3 =>
  chk (decide (0 ≤ (w64 (v3.1 + ((List.length v3.2.2.2.2.2.2.2.2.1 : Int))))) && decide ((w64 (v3.1 + ((List.length v3.2.2.2.2.2.2.2.2.1 : Int)))) < (List.length v3.2.2.2.2.2.2.2.2.2.2.2.1 : Int))) <|
  Option.bind (v3.2.2.2.2.2.2.2.2.2.2.2.1[(w64 (v3.1 + ((List.length v3.2.2.2.2.2.2.2.2.1 : Int)))).toNat]?) fun _ =>
  again (v3.2.2.1, v3.2.2.2.1, w64 (v3.2.2.2.2.1 + 1), v3.2.2.2.2.2.1, v3.2.2.2.2.2.2.1, v3.2.2.2.2.2.2.2.1, v3.2.2.2.2.2.2.2.2.1, v3.2.2.2.2.2.2.2.2.2.1, v3.2.2.2.2.2.2.2.2.2.2.1, List.set v3.2.2.2.2.2.2.2.2.2.2.2.1 (w64 (v3.1 + ((List.length v3.2.2.2.2.2.2.2.2.1 : Int)))).toNat (wu32 v3.2.1), ())
 else
  some (Sum.inr (x1.2.2.2.1, x1.2.2.2.2.1, x1.2.2.2.2.2.1, x1.2.2.2.2.2.2.1, x1.2.2.2.2.2.2.2.1, x1.2.2.2.2.2.2.2.2.1, x1.2.2.2.2.2.2.2.2.2.1, ()))

def whole_Int_Times (a0 : D_whole_Int) (a1 : D_whole_Int) : Option (D_whole_Int × Unit) :=
 chk (decide (0 ≤ (w64 (((List.length a0.2 : Int)) + ((List.length a1.2 : Int))))) && decide ((w64 (((List.length a0.2 : Int)) + ((List.length a1.2 : Int)))) ≤ (w64 (((List.length a0.2 : Int)) + ((List.length a1.2 : Int))))) && decide ((4 : Int) * (w64 (((List.length a0.2 : Int)) + ((List.length a1.2 : Int)))) ≤ 281474976710656) && decide ((w64 (((List.length a0.2 : Int)) + ((List.length a1.2 : Int)))) ≤ 9223372036854775807)) <|
 joinB (β := (D_whole_Int × Unit)) (γ := (Bool × (List Int) × Bool × (List Int) × Bool × (List Int) × (List Int) × Unit)) (
  iter (X := whole_Int_Times_x3) (β := whole_Int_Times_r3) (List.length a0.2 + (Int.natAbs ((List.length a0.2 : Int)) + (Int.natAbs (0 : Int) + (List.length a0.2 + (List.length a1.2 + (List.length ([] : List Int) + (List.length ((List.replicate (Int.toNat (w64 (((List.length a0.2 : Int)) + ((List.length a1.2 : Int))))) 0) : List Int) + 2))))))) (a0.2, (List.length a0.2 : Int), 0, a0.1, a0.2, a1.1, a1.2, false, [], List.replicate (Int.toNat (w64 (((List.length a0.2 : Int)) + ((List.length a1.2 : Int))))) 0, ()) (whole_Int_Times_b3)) fun v10 =>
 Option.bind (whole_made (!(v10.1 == v10.2.2.1)) v10.2.2.2.2.2.2.1) fun r11 =>
 some (r11.1, ())

abbrev whole_sum_v_x6 : Type := (List Int) × (List Int) × Int × (List Int) × Int × Int × Unit
abbrev whole_sum_v_r6 : Type := (((List Int) × Unit) ⊕ ((List Int) × Int × Unit))
def whole_sum_v_b6  (x1 : whole_sum_v_x6) (again : whole_sum_v_x6 → Option whole_sum_v_r6) : Option whole_sum_v_r6 :=
 bif decide (x1.2.2.2.2.2.1 < x1.2.2.2.2.1) then
  Option.bind (idx x1.2.2.2.1 x1.2.2.2.2.2.1) fun y2 =>
  joinB (β := (((List Int) × Unit) ⊕ ((List Int) × Int × Unit))) (γ := ((List Int) × (List Int) × Int × (List Int) × Int × Int × Unit)) (
   bif decide (x1.2.2.2.2.2.1 < ((List.length x1.1 : Int))) then
    Option.bind (idx x1.1 x1.2.2.2.2.2.1) fun y3 =>
    let n4 : Int := wu64 ((wu64 (x1.2.2.1 + (wu64 y2))) + (wu64 y3))
    some (Sum.inr (x1.1, x1.2.1, n4, x1.2.2.2.1, x1.2.2.2.2.1, x1.2.2.2.2.2.1, ()))
   else
    some (Sum.inr (x1.1, x1.2.1, wu64 (x1.2.2.1 + (wu64 y2)), x1.2.2.2.1, x1.2.2.2.2.1, x1.2.2.2.2.2.1, ()))) fun v5 =>
  chk (decide (((List.length v5.2.1) + 1) * 4 ≤ 140737488355328) && decide ((List.length v5.2.1) + 1 ≤ maxLen)) <|
  again (v5.1, v5.2.1 ++ [(wu32 v5.2.2.1)], Int.fdiv v5.2.2.1 (2 ^ 32), v5.2.2.2.1, v5.2.2.2.2.1, w64 (v5.2.2.2.2.2.1 + 1), ())
 else
  some (Sum.inr (x1.2.1, x1.2.2.1, ()))

def whole_sum_v (a0 : List Int) (a1 : List Int) : Option ((List Int) × Unit) :=
 joinB (β := ((List Int) × Unit)) (γ := ((List Int) × (List Int) × Unit)) (
  bif decide (((List.length a0 : Int)) < ((List.length a1 : Int))) then
   some (Sum.inr (a1, a0, ()))
  else
   some (Sum.inr (a0, a1, ()))) fun v1 =>
 chk (decide (0 ≤ (0 : Int)) && decide ((0 : Int) ≤ (w64 (((List.length v1.1 : Int)) + 1))) && decide ((4 : Int) * (w64 (((List.length v1.1 : Int)) + 1)) ≤ 281474976710656) && decide ((w64 (((List.length v1.1 : Int)) + 1)) ≤ 9223372036854775807)) <|
 joinB (β := ((List Int) × Unit)) (γ := ((List Int) × Int × Unit)) (
  iter (X := whole_sum_v_x6) (β := whole_sum_v_r6) (List.length v1.2.1 + (List.length ([] : List Int) + (Int.natAbs (0 : Int) + (List.length v1.1 + (Int.natAbs ((List.length v1.1 : Int)) + (Int.natAbs (0 : Int) + 2)))))) (v1.2.1, [], 0, v1.1, (List.length v1.1 : Int), 0, ()) (whole_sum_v_b6)) fun v7 =>
 chk (decide (((List.length v7.1) + 1) * 4 ≤ 140737488355328) && decide ((List.length v7.1) + 1 ≤ maxLen)) <|
 some (v7.1 ++ [(wu32 v7.2.1)], ())

def whole_Int_Plus (a0 : D_whole_Int) (a1 : D_whole_Int) : Option (D_whole_Int × Unit) :=
 bif a0.1 == a1.1 then
  Option.bind (whole_sum_v a0.2 a1.2) fun r1 =>
  Option.bind (whole_made a0.1 r1.1) fun r2 =>
  some (r2.1, ())
 else
  Option.bind (whole_compare a0.2 a1.2) fun r3 =>
  bif decide (r3.1 ≥ 0) then
   Option.bind (whole_less a0.2 a1.2) fun r4 =>
   Option.bind (whole_made a0.1 r4.1) fun r5 =>
   some (r5.1, ())
  else
   Option.bind (whole_less a1.2 a0.2) fun r6 =>
   Option.bind (whole_made a1.1 r6.1) fun r7 =>
   some (r7.1, ())

end Go.Md

namespace Go.Md
open Go.Dn

abbrev D_api_State : Type := Int × (List UInt8) × (List UInt8) × D_api_Decimal × D_api_Decimal × Int × D_api_Decimal × D_api_Decimal × D_api_Decimal × D_api_Decimal

abbrev kit_InBytes_x2 : Type := (List UInt8) × Int × Int × Int × Int × Unit
abbrev kit_InBytes_r2 : Type := ((Bool × Unit) ⊕ Unit)
def kit_InBytes_b2  (x1 : kit_InBytes_x2) (again : kit_InBytes_x2 → Option kit_InBytes_r2) : Option kit_InBytes_r2 :=
 bif decide (x1.2.2.2.2.1 < x1.2.2.2.1) then
  Option.bind (sidx x1.1 x1.2.2.2.2.1) fun c2 =>
  bif decide ((c2.toNat : Int) < x1.2.1) then
   some (Sum.inl (false, ()))
  else
   Option.bind (sidx x1.1 x1.2.2.2.2.1) fun c3 =>
   bif decide ((c3.toNat : Int) > x1.2.2.1) then
    some (Sum.inl (false, ()))
   else
    again (x1.1, x1.2.1, x1.2.2.1, x1.2.2.2.1, w64 (x1.2.2.2.2.1 + 1), ())
 else
  some (Sum.inr ())

def kit_InBytes (a0 : List UInt8) (a1 : Int) (a2 : Int) : Option (Bool × Unit) :=
 joinB (β := (Bool × Unit)) (γ := Unit) (
  iter (X := kit_InBytes_x2) (β := kit_InBytes_r2) (List.length a0 + (Int.natAbs a1 + (Int.natAbs a2 + (Int.natAbs ((List.length a0 : Int)) + (Int.natAbs (0 : Int) + 2))))) (a0, a1, a2, (List.length a0 : Int), 0, ()) (kit_InBytes_b2)) fun _ =>
 some (true, ())

def kit_IsDigits (a0 : List UInt8) : Option (Bool × Unit) :=
 bif !(a0 == []) then
  Option.bind (kit_InBytes a0 48 57) fun r1 =>
  some (r1.1, ())
 else
  some (false, ())

def order_QuantityFault (a0 : D_api_Decimal) (a1 : Bool) : Option (Int × Unit) :=
 Option.bind (amount_CheckDecimal a0) fun r1 =>
 bif r1.1 != 0 then
  some (r1.1, ())
 else
  Option.bind (order_within a0 3 1000000000) fun r2 =>
  bif !r2.1 then
   some (1, ())
  else
   bif a0.1 == 0 then
    bif !a1 then
     some (1, ())
    else
     some (0, ())
   else
    some (0, ())

end Go.Md

namespace Go.Md
open Go.Dn

end Go.Md

namespace Go.Md
open Go.Dn

end Go.Md
