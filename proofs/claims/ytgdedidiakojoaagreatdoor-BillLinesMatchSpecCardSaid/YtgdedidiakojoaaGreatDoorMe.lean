/-
  The plain models of the functions that the law reaches, second part. No condition.
-/
import Derived.Test.YtgdedidiakojoaaGreatDoorMd
import Derived.Lib.Bytealg
set_option linter.all false
namespace Go.Md
open Go.Dn

def strings_Compare (a b : List UInt8) : Option (Int × Unit) := some (Lib.compareBytes a b, ())

abbrev t_api_Rate : Ty := (.st (.pair .str t_api_Decimal))
abbrev D_api_Rate : Type := (List UInt8) × D_api_Decimal

abbrev t_api_Extra : Ty := (.st (.pair .bool (.pair t_api_Decimal .str)))
abbrev D_api_Extra : Type := Bool × D_api_Decimal × (List UInt8)

abbrev t_api_BillLine : Ty := (.st (.pair tI (.pair tI (.pair .str (.pair t_api_Decimal (.pair .str (.pair t_api_Decimal (.pair tI (.pair (.slice t_api_Extra) .str)))))))))
abbrev D_api_BillLine : Type := Int × Int × (List UInt8) × D_api_Decimal × (List UInt8) × D_api_Decimal × Int × (List D_api_Extra) × (List UInt8)

abbrev t_api_Invoice : Ty := (.st (.pair .str (.pair .str (.pair tI (.pair tI (.pair tI (.pair .bool (.pair (.slice t_api_Rate) (.pair (.slice t_api_BillLine) (.slice t_api_Extra))))))))))
abbrev D_api_Invoice : Type := (List UInt8) × (List UInt8) × Int × Int × Int × Bool × (List D_api_Rate) × (List D_api_BillLine) × (List D_api_Extra)

def amount_IsWay (a0 : Int) : Option (Bool × Unit) :=
  Option.bind (kit_Outside a0 1 6) fun r1 =>
  some (!r1.1, ())

abbrev bill_ratesFault_x6 : Type := (List D_api_Rate) × (List D_api_Rate) × Int × Int × Unit
abbrev bill_ratesFault_r6 : Type := ((Int × Unit) ⊕ Unit)
def bill_ratesFault_b6  (x1 : bill_ratesFault_x6) (again : bill_ratesFault_x6 → Option bill_ratesFault_r6) : Option bill_ratesFault_r6 :=
  bif decide (x1.2.2.2.1 < x1.2.2.1) then
    Option.bind (idx x1.2.1 x1.2.2.2.1) fun y2 =>
    Option.bind (kit_IsName y2.1) fun r3 =>
    bif !r3.1 then
      some (Sum.inl (5, ()))
    else
      bif decide (x1.2.2.2.1 > 0) then
        Option.bind (idx x1.1 (w64 (x1.2.2.2.1 - 1))) fun y4 =>
        bif Op.bytesLess y2.1 y4.1 || y2.1 == y4.1 then
          some (Sum.inl (8, ()))
        else
          Option.bind (amount_CheckDecimal y2.2) fun r5 =>
          bif r5.1 != 0 then
            some (Sum.inl (r5.1, ()))
          else
            bif decide (y2.2.1 < 0) then
              some (Sum.inl (1, ()))
            else
              Option.bind (bill_between y2.2 100) fun r6 =>
              bif !r6.1 then
                some (Sum.inl (1, ()))
              else
                again (x1.1, x1.2.1, x1.2.2.1, w64 (x1.2.2.2.1 + 1), ())
      else
        Option.bind (amount_CheckDecimal y2.2) fun r7 =>
        bif r7.1 != 0 then
          some (Sum.inl (r7.1, ()))
        else
          bif decide (y2.2.1 < 0) then
            some (Sum.inl (1, ()))
          else
            Option.bind (bill_between y2.2 100) fun r8 =>
            bif !r8.1 then
              some (Sum.inl (1, ()))
            else
              again (x1.1, x1.2.1, x1.2.2.1, w64 (x1.2.2.2.1 + 1), ())
  else
    some (Sum.inr ())

def bill_ratesFault (a0 : List D_api_Rate) : Option (Int × Unit) :=
  bif ((List.length a0 : Int)) == 0 then
    some (9, ())
  else
    bif decide (((List.length a0 : Int)) > 20) then
      some (2, ())
    else
      joinB (β := (Int × Unit)) (γ := Unit) (
        iter (X := bill_ratesFault_x6) (β := bill_ratesFault_r6) (List.length a0 + (List.length a0 + (Int.natAbs ((List.length a0 : Int)) + (Int.natAbs (0 : Int) + 2)))) (a0, a0, (List.length a0 : Int), 0, ()) (bill_ratesFault_b6)) fun _ =>
      some (0, ())

abbrev order_power_x3 : Type := Int × Int × Int × Unit
abbrev order_power_r3 : Type := ((Int × Unit) ⊕ (Int × Unit))
def order_power_b3  (x1 : order_power_x3) (again : order_power_x3 → Option order_power_r3) : Option order_power_r3 :=
  bif decide (x1.2.2.1 < x1.2.1) then
    again (w64 (x1.1 * 10), x1.2.1, w64 (x1.2.2.1 + 1), ())
  else
    some (Sum.inr (x1.1, ()))

def order_power (a0 : Int) : Option (Int × Unit) :=
  joinB (β := (Int × Unit)) (γ := (Int × Unit)) (
    iter (X := order_power_x3) (β := order_power_r3) (Int.natAbs (1 : Int) + (Int.natAbs a0 + (Int.natAbs (0 : Int) + 2))) (1, a0, 0, ()) (order_power_b3)) fun v2 =>
  some (v2.1, ())

def order_within (a0 : D_api_Decimal) (a1 : Int) (a2 : Int) : Option (Bool × Unit) :=
  bif decide (a0.2 ≤ a1) then
    bif decide (a0.1 ≥ 0) then
      Option.bind (order_power a0.2) fun r1 =>
      some (decide (a0.1 ≤ (w64 (a2 * r1.1))), ())
    else
      some (false, ())
  else
    some (false, ())

def order_PriceFault (a0 : D_api_Decimal) : Option (Int × Unit) :=
  Option.bind (amount_CheckDecimal a0) fun r1 =>
  bif r1.1 != 0 then
    some (r1.1, ())
  else
    Option.bind (order_within a0 4 1000000000) fun r2 =>
    bif !r2.1 then
      some (1, ())
    else
      some (0, ())

def bill_rateAt_1 (a0 : D_api_Rate) (a1 : List UInt8) : Option (Int × Unit) :=
  Option.bind (strings_Compare a0.1 a1) fun r1 =>
  some (r1.1, ())

abbrev slices_BinarySearchFunc_api_Rate_string_x3 : Type := (List D_api_Rate) × (List UInt8) × Unit × Int × Int × Int × Unit
abbrev slices_BinarySearchFunc_api_Rate_string_r3 : Type := ((Int × Bool × Unit) ⊕ ((List D_api_Rate) × (List UInt8) × Unit × Int × Int × Unit))
def slices_BinarySearchFunc_api_Rate_string_b3  (x1 : slices_BinarySearchFunc_api_Rate_string_x3) (again : slices_BinarySearchFunc_api_Rate_string_x3 → Option slices_BinarySearchFunc_api_Rate_string_r3) : Option slices_BinarySearchFunc_api_Rate_string_r3 :=
  bif decide (x1.2.2.2.2.1 < x1.2.2.2.2.2.1) then
    let n2 : Int := w64 (Int.fdiv (wu64 (w64 (x1.2.2.2.2.1 + x1.2.2.2.2.2.1))) (2 ^ 1))
    Option.bind (idx x1.1 n2) fun y3 =>
    Option.bind (bill_rateAt_1 y3 x1.2.1) fun r4 =>
    bif decide (r4.1 < 0) then
      again (x1.1, x1.2.1, x1.2.2.1, x1.2.2.2.1, w64 (n2 + 1), x1.2.2.2.2.2.1, ())
    else
      again (x1.1, x1.2.1, x1.2.2.1, x1.2.2.2.1, x1.2.2.2.2.1, n2, ())
  else
    some (Sum.inr (x1.1, x1.2.1, x1.2.2.1, x1.2.2.2.1, x1.2.2.2.2.1, ()))

def slices_BinarySearchFunc_api_Rate_string (a0 : List D_api_Rate) (a1 : List UInt8) (a2 : Unit) : Option (Int × Bool × Unit) :=
  joinB (β := (Int × Bool × Unit)) (γ := ((List D_api_Rate) × (List UInt8) × Unit × Int × Int × Unit)) (
    iter (X := slices_BinarySearchFunc_api_Rate_string_x3) (β := slices_BinarySearchFunc_api_Rate_string_r3) (List.length a0 + (List.length a1 + (Int.natAbs ((List.length a0 : Int)) + (Int.natAbs (0 : Int) + (Int.natAbs ((List.length a0 : Int)) + 2))))) (a0, a1, a2, (List.length a0 : Int), 0, (List.length a0 : Int), ()) (slices_BinarySearchFunc_api_Rate_string_b3)) fun v5 =>
  bif decide (v5.2.2.2.2.1 < v5.2.2.2.1) then
    Option.bind (idx v5.1 v5.2.2.2.2.1) fun y6 =>
    Option.bind (bill_rateAt_1 y6 v5.2.1) fun r7 =>
    some (v5.2.2.2.2.1, r7.1 == 0, ())
  else
    some (v5.2.2.2.2.1, false, ())

def bill_rateAt (a0 : List D_api_Rate) (a1 : List UInt8) : Option (Int × Bool × Unit) :=
  Option.bind (slices_BinarySearchFunc_api_Rate_string a0 a1 ()) fun r1 =>
  some (r1.1, r1.2.1, ())

def bill_hasRate (a0 : D_api_Invoice) (a1 : List UInt8) : Option (Bool × Unit) :=
  Option.bind (bill_rateAt a0.2.2.2.2.2.2.1 a1) fun r1 =>
  some (r1.2.1, ())

abbrev bill_extrasFault_x4 : Type := Bool × (List D_api_Extra) × Int × Int × (List UInt8) × (List UInt8) × Int × Int × Int × Bool × (List D_api_Rate) × (List D_api_BillLine) × (List D_api_Extra) × Unit
abbrev bill_extrasFault_r4 : Type := ((Int × Unit) ⊕ Unit)
def bill_extrasFault_b4  (x1 : bill_extrasFault_x4) (again : bill_extrasFault_x4 → Option bill_extrasFault_r4) : Option bill_extrasFault_r4 :=
  bif decide (x1.2.2.2.1 < x1.2.2.1) then
    Option.bind (idx x1.2.1 x1.2.2.2.1) fun y2 =>
    Option.bind (amount_CheckDecimal y2.2.1) fun r3 =>
    bif r3.1 != 0 then
      some (Sum.inl (r3.1, ()))
    else
      bif y2.2.1.1 == 0 then
        some (Sum.inl (13, ()))
      else
        bif y2.1 then
          Option.bind (bill_between y2.2.1 100) fun r4 =>
          joinB (β := ((Int × Unit) ⊕ Unit)) (γ := (Bool × (List D_api_Extra) × Int × Int × Bool × (List UInt8) × (List UInt8) × Int × Int × Int × Bool × (List D_api_Rate) × (List D_api_BillLine) × (List D_api_Extra) × Bool × Int × Int × (List UInt8) × Unit)) (
            bif !r4.1 then
              some (Sum.inr (x1.1, x1.2.1, x1.2.2.1, x1.2.2.2.1, !r4.1, x1.2.2.2.2.1, x1.2.2.2.2.2.1, x1.2.2.2.2.2.2.1, x1.2.2.2.2.2.2.2.1, x1.2.2.2.2.2.2.2.2.1, x1.2.2.2.2.2.2.2.2.2.1, x1.2.2.2.2.2.2.2.2.2.2.1, x1.2.2.2.2.2.2.2.2.2.2.2.1, x1.2.2.2.2.2.2.2.2.2.2.2.2.1, y2.1, y2.2.1.1, y2.2.1.2, y2.2.2, ()))
            else
              bif !y2.1 then
                Option.bind (bill_between y2.2.1 1000000000) fun r5 =>
                bif !r5.1 then
                  some (Sum.inr (x1.1, x1.2.1, x1.2.2.1, x1.2.2.2.1, true, x1.2.2.2.2.1, x1.2.2.2.2.2.1, x1.2.2.2.2.2.2.1, x1.2.2.2.2.2.2.2.1, x1.2.2.2.2.2.2.2.2.1, x1.2.2.2.2.2.2.2.2.2.1, x1.2.2.2.2.2.2.2.2.2.2.1, x1.2.2.2.2.2.2.2.2.2.2.2.1, x1.2.2.2.2.2.2.2.2.2.2.2.2.1, y2.1, y2.2.1.1, y2.2.1.2, y2.2.2, ()))
                else
                  some (Sum.inr (x1.1, x1.2.1, x1.2.2.1, x1.2.2.2.1, decide (y2.2.1.2 > x1.2.2.2.2.2.2.2.1), x1.2.2.2.2.1, x1.2.2.2.2.2.1, x1.2.2.2.2.2.2.1, x1.2.2.2.2.2.2.2.1, x1.2.2.2.2.2.2.2.2.1, x1.2.2.2.2.2.2.2.2.2.1, x1.2.2.2.2.2.2.2.2.2.2.1, x1.2.2.2.2.2.2.2.2.2.2.2.1, x1.2.2.2.2.2.2.2.2.2.2.2.2.1, y2.1, y2.2.1.1, y2.2.1.2, y2.2.2, ()))
              else
                some (Sum.inr (x1.1, x1.2.1, x1.2.2.1, x1.2.2.2.1, false, x1.2.2.2.2.1, x1.2.2.2.2.2.1, x1.2.2.2.2.2.2.1, x1.2.2.2.2.2.2.2.1, x1.2.2.2.2.2.2.2.2.1, x1.2.2.2.2.2.2.2.2.2.1, x1.2.2.2.2.2.2.2.2.2.2.1, x1.2.2.2.2.2.2.2.2.2.2.2.1, x1.2.2.2.2.2.2.2.2.2.2.2.2.1, y2.1, y2.2.1.1, y2.2.1.2, y2.2.2, ()))) fun v6 =>
          bif v6.2.2.2.2.1 then
            some (Sum.inl (1, ()))
          else
            bif v6.1 then
              bif !(v6.2.2.2.2.2.2.2.2.2.2.2.2.2.2.2.2.2.1 == []) then
                some (Sum.inl (3, ()))
              else
                bif !v6.1 then
                  bif !(v6.2.2.2.2.2.2.2.2.2.2.2.2.2.2.2.2.2.1 == []) then
                    Option.bind (bill_hasRate (v6.2.2.2.2.2.1, v6.2.2.2.2.2.2.1, v6.2.2.2.2.2.2.2.1, v6.2.2.2.2.2.2.2.2.1, v6.2.2.2.2.2.2.2.2.2.1, v6.2.2.2.2.2.2.2.2.2.2.1, v6.2.2.2.2.2.2.2.2.2.2.2.1, v6.2.2.2.2.2.2.2.2.2.2.2.2.1, v6.2.2.2.2.2.2.2.2.2.2.2.2.2.1) v6.2.2.2.2.2.2.2.2.2.2.2.2.2.2.2.2.2.1) fun r7 =>
                    bif !r7.1 then
                      some (Sum.inl (5, ()))
                    else
                      again (v6.1, v6.2.1, v6.2.2.1, w64 (v6.2.2.2.1 + 1), v6.2.2.2.2.2.1, v6.2.2.2.2.2.2.1, v6.2.2.2.2.2.2.2.1, v6.2.2.2.2.2.2.2.2.1, v6.2.2.2.2.2.2.2.2.2.1, v6.2.2.2.2.2.2.2.2.2.2.1, v6.2.2.2.2.2.2.2.2.2.2.2.1, v6.2.2.2.2.2.2.2.2.2.2.2.2.1, v6.2.2.2.2.2.2.2.2.2.2.2.2.2.1, ())
                  else
                    again (v6.1, v6.2.1, v6.2.2.1, w64 (v6.2.2.2.1 + 1), v6.2.2.2.2.2.1, v6.2.2.2.2.2.2.1, v6.2.2.2.2.2.2.2.1, v6.2.2.2.2.2.2.2.2.1, v6.2.2.2.2.2.2.2.2.2.1, v6.2.2.2.2.2.2.2.2.2.2.1, v6.2.2.2.2.2.2.2.2.2.2.2.1, v6.2.2.2.2.2.2.2.2.2.2.2.2.1, v6.2.2.2.2.2.2.2.2.2.2.2.2.2.1, ())
                else
                  again (v6.1, v6.2.1, v6.2.2.1, w64 (v6.2.2.2.1 + 1), v6.2.2.2.2.2.1, v6.2.2.2.2.2.2.1, v6.2.2.2.2.2.2.2.1, v6.2.2.2.2.2.2.2.2.1, v6.2.2.2.2.2.2.2.2.2.1, v6.2.2.2.2.2.2.2.2.2.2.1, v6.2.2.2.2.2.2.2.2.2.2.2.1, v6.2.2.2.2.2.2.2.2.2.2.2.2.1, v6.2.2.2.2.2.2.2.2.2.2.2.2.2.1, ())
            else
              bif !v6.1 then
                bif !(v6.2.2.2.2.2.2.2.2.2.2.2.2.2.2.2.2.2.1 == []) then
                  Option.bind (bill_hasRate (v6.2.2.2.2.2.1, v6.2.2.2.2.2.2.1, v6.2.2.2.2.2.2.2.1, v6.2.2.2.2.2.2.2.2.1, v6.2.2.2.2.2.2.2.2.2.1, v6.2.2.2.2.2.2.2.2.2.2.1, v6.2.2.2.2.2.2.2.2.2.2.2.1, v6.2.2.2.2.2.2.2.2.2.2.2.2.1, v6.2.2.2.2.2.2.2.2.2.2.2.2.2.1) v6.2.2.2.2.2.2.2.2.2.2.2.2.2.2.2.2.2.1) fun r8 =>
                  bif !r8.1 then
                    some (Sum.inl (5, ()))
                  else
                    again (v6.1, v6.2.1, v6.2.2.1, w64 (v6.2.2.2.1 + 1), v6.2.2.2.2.2.1, v6.2.2.2.2.2.2.1, v6.2.2.2.2.2.2.2.1, v6.2.2.2.2.2.2.2.2.1, v6.2.2.2.2.2.2.2.2.2.1, v6.2.2.2.2.2.2.2.2.2.2.1, v6.2.2.2.2.2.2.2.2.2.2.2.1, v6.2.2.2.2.2.2.2.2.2.2.2.2.1, v6.2.2.2.2.2.2.2.2.2.2.2.2.2.1, ())
                else
                  again (v6.1, v6.2.1, v6.2.2.1, w64 (v6.2.2.2.1 + 1), v6.2.2.2.2.2.1, v6.2.2.2.2.2.2.1, v6.2.2.2.2.2.2.2.1, v6.2.2.2.2.2.2.2.2.1, v6.2.2.2.2.2.2.2.2.2.1, v6.2.2.2.2.2.2.2.2.2.2.1, v6.2.2.2.2.2.2.2.2.2.2.2.1, v6.2.2.2.2.2.2.2.2.2.2.2.2.1, v6.2.2.2.2.2.2.2.2.2.2.2.2.2.1, ())
              else
                again (v6.1, v6.2.1, v6.2.2.1, w64 (v6.2.2.2.1 + 1), v6.2.2.2.2.2.1, v6.2.2.2.2.2.2.1, v6.2.2.2.2.2.2.2.1, v6.2.2.2.2.2.2.2.2.1, v6.2.2.2.2.2.2.2.2.2.1, v6.2.2.2.2.2.2.2.2.2.2.1, v6.2.2.2.2.2.2.2.2.2.2.2.1, v6.2.2.2.2.2.2.2.2.2.2.2.2.1, v6.2.2.2.2.2.2.2.2.2.2.2.2.2.1, ())
        else
          joinB (β := ((Int × Unit) ⊕ Unit)) (γ := (Bool × (List D_api_Extra) × Int × Int × Bool × (List UInt8) × (List UInt8) × Int × Int × Int × Bool × (List D_api_Rate) × (List D_api_BillLine) × (List D_api_Extra) × Bool × Int × Int × (List UInt8) × Unit)) (
            bif !y2.1 then
              Option.bind (bill_between y2.2.1 1000000000) fun r9 =>
              bif !r9.1 then
                some (Sum.inr (x1.1, x1.2.1, x1.2.2.1, x1.2.2.2.1, true, x1.2.2.2.2.1, x1.2.2.2.2.2.1, x1.2.2.2.2.2.2.1, x1.2.2.2.2.2.2.2.1, x1.2.2.2.2.2.2.2.2.1, x1.2.2.2.2.2.2.2.2.2.1, x1.2.2.2.2.2.2.2.2.2.2.1, x1.2.2.2.2.2.2.2.2.2.2.2.1, x1.2.2.2.2.2.2.2.2.2.2.2.2.1, y2.1, y2.2.1.1, y2.2.1.2, y2.2.2, ()))
              else
                some (Sum.inr (x1.1, x1.2.1, x1.2.2.1, x1.2.2.2.1, decide (y2.2.1.2 > x1.2.2.2.2.2.2.2.1), x1.2.2.2.2.1, x1.2.2.2.2.2.1, x1.2.2.2.2.2.2.1, x1.2.2.2.2.2.2.2.1, x1.2.2.2.2.2.2.2.2.1, x1.2.2.2.2.2.2.2.2.2.1, x1.2.2.2.2.2.2.2.2.2.2.1, x1.2.2.2.2.2.2.2.2.2.2.2.1, x1.2.2.2.2.2.2.2.2.2.2.2.2.1, y2.1, y2.2.1.1, y2.2.1.2, y2.2.2, ()))
            else
              some (Sum.inr (x1.1, x1.2.1, x1.2.2.1, x1.2.2.2.1, false, x1.2.2.2.2.1, x1.2.2.2.2.2.1, x1.2.2.2.2.2.2.1, x1.2.2.2.2.2.2.2.1, x1.2.2.2.2.2.2.2.2.1, x1.2.2.2.2.2.2.2.2.2.1, x1.2.2.2.2.2.2.2.2.2.2.1, x1.2.2.2.2.2.2.2.2.2.2.2.1, x1.2.2.2.2.2.2.2.2.2.2.2.2.1, y2.1, y2.2.1.1, y2.2.1.2, y2.2.2, ()))) fun v10 =>
          bif v10.2.2.2.2.1 then
            some (Sum.inl (1, ()))
          else
            bif v10.1 then
              bif !(v10.2.2.2.2.2.2.2.2.2.2.2.2.2.2.2.2.2.1 == []) then
                some (Sum.inl (3, ()))
              else
                bif !v10.1 then
                  bif !(v10.2.2.2.2.2.2.2.2.2.2.2.2.2.2.2.2.2.1 == []) then
                    Option.bind (bill_hasRate (v10.2.2.2.2.2.1, v10.2.2.2.2.2.2.1, v10.2.2.2.2.2.2.2.1, v10.2.2.2.2.2.2.2.2.1, v10.2.2.2.2.2.2.2.2.2.1, v10.2.2.2.2.2.2.2.2.2.2.1, v10.2.2.2.2.2.2.2.2.2.2.2.1, v10.2.2.2.2.2.2.2.2.2.2.2.2.1, v10.2.2.2.2.2.2.2.2.2.2.2.2.2.1) v10.2.2.2.2.2.2.2.2.2.2.2.2.2.2.2.2.2.1) fun r11 =>
                    bif !r11.1 then
                      some (Sum.inl (5, ()))
                    else
                      again (v10.1, v10.2.1, v10.2.2.1, w64 (v10.2.2.2.1 + 1), v10.2.2.2.2.2.1, v10.2.2.2.2.2.2.1, v10.2.2.2.2.2.2.2.1, v10.2.2.2.2.2.2.2.2.1, v10.2.2.2.2.2.2.2.2.2.1, v10.2.2.2.2.2.2.2.2.2.2.1, v10.2.2.2.2.2.2.2.2.2.2.2.1, v10.2.2.2.2.2.2.2.2.2.2.2.2.1, v10.2.2.2.2.2.2.2.2.2.2.2.2.2.1, ())
                  else
                    again (v10.1, v10.2.1, v10.2.2.1, w64 (v10.2.2.2.1 + 1), v10.2.2.2.2.2.1, v10.2.2.2.2.2.2.1, v10.2.2.2.2.2.2.2.1, v10.2.2.2.2.2.2.2.2.1, v10.2.2.2.2.2.2.2.2.2.1, v10.2.2.2.2.2.2.2.2.2.2.1, v10.2.2.2.2.2.2.2.2.2.2.2.1, v10.2.2.2.2.2.2.2.2.2.2.2.2.1, v10.2.2.2.2.2.2.2.2.2.2.2.2.2.1, ())
                else
                  again (v10.1, v10.2.1, v10.2.2.1, w64 (v10.2.2.2.1 + 1), v10.2.2.2.2.2.1, v10.2.2.2.2.2.2.1, v10.2.2.2.2.2.2.2.1, v10.2.2.2.2.2.2.2.2.1, v10.2.2.2.2.2.2.2.2.2.1, v10.2.2.2.2.2.2.2.2.2.2.1, v10.2.2.2.2.2.2.2.2.2.2.2.1, v10.2.2.2.2.2.2.2.2.2.2.2.2.1, v10.2.2.2.2.2.2.2.2.2.2.2.2.2.1, ())
            else
              bif !v10.1 then
                bif !(v10.2.2.2.2.2.2.2.2.2.2.2.2.2.2.2.2.2.1 == []) then
                  Option.bind (bill_hasRate (v10.2.2.2.2.2.1, v10.2.2.2.2.2.2.1, v10.2.2.2.2.2.2.2.1, v10.2.2.2.2.2.2.2.2.1, v10.2.2.2.2.2.2.2.2.2.1, v10.2.2.2.2.2.2.2.2.2.2.1, v10.2.2.2.2.2.2.2.2.2.2.2.1, v10.2.2.2.2.2.2.2.2.2.2.2.2.1, v10.2.2.2.2.2.2.2.2.2.2.2.2.2.1) v10.2.2.2.2.2.2.2.2.2.2.2.2.2.2.2.2.2.1) fun r12 =>
                  bif !r12.1 then
                    some (Sum.inl (5, ()))
                  else
                    again (v10.1, v10.2.1, v10.2.2.1, w64 (v10.2.2.2.1 + 1), v10.2.2.2.2.2.1, v10.2.2.2.2.2.2.1, v10.2.2.2.2.2.2.2.1, v10.2.2.2.2.2.2.2.2.1, v10.2.2.2.2.2.2.2.2.2.1, v10.2.2.2.2.2.2.2.2.2.2.1, v10.2.2.2.2.2.2.2.2.2.2.2.1, v10.2.2.2.2.2.2.2.2.2.2.2.2.1, v10.2.2.2.2.2.2.2.2.2.2.2.2.2.1, ())
                else
                  again (v10.1, v10.2.1, v10.2.2.1, w64 (v10.2.2.2.1 + 1), v10.2.2.2.2.2.1, v10.2.2.2.2.2.2.1, v10.2.2.2.2.2.2.2.1, v10.2.2.2.2.2.2.2.2.1, v10.2.2.2.2.2.2.2.2.2.1, v10.2.2.2.2.2.2.2.2.2.2.1, v10.2.2.2.2.2.2.2.2.2.2.2.1, v10.2.2.2.2.2.2.2.2.2.2.2.2.1, v10.2.2.2.2.2.2.2.2.2.2.2.2.2.1, ())
              else
                again (v10.1, v10.2.1, v10.2.2.1, w64 (v10.2.2.2.1 + 1), v10.2.2.2.2.2.1, v10.2.2.2.2.2.2.1, v10.2.2.2.2.2.2.2.1, v10.2.2.2.2.2.2.2.2.1, v10.2.2.2.2.2.2.2.2.2.1, v10.2.2.2.2.2.2.2.2.2.2.1, v10.2.2.2.2.2.2.2.2.2.2.2.1, v10.2.2.2.2.2.2.2.2.2.2.2.2.1, v10.2.2.2.2.2.2.2.2.2.2.2.2.2.1, ())
  else
    some (Sum.inr ())

def bill_extrasFault (a0 : D_api_Invoice) (a1 : List D_api_Extra) (a2 : Bool) : Option (Int × Unit) :=
  bif decide (((List.length a1 : Int)) > 20) then
    some (2, ())
  else
    joinB (β := (Int × Unit)) (γ := Unit) (
      iter (X := bill_extrasFault_x4) (β := bill_extrasFault_r4) (List.length a1 + (Int.natAbs ((List.length a1 : Int)) + (Int.natAbs (0 : Int) + (List.length a0.1 + (List.length a0.2.1 + (Int.natAbs a0.2.2.1 + (Int.natAbs a0.2.2.2.1 + (Int.natAbs a0.2.2.2.2.1 + (List.length a0.2.2.2.2.2.2.1 + (List.length a0.2.2.2.2.2.2.2.1 + (List.length a0.2.2.2.2.2.2.2.2 + 2))))))))))) (a2, a1, (List.length a1 : Int), 0, a0.1, a0.2.1, a0.2.2.1, a0.2.2.2.1, a0.2.2.2.2.1, a0.2.2.2.2.2.1, a0.2.2.2.2.2.2.1, a0.2.2.2.2.2.2.2.1, a0.2.2.2.2.2.2.2.2, ()) (bill_extrasFault_b4)) fun _ =>
    some (0, ())

def bill_lineFault (a0 : D_api_Invoice) (a1 : Int) : Option (Int × Unit) :=
  Option.bind (idx a0.2.2.2.2.2.2.2.1 a1) fun y1 =>
  Option.bind (kit_Outside y1.1 1 99999) fun r2 =>
  bif r2.1 then
    some (1, ())
  else
    bif decide (a1 > 0) then
      Option.bind (idx a0.2.2.2.2.2.2.2.1 (w64 (a1 - 1))) fun y3 =>
      bif decide (y1.1 ≤ y3.1) then
        some (8, ())
      else
        Option.bind (kit_Outside y1.2.1 1 99999) fun r4 =>
        bif r4.1 then
          some (1, ())
        else
          Option.bind (kit_IsName y1.2.2.1) fun r5 =>
          bif !r5.1 then
            some (5, ())
          else
            Option.bind (amount_CheckDecimal y1.2.2.2.1) fun r6 =>
            bif r6.1 != 0 then
              some (r6.1, ())
            else
              bif decide (y1.2.2.2.1.2 > 3) then
                some (1, ())
              else
                Option.bind (bill_between y1.2.2.2.1 1000000000) fun r7 =>
                bif !r7.1 then
                  some (1, ())
                else
                  bif y1.2.2.2.1.1 == 0 then
                    some (13, ())
                  else
                    Option.bind (kit_IsName y1.2.2.2.2.1) fun r8 =>
                    bif !r8.1 then
                      some (5, ())
                    else
                      Option.bind (order_PriceFault y1.2.2.2.2.2.1) fun r9 =>
                      bif r9.1 != 0 then
                        some (r9.1, ())
                      else
                        Option.bind (kit_Outside y1.2.2.2.2.2.2.1 1 100000) fun r10 =>
                        bif r10.1 then
                          some (1, ())
                        else
                          Option.bind (bill_extrasFault a0 y1.2.2.2.2.2.2.2.1 true) fun r11 =>
                          bif r11.1 != 0 then
                            some (r11.1, ())
                          else
                            Option.bind (bill_hasRate a0 y1.2.2.2.2.2.2.2.2) fun r12 =>
                            bif !r12.1 then
                              some (5, ())
                            else
                              some (0, ())
    else
      Option.bind (kit_Outside y1.2.1 1 99999) fun r13 =>
      bif r13.1 then
        some (1, ())
      else
        Option.bind (kit_IsName y1.2.2.1) fun r14 =>
        bif !r14.1 then
          some (5, ())
        else
          Option.bind (amount_CheckDecimal y1.2.2.2.1) fun r15 =>
          bif r15.1 != 0 then
            some (r15.1, ())
          else
            bif decide (y1.2.2.2.1.2 > 3) then
              some (1, ())
            else
              Option.bind (bill_between y1.2.2.2.1 1000000000) fun r16 =>
              bif !r16.1 then
                some (1, ())
              else
                bif y1.2.2.2.1.1 == 0 then
                  some (13, ())
                else
                  Option.bind (kit_IsName y1.2.2.2.2.1) fun r17 =>
                  bif !r17.1 then
                    some (5, ())
                  else
                    Option.bind (order_PriceFault y1.2.2.2.2.2.1) fun r18 =>
                    bif r18.1 != 0 then
                      some (r18.1, ())
                    else
                      Option.bind (kit_Outside y1.2.2.2.2.2.2.1 1 100000) fun r19 =>
                      bif r19.1 then
                        some (1, ())
                      else
                        Option.bind (bill_extrasFault a0 y1.2.2.2.2.2.2.2.1 true) fun r20 =>
                        bif r20.1 != 0 then
                          some (r20.1, ())
                        else
                          Option.bind (bill_hasRate a0 y1.2.2.2.2.2.2.2.2) fun r21 =>
                          bif !r21.1 then
                            some (5, ())
                          else
                            some (0, ())

abbrev bill_CheckInvoice_x15 : Type := Int × Int × (List UInt8) × (List UInt8) × Int × Int × Int × Bool × (List D_api_Rate) × (List D_api_BillLine) × (List D_api_Extra) × Unit
abbrev bill_CheckInvoice_r15 : Type := ((Int × Unit) ⊕ ((List UInt8) × (List UInt8) × Int × Int × Int × Bool × (List D_api_Rate) × (List D_api_BillLine) × (List D_api_Extra) × Unit))
def bill_CheckInvoice_b15  (x1 : bill_CheckInvoice_x15) (again : bill_CheckInvoice_x15 → Option bill_CheckInvoice_r15) : Option bill_CheckInvoice_r15 :=
  bif decide (x1.2.1 < x1.1) then
    Option.bind (bill_lineFault (x1.2.2.1, x1.2.2.2.1, x1.2.2.2.2.1, x1.2.2.2.2.2.1, x1.2.2.2.2.2.2.1, x1.2.2.2.2.2.2.2.1, x1.2.2.2.2.2.2.2.2.1, x1.2.2.2.2.2.2.2.2.2.1, x1.2.2.2.2.2.2.2.2.2.2.1) x1.2.1) fun r2 =>
    bif r2.1 != 0 then
      some (Sum.inl (r2.1, ()))
    else
      again (x1.1, w64 (x1.2.1 + 1), x1.2.2.1, x1.2.2.2.1, x1.2.2.2.2.1, x1.2.2.2.2.2.1, x1.2.2.2.2.2.2.1, x1.2.2.2.2.2.2.2.1, x1.2.2.2.2.2.2.2.2.1, x1.2.2.2.2.2.2.2.2.2.1, x1.2.2.2.2.2.2.2.2.2.2.1, ())
  else
    some (Sum.inr (x1.2.2.1, x1.2.2.2.1, x1.2.2.2.2.1, x1.2.2.2.2.2.1, x1.2.2.2.2.2.2.1, x1.2.2.2.2.2.2.2.1, x1.2.2.2.2.2.2.2.2.1, x1.2.2.2.2.2.2.2.2.2.1, x1.2.2.2.2.2.2.2.2.2.2.1, ()))

def bill_CheckInvoice (a0 : D_api_Invoice) : Option (Int × Unit) :=
  Option.bind (kit_IsName a0.1) fun r1 =>
  bif !r1.1 then
    some (5, ())
  else
    Option.bind (kit_IsName a0.2.1) fun r2 =>
    bif !r2.1 then
      some (5, ())
    else
      Option.bind (kit_IsDay a0.2.2.1) fun r3 =>
      bif !r3.1 then
        some (1, ())
      else
        Option.bind (kit_Outside a0.2.2.2.1 0 4) fun r4 =>
        bif r4.1 then
          some (1, ())
        else
          Option.bind (amount_IsWay a0.2.2.2.2.1) fun r5 =>
          bif !r5.1 then
            some (4, ())
          else
            Option.bind (bill_ratesFault a0.2.2.2.2.2.2.1) fun r6 =>
            bif r6.1 != 0 then
              some (r6.1, ())
            else
              bif ((List.length a0.2.2.2.2.2.2.2.1 : Int)) == 0 then
                some (9, ())
              else
                bif decide (((List.length a0.2.2.2.2.2.2.2.1 : Int)) > 500) then
                  some (2, ())
                else
                  joinB (β := (Int × Unit)) (γ := ((List UInt8) × (List UInt8) × Int × Int × Int × Bool × (List D_api_Rate) × (List D_api_BillLine) × (List D_api_Extra) × Unit)) (
                    iter (X := bill_CheckInvoice_x15) (β := bill_CheckInvoice_r15) (Int.natAbs ((List.length a0.2.2.2.2.2.2.2.1 : Int)) + (Int.natAbs (0 : Int) + (List.length a0.1 + (List.length a0.2.1 + (Int.natAbs a0.2.2.1 + (Int.natAbs a0.2.2.2.1 + (Int.natAbs a0.2.2.2.2.1 + (List.length a0.2.2.2.2.2.2.1 + (List.length a0.2.2.2.2.2.2.2.1 + (List.length a0.2.2.2.2.2.2.2.2 + 2)))))))))) ((List.length a0.2.2.2.2.2.2.2.1 : Int), 0, a0.1, a0.2.1, a0.2.2.1, a0.2.2.2.1, a0.2.2.2.2.1, a0.2.2.2.2.2.1, a0.2.2.2.2.2.2.1, a0.2.2.2.2.2.2.2.1, a0.2.2.2.2.2.2.2.2, ()) (bill_CheckInvoice_b15)) fun v9 =>
                  Option.bind (bill_extrasFault (v9.1, v9.2.1, v9.2.2.1, v9.2.2.2.1, v9.2.2.2.2.1, v9.2.2.2.2.2.1, v9.2.2.2.2.2.2.1, v9.2.2.2.2.2.2.2.1, v9.2.2.2.2.2.2.2.2.1) v9.2.2.2.2.2.2.2.2.1 false) fun r10 =>
                  some (r10.1, ())

abbrev whole_Int_Times_x7 : Type := Int × Int × Int × (List Int) × Int × Int × (List Int) × Int × Int × Bool × (List Int) × Bool × (List Int) × Bool × (List Int) × (List Int) × Unit
abbrev whole_Int_Times_r7 : Type := (((D_whole_Int × Unit) ⊕ (Bool × (List Int) × Bool × (List Int) × Bool × (List Int) × (List Int) × Unit)) ⊕ (Int × Int × (List Int) × Int × Int × Bool × (List Int) × Bool × (List Int) × Bool × (List Int) × (List Int) × Unit))
def whole_Int_Times_b7  (x1 : whole_Int_Times_x7) (again : whole_Int_Times_x7 → Option whole_Int_Times_r7) : Option whole_Int_Times_r7 :=
  bif decide (x1.2.2.2.2.2.2.2.2.1 < x1.2.2.2.2.2.2.2.1) then
    Option.bind (idx x1.2.2.2.2.2.2.1 x1.2.2.2.2.2.2.2.2.1) fun y2 =>
    chk (decide (0 ≤ (w64 (x1.1 + x1.2.2.2.2.2.2.2.2.1))) && decide ((w64 (x1.1 + x1.2.2.2.2.2.2.2.2.1)) < (List.length x1.2.2.2.2.2.2.2.2.2.2.2.2.2.2.2.1 : Int))) <|
    Option.bind (x1.2.2.2.2.2.2.2.2.2.2.2.2.2.2.2.1[(w64 (x1.1 + x1.2.2.2.2.2.2.2.2.1)).toNat]?) fun y3 =>
    let n4 : Int := wu64 ((wu64 y3) + (wu64 ((wu64 x1.2.1) * (wu64 y2))))
    chk (decide (0 ≤ (w64 (x1.1 + x1.2.2.2.2.2.2.2.2.1))) && decide ((w64 (x1.1 + x1.2.2.2.2.2.2.2.2.1)) < (List.length x1.2.2.2.2.2.2.2.2.2.2.2.2.2.2.2.1 : Int))) <|
    Option.bind (x1.2.2.2.2.2.2.2.2.2.2.2.2.2.2.2.1[(w64 (x1.1 + x1.2.2.2.2.2.2.2.2.1)).toNat]?) fun _ =>
    again (x1.1, x1.2.1, Int.fdiv (wu64 (x1.2.2.1 + n4)) (2 ^ 32), x1.2.2.2.1, x1.2.2.2.2.1, x1.2.2.2.2.2.1, x1.2.2.2.2.2.2.1, x1.2.2.2.2.2.2.2.1, w64 (x1.2.2.2.2.2.2.2.2.1 + 1), x1.2.2.2.2.2.2.2.2.2.1, x1.2.2.2.2.2.2.2.2.2.2.1, x1.2.2.2.2.2.2.2.2.2.2.2.1, x1.2.2.2.2.2.2.2.2.2.2.2.2.1, x1.2.2.2.2.2.2.2.2.2.2.2.2.2.1, x1.2.2.2.2.2.2.2.2.2.2.2.2.2.2.1, List.set x1.2.2.2.2.2.2.2.2.2.2.2.2.2.2.2.1 (w64 (x1.1 + x1.2.2.2.2.2.2.2.2.1)).toNat (wu32 (wu64 (x1.2.2.1 + n4))), ())
  else
    some (Sum.inr (x1.1, x1.2.2.1, x1.2.2.2.1, x1.2.2.2.2.1, x1.2.2.2.2.2.1, x1.2.2.2.2.2.2.2.2.2.1, x1.2.2.2.2.2.2.2.2.2.2.1, x1.2.2.2.2.2.2.2.2.2.2.2.1, x1.2.2.2.2.2.2.2.2.2.2.2.2.1, x1.2.2.2.2.2.2.2.2.2.2.2.2.2.1, x1.2.2.2.2.2.2.2.2.2.2.2.2.2.2.1, x1.2.2.2.2.2.2.2.2.2.2.2.2.2.2.2.1, ()))

abbrev whole_Int_Times_x3 : Type := (List Int) × Int × Int × Bool × (List Int) × Bool × (List Int) × Bool × (List Int) × (List Int) × Unit
abbrev whole_Int_Times_r3 : Type := ((D_whole_Int × Unit) ⊕ (Bool × (List Int) × Bool × (List Int) × Bool × (List Int) × (List Int) × Unit))
def whole_Int_Times_b3  (x1 : whole_Int_Times_x3) (again : whole_Int_Times_x3 → Option whole_Int_Times_r3) : Option whole_Int_Times_r3 :=
  bif decide (x1.2.2.1 < x1.2.1) then
    Option.bind (idx x1.1 x1.2.2.1) fun y2 =>
    joinB (β := ((D_whole_Int × Unit) ⊕ (Bool × (List Int) × Bool × (List Int) × Bool × (List Int) × (List Int) × Unit))) (γ := (Int × Int × (List Int) × Int × Int × Bool × (List Int) × Bool × (List Int) × Bool × (List Int) × (List Int) × Unit)) (
      iter (X := whole_Int_Times_x7) (β := whole_Int_Times_r7) (Int.natAbs x1.2.2.1 + (Int.natAbs y2 + (Int.natAbs (0 : Int) + (List.length x1.1 + (Int.natAbs x1.2.1 + (Int.natAbs x1.2.2.1 + (List.length x1.2.2.2.2.2.2.1 + (Int.natAbs ((List.length x1.2.2.2.2.2.2.1 : Int)) + (Int.natAbs (0 : Int) + (List.length x1.2.2.2.2.1 + (List.length x1.2.2.2.2.2.2.1 + (List.length x1.2.2.2.2.2.2.2.2.1 + (List.length x1.2.2.2.2.2.2.2.2.2.1 + 2))))))))))))) (x1.2.2.1, y2, 0, x1.1, x1.2.1, x1.2.2.1, x1.2.2.2.2.2.2.1, (List.length x1.2.2.2.2.2.2.1 : Int), 0, x1.2.2.2.1, x1.2.2.2.2.1, x1.2.2.2.2.2.1, x1.2.2.2.2.2.2.1, x1.2.2.2.2.2.2.2.1, x1.2.2.2.2.2.2.2.2.1, x1.2.2.2.2.2.2.2.2.2.1, ()) (whole_Int_Times_b7)) fun v3 =>
    chk (decide (0 ≤ (w64 (v3.1 + ((List.length v3.2.2.2.2.2.2.2.2.1 : Int))))) && decide ((w64 (v3.1 + ((List.length v3.2.2.2.2.2.2.2.2.1 : Int)))) < (List.length v3.2.2.2.2.2.2.2.2.2.2.2.1 : Int))) <|
    Option.bind (v3.2.2.2.2.2.2.2.2.2.2.2.1[(w64 (v3.1 + ((List.length v3.2.2.2.2.2.2.2.2.1 : Int)))).toNat]?) fun _ =>
    again (v3.2.2.1, v3.2.2.2.1, w64 (v3.2.2.2.2.1 + 1), v3.2.2.2.2.2.1, v3.2.2.2.2.2.2.1, v3.2.2.2.2.2.2.2.1, v3.2.2.2.2.2.2.2.2.1, v3.2.2.2.2.2.2.2.2.2.1, v3.2.2.2.2.2.2.2.2.2.2.1, List.set v3.2.2.2.2.2.2.2.2.2.2.2.1 (w64 (v3.1 + ((List.length v3.2.2.2.2.2.2.2.2.1 : Int)))).toNat (wu32 v3.2.1), ())
  else
    some (Sum.inr (x1.2.2.2.1, x1.2.2.2.2.1, x1.2.2.2.2.2.1, x1.2.2.2.2.2.2.1, x1.2.2.2.2.2.2.2.1, x1.2.2.2.2.2.2.2.2.1, x1.2.2.2.2.2.2.2.2.2.1, ()))

def whole_Int_Times (a0 : D_whole_Int) (a1 : D_whole_Int) : Option (D_whole_Int × Unit) :=
  chk (decide (0 ≤ (w64 (((List.length a0.2 : Int)) + ((List.length a1.2 : Int))))) && decide ((w64 (((List.length a0.2 : Int)) + ((List.length a1.2 : Int)))) ≤ (w64 (((List.length a0.2 : Int)) + ((List.length a1.2 : Int))))) && decide ((4 : Int) * (w64 (((List.length a0.2 : Int)) + ((List.length a1.2 : Int)))) ≤ 281474976710656) && decide ((w64 (((List.length a0.2 : Int)) + ((List.length a1.2 : Int)))) ≤ 9223372036854775807)) <|
  joinB (β := (D_whole_Int × Unit)) (γ := (Bool × (List Int) × Bool × (List Int) × Bool × (List Int) × (List Int) × Unit)) (
    iter (X := whole_Int_Times_x3) (β := whole_Int_Times_r3) (List.length a0.2 + (Int.natAbs ((List.length a0.2 : Int)) + (Int.natAbs (0 : Int) + (List.length a0.2 + (List.length a1.2 + (List.length ([] : List Int) + (List.length ((List.replicate (Int.toNat (w64 (((List.length a0.2 : Int)) + ((List.length a1.2 : Int))))) 0) : List Int) + 2))))))) (a0.2, (List.length a0.2 : Int), 0, a0.1, a0.2, a1.1, a1.2, false, [], List.replicate (Int.toNat (w64 (((List.length a0.2 : Int)) + ((List.length a1.2 : Int))))) 0, ()) (whole_Int_Times_b3)) fun v10 =>
  Option.bind (whole_made (!(v10.1 == v10.2.2.1)) v10.2.2.2.2.2.2.1) fun r11 =>
  some (r11.1, ())

abbrev whole_Power_x3 : Type := Int × Int × Bool × (List Int) × Bool × (List Int) × Unit
abbrev whole_Power_r3 : Type := ((D_whole_Int × Unit) ⊕ (Bool × (List Int) × Bool × (List Int) × Unit))
def whole_Power_b3  (x1 : whole_Power_x3) (again : whole_Power_x3 → Option whole_Power_r3) : Option whole_Power_r3 :=
  bif decide (x1.2.1 < x1.1) then
    Option.bind (whole_Of 10) fun r2 =>
    Option.bind (whole_Int_Times (x1.2.2.2.2.1, x1.2.2.2.2.2.1) r2.1) fun r3 =>
    again (x1.1, w64 (x1.2.1 + 1), x1.2.2.1, x1.2.2.2.1, r3.1.1, r3.1.2, ())
  else
    some (Sum.inr (x1.2.2.1, x1.2.2.2.1, x1.2.2.2.2.1, x1.2.2.2.2.2.1, ()))

def whole_Power (a0 : Int) : Option (D_whole_Int × Unit) :=
  Option.bind (whole_Of 1) fun r1 =>
  joinB (β := (D_whole_Int × Unit)) (γ := (Bool × (List Int) × Bool × (List Int) × Unit)) (
    iter (X := whole_Power_x3) (β := whole_Power_r3) (Int.natAbs a0 + (Int.natAbs (0 : Int) + (List.length ([] : List Int) + (List.length r1.1.2 + 2)))) (a0, 0, false, [], r1.1.1, r1.1.2, ()) (whole_Power_b3)) fun v5 =>
  some ((v5.2.2.1, v5.2.2.2.1), ())

abbrev whole_sum_v_x6 : Type := (List Int) × (List Int) × Int × (List Int) × Int × Int × Unit
abbrev whole_sum_v_r6 : Type := (((List Int) × Unit) ⊕ ((List Int) × Int × Unit))
def whole_sum_v_b6  (x1 : whole_sum_v_x6) (again : whole_sum_v_x6 → Option whole_sum_v_r6) : Option whole_sum_v_r6 :=
  bif decide (x1.2.2.2.2.2.1 < x1.2.2.2.2.1) then
    Option.bind (idx x1.2.2.2.1 x1.2.2.2.2.2.1) fun y2 =>
    joinB (β := (((List Int) × Unit) ⊕ ((List Int) × Int × Unit))) (γ := ((List Int) × (List Int) × Int × (List Int) × Int × Int × Unit)) (
      bif decide (x1.2.2.2.2.2.1 < ((List.length x1.1 : Int))) then
        Option.bind (idx x1.1 x1.2.2.2.2.2.1) fun y3 =>
        let n4 : Int := wu64 ((wu64 (x1.2.2.1 + (wu64 y2))) + (wu64 y3))
        some (Sum.inr (x1.1, x1.2.1, n4, x1.2.2.2.1, x1.2.2.2.2.1, x1.2.2.2.2.2.1, ()))
      else
        some (Sum.inr (x1.1, x1.2.1, wu64 (x1.2.2.1 + (wu64 y2)), x1.2.2.2.1, x1.2.2.2.2.1, x1.2.2.2.2.2.1, ()))) fun v5 =>
    chk (decide (((List.length v5.2.1) + 1) * 4 ≤ 140737488355328) && decide ((List.length v5.2.1) + 1 ≤ maxLen)) <|
    again (v5.1, v5.2.1 ++ [(wu32 v5.2.2.1)], Int.fdiv v5.2.2.1 (2 ^ 32), v5.2.2.2.1, v5.2.2.2.2.1, w64 (v5.2.2.2.2.2.1 + 1), ())
  else
    some (Sum.inr (x1.2.1, x1.2.2.1, ()))

def whole_sum_v (a0 : List Int) (a1 : List Int) : Option ((List Int) × Unit) :=
  joinB (β := ((List Int) × Unit)) (γ := ((List Int) × (List Int) × Unit)) (
    bif decide (((List.length a0 : Int)) < ((List.length a1 : Int))) then
      some (Sum.inr (a1, a0, ()))
    else
      some (Sum.inr (a0, a1, ()))) fun v1 =>
  chk (decide (0 ≤ (0 : Int)) && decide ((0 : Int) ≤ (w64 (((List.length v1.1 : Int)) + 1))) && decide ((4 : Int) * (w64 (((List.length v1.1 : Int)) + 1)) ≤ 281474976710656) && decide ((w64 (((List.length v1.1 : Int)) + 1)) ≤ 9223372036854775807)) <|
  joinB (β := ((List Int) × Unit)) (γ := ((List Int) × Int × Unit)) (
    iter (X := whole_sum_v_x6) (β := whole_sum_v_r6) (List.length v1.2.1 + (List.length ([] : List Int) + (Int.natAbs (0 : Int) + (List.length v1.1 + (Int.natAbs ((List.length v1.1 : Int)) + (Int.natAbs (0 : Int) + 2)))))) (v1.2.1, [], 0, v1.1, (List.length v1.1 : Int), 0, ()) (whole_sum_v_b6)) fun v7 =>
  chk (decide (((List.length v7.1) + 1) * 4 ≤ 140737488355328) && decide ((List.length v7.1) + 1 ≤ maxLen)) <|
  some (v7.1 ++ [(wu32 v7.2.1)], ())

def whole_Int_Plus (a0 : D_whole_Int) (a1 : D_whole_Int) : Option (D_whole_Int × Unit) :=
  bif a0.1 == a1.1 then
    Option.bind (whole_sum_v a0.2 a1.2) fun r1 =>
    Option.bind (whole_made a0.1 r1.1) fun r2 =>
    some (r2.1, ())
  else
    Option.bind (whole_compare a0.2 a1.2) fun r3 =>
    bif decide (r3.1 ≥ 0) then
      Option.bind (whole_less a0.2 a1.2) fun r4 =>
      Option.bind (whole_made a0.1 r4.1) fun r5 =>
      some (r5.1, ())
    else
      Option.bind (whole_less a1.2 a0.2) fun r6 =>
      Option.bind (whole_made a1.1 r6.1) fun r7 =>
      some (r7.1, ())

def whole_Int_Less (a0 : D_whole_Int) (a1 : D_whole_Int) : Option (D_whole_Int × Unit) :=
  Option.bind (whole_Int_Minus a1) fun r1 =>
  Option.bind (whole_Int_Plus a0 r1.1) fun r2 =>
  some (r2.1, ())

def whole_Int_Compare (a0 : D_whole_Int) (a1 : D_whole_Int) : Option (Int × Unit) :=
  Option.bind (whole_Int_Less a0 a1) fun r1 =>
  Option.bind (whole_Int_Sign r1.1) fun r2 =>
  some (r2.1, ())

def whole_Int_Odd (a0 : D_whole_Int) : Option (Bool × Unit) :=
  bif decide (((List.length a0.2 : Int)) > 0) then
    Option.bind (idx a0.2 0) fun y1 =>
    some ((wu32 (((BitVec.ofInt (IntKind.bits .u32) y1 &&& BitVec.ofInt (IntKind.bits .u32) 1).toNat : Int))) == 1, ())
  else
    some (false, ())

def amount_Divided (a0 : D_whole_Int) (a1 : D_whole_Int) (a2 : Int) : Option (D_whole_Int × Unit) :=
  Option.bind (whole_Int_By a0 a1) fun r1 =>
  Option.bind (whole_Int_Sign r1.2.1) fun r2 =>
  bif r2.1 != 0 then
    Option.bind (whole_Int_Plus r1.2.1 r1.2.1) fun r3 =>
    Option.bind (whole_Int_Compare r3.1 a1) fun r4 =>
    Option.bind (whole_Int_Sign a0) fun r5 =>
    bif a2 == 4 then
      Option.bind (whole_Of 1) fun r6 =>
      Option.bind (whole_Int_Plus r1.1 r6.1) fun r7 =>
      Option.bind (whole_Int_Sign a0) fun r8 =>
      bif decide (r8.1 < 0) then
        Option.bind (whole_Int_Minus r7.1) fun r9 =>
        some (r9.1, ())
      else
        some (r7.1, ())
    else
      bif a2 == 5 then
        bif decide (r5.1 < 0) then
          Option.bind (whole_Of 1) fun r10 =>
          Option.bind (whole_Int_Plus r1.1 r10.1) fun r11 =>
          Option.bind (whole_Int_Sign a0) fun r12 =>
          bif decide (r12.1 < 0) then
            Option.bind (whole_Int_Minus r11.1) fun r13 =>
            some (r13.1, ())
          else
            some (r11.1, ())
        else
          bif a2 == 6 then
            bif !(decide (r5.1 < 0)) then
              Option.bind (whole_Of 1) fun r14 =>
              Option.bind (whole_Int_Plus r1.1 r14.1) fun r15 =>
              Option.bind (whole_Int_Sign a0) fun r16 =>
              bif decide (r16.1 < 0) then
                Option.bind (whole_Int_Minus r15.1) fun r17 =>
                some (r17.1, ())
              else
                some (r15.1, ())
            else
              bif a2 == 1 then
                bif decide (r4.1 ≥ 0) then
                  Option.bind (whole_Of 1) fun r18 =>
                  Option.bind (whole_Int_Plus r1.1 r18.1) fun r19 =>
                  Option.bind (whole_Int_Sign a0) fun r20 =>
                  bif decide (r20.1 < 0) then
                    Option.bind (whole_Int_Minus r19.1) fun r21 =>
                    some (r21.1, ())
                  else
                    some (r19.1, ())
                else
                  bif a2 == 2 then
                    bif decide (r4.1 > 0) then
                      Option.bind (whole_Of 1) fun r22 =>
                      Option.bind (whole_Int_Plus r1.1 r22.1) fun r23 =>
                      Option.bind (whole_Int_Sign a0) fun r24 =>
                      bif decide (r24.1 < 0) then
                        Option.bind (whole_Int_Minus r23.1) fun r25 =>
                        some (r25.1, ())
                      else
                        some (r23.1, ())
                    else
                      bif r4.1 == 0 then
                        Option.bind (whole_Int_Odd r1.1) fun r26 =>
                        bif r26.1 then
                          Option.bind (whole_Of 1) fun r27 =>
                          Option.bind (whole_Int_Plus r1.1 r27.1) fun r28 =>
                          Option.bind (whole_Int_Sign a0) fun r29 =>
                          bif decide (r29.1 < 0) then
                            Option.bind (whole_Int_Minus r28.1) fun r30 =>
                            some (r30.1, ())
                          else
                            some (r28.1, ())
                        else
                          Option.bind (whole_Int_Sign a0) fun r31 =>
                          bif decide (r31.1 < 0) then
                            Option.bind (whole_Int_Minus r1.1) fun r32 =>
                            some (r32.1, ())
                          else
                            some (r1.1, ())
                      else
                        Option.bind (whole_Int_Sign a0) fun r33 =>
                        bif decide (r33.1 < 0) then
                          Option.bind (whole_Int_Minus r1.1) fun r34 =>
                          some (r34.1, ())
                        else
                          some (r1.1, ())
                  else
                    Option.bind (whole_Int_Sign a0) fun r35 =>
                    bif decide (r35.1 < 0) then
                      Option.bind (whole_Int_Minus r1.1) fun r36 =>
                      some (r36.1, ())
                    else
                      some (r1.1, ())
              else
                bif a2 == 2 then
                  bif decide (r4.1 > 0) then
                    Option.bind (whole_Of 1) fun r37 =>
                    Option.bind (whole_Int_Plus r1.1 r37.1) fun r38 =>
                    Option.bind (whole_Int_Sign a0) fun r39 =>
                    bif decide (r39.1 < 0) then
                      Option.bind (whole_Int_Minus r38.1) fun r40 =>
                      some (r40.1, ())
                    else
                      some (r38.1, ())
                  else
                    bif r4.1 == 0 then
                      Option.bind (whole_Int_Odd r1.1) fun r41 =>
                      bif r41.1 then
                        Option.bind (whole_Of 1) fun r42 =>
                        Option.bind (whole_Int_Plus r1.1 r42.1) fun r43 =>
                        Option.bind (whole_Int_Sign a0) fun r44 =>
                        bif decide (r44.1 < 0) then
                          Option.bind (whole_Int_Minus r43.1) fun r45 =>
                          some (r45.1, ())
                        else
                          some (r43.1, ())
                      else
                        Option.bind (whole_Int_Sign a0) fun r46 =>
                        bif decide (r46.1 < 0) then
                          Option.bind (whole_Int_Minus r1.1) fun r47 =>
                          some (r47.1, ())
                        else
                          some (r1.1, ())
                    else
                      Option.bind (whole_Int_Sign a0) fun r48 =>
                      bif decide (r48.1 < 0) then
                        Option.bind (whole_Int_Minus r1.1) fun r49 =>
                        some (r49.1, ())
                      else
                        some (r1.1, ())
                else
                  Option.bind (whole_Int_Sign a0) fun r50 =>
                  bif decide (r50.1 < 0) then
                    Option.bind (whole_Int_Minus r1.1) fun r51 =>
                    some (r51.1, ())
                  else
                    some (r1.1, ())
          else
            bif a2 == 1 then
              bif decide (r4.1 ≥ 0) then
                Option.bind (whole_Of 1) fun r52 =>
                Option.bind (whole_Int_Plus r1.1 r52.1) fun r53 =>
                Option.bind (whole_Int_Sign a0) fun r54 =>
                bif decide (r54.1 < 0) then
                  Option.bind (whole_Int_Minus r53.1) fun r55 =>
                  some (r55.1, ())
                else
                  some (r53.1, ())
              else
                bif a2 == 2 then
                  bif decide (r4.1 > 0) then
                    Option.bind (whole_Of 1) fun r56 =>
                    Option.bind (whole_Int_Plus r1.1 r56.1) fun r57 =>
                    Option.bind (whole_Int_Sign a0) fun r58 =>
                    bif decide (r58.1 < 0) then
                      Option.bind (whole_Int_Minus r57.1) fun r59 =>
                      some (r59.1, ())
                    else
                      some (r57.1, ())
                  else
                    bif r4.1 == 0 then
                      Option.bind (whole_Int_Odd r1.1) fun r60 =>
                      bif r60.1 then
                        Option.bind (whole_Of 1) fun r61 =>
                        Option.bind (whole_Int_Plus r1.1 r61.1) fun r62 =>
                        Option.bind (whole_Int_Sign a0) fun r63 =>
                        bif decide (r63.1 < 0) then
                          Option.bind (whole_Int_Minus r62.1) fun r64 =>
                          some (r64.1, ())
                        else
                          some (r62.1, ())
                      else
                        Option.bind (whole_Int_Sign a0) fun r65 =>
                        bif decide (r65.1 < 0) then
                          Option.bind (whole_Int_Minus r1.1) fun r66 =>
                          some (r66.1, ())
                        else
                          some (r1.1, ())
                    else
                      Option.bind (whole_Int_Sign a0) fun r67 =>
                      bif decide (r67.1 < 0) then
                        Option.bind (whole_Int_Minus r1.1) fun r68 =>
                        some (r68.1, ())
                      else
                        some (r1.1, ())
                else
                  Option.bind (whole_Int_Sign a0) fun r69 =>
                  bif decide (r69.1 < 0) then
                    Option.bind (whole_Int_Minus r1.1) fun r70 =>
                    some (r70.1, ())
                  else
                    some (r1.1, ())
            else
              bif a2 == 2 then
                bif decide (r4.1 > 0) then
                  Option.bind (whole_Of 1) fun r71 =>
                  Option.bind (whole_Int_Plus r1.1 r71.1) fun r72 =>
                  Option.bind (whole_Int_Sign a0) fun r73 =>
                  bif decide (r73.1 < 0) then
                    Option.bind (whole_Int_Minus r72.1) fun r74 =>
                    some (r74.1, ())
                  else
                    some (r72.1, ())
                else
                  bif r4.1 == 0 then
                    Option.bind (whole_Int_Odd r1.1) fun r75 =>
                    bif r75.1 then
                      Option.bind (whole_Of 1) fun r76 =>
                      Option.bind (whole_Int_Plus r1.1 r76.1) fun r77 =>
                      Option.bind (whole_Int_Sign a0) fun r78 =>
                      bif decide (r78.1 < 0) then
                        Option.bind (whole_Int_Minus r77.1) fun r79 =>
                        some (r79.1, ())
                      else
                        some (r77.1, ())
                    else
                      Option.bind (whole_Int_Sign a0) fun r80 =>
                      bif decide (r80.1 < 0) then
                        Option.bind (whole_Int_Minus r1.1) fun r81 =>
                        some (r81.1, ())
                      else
                        some (r1.1, ())
                  else
                    Option.bind (whole_Int_Sign a0) fun r82 =>
                    bif decide (r82.1 < 0) then
                      Option.bind (whole_Int_Minus r1.1) fun r83 =>
                      some (r83.1, ())
                    else
                      some (r1.1, ())
              else
                Option.bind (whole_Int_Sign a0) fun r84 =>
                bif decide (r84.1 < 0) then
                  Option.bind (whole_Int_Minus r1.1) fun r85 =>
                  some (r85.1, ())
                else
                  some (r1.1, ())
      else
        bif a2 == 6 then
          bif !(decide (r5.1 < 0)) then
            Option.bind (whole_Of 1) fun r86 =>
            Option.bind (whole_Int_Plus r1.1 r86.1) fun r87 =>
            Option.bind (whole_Int_Sign a0) fun r88 =>
            bif decide (r88.1 < 0) then
              Option.bind (whole_Int_Minus r87.1) fun r89 =>
              some (r89.1, ())
            else
              some (r87.1, ())
          else
            bif a2 == 1 then
              bif decide (r4.1 ≥ 0) then
                Option.bind (whole_Of 1) fun r90 =>
                Option.bind (whole_Int_Plus r1.1 r90.1) fun r91 =>
                Option.bind (whole_Int_Sign a0) fun r92 =>
                bif decide (r92.1 < 0) then
                  Option.bind (whole_Int_Minus r91.1) fun r93 =>
                  some (r93.1, ())
                else
                  some (r91.1, ())
              else
                bif a2 == 2 then
                  bif decide (r4.1 > 0) then
                    Option.bind (whole_Of 1) fun r94 =>
                    Option.bind (whole_Int_Plus r1.1 r94.1) fun r95 =>
                    Option.bind (whole_Int_Sign a0) fun r96 =>
                    bif decide (r96.1 < 0) then
                      Option.bind (whole_Int_Minus r95.1) fun r97 =>
                      some (r97.1, ())
                    else
                      some (r95.1, ())
                  else
                    bif r4.1 == 0 then
                      Option.bind (whole_Int_Odd r1.1) fun r98 =>
                      bif r98.1 then
                        Option.bind (whole_Of 1) fun r99 =>
                        Option.bind (whole_Int_Plus r1.1 r99.1) fun r100 =>
                        Option.bind (whole_Int_Sign a0) fun r101 =>
                        bif decide (r101.1 < 0) then
                          Option.bind (whole_Int_Minus r100.1) fun r102 =>
                          some (r102.1, ())
                        else
                          some (r100.1, ())
                      else
                        Option.bind (whole_Int_Sign a0) fun r103 =>
                        bif decide (r103.1 < 0) then
                          Option.bind (whole_Int_Minus r1.1) fun r104 =>
                          some (r104.1, ())
                        else
                          some (r1.1, ())
                    else
                      Option.bind (whole_Int_Sign a0) fun r105 =>
                      bif decide (r105.1 < 0) then
                        Option.bind (whole_Int_Minus r1.1) fun r106 =>
                        some (r106.1, ())
                      else
                        some (r1.1, ())
                else
                  Option.bind (whole_Int_Sign a0) fun r107 =>
                  bif decide (r107.1 < 0) then
                    Option.bind (whole_Int_Minus r1.1) fun r108 =>
                    some (r108.1, ())
                  else
                    some (r1.1, ())
            else
              bif a2 == 2 then
                bif decide (r4.1 > 0) then
                  Option.bind (whole_Of 1) fun r109 =>
                  Option.bind (whole_Int_Plus r1.1 r109.1) fun r110 =>
                  Option.bind (whole_Int_Sign a0) fun r111 =>
                  bif decide (r111.1 < 0) then
                    Option.bind (whole_Int_Minus r110.1) fun r112 =>
                    some (r112.1, ())
                  else
                    some (r110.1, ())
                else
                  bif r4.1 == 0 then
                    Option.bind (whole_Int_Odd r1.1) fun r113 =>
                    bif r113.1 then
                      Option.bind (whole_Of 1) fun r114 =>
                      Option.bind (whole_Int_Plus r1.1 r114.1) fun r115 =>
                      Option.bind (whole_Int_Sign a0) fun r116 =>
                      bif decide (r116.1 < 0) then
                        Option.bind (whole_Int_Minus r115.1) fun r117 =>
                        some (r117.1, ())
                      else
                        some (r115.1, ())
                    else
                      Option.bind (whole_Int_Sign a0) fun r118 =>
                      bif decide (r118.1 < 0) then
                        Option.bind (whole_Int_Minus r1.1) fun r119 =>
                        some (r119.1, ())
                      else
                        some (r1.1, ())
                  else
                    Option.bind (whole_Int_Sign a0) fun r120 =>
                    bif decide (r120.1 < 0) then
                      Option.bind (whole_Int_Minus r1.1) fun r121 =>
                      some (r121.1, ())
                    else
                      some (r1.1, ())
              else
                Option.bind (whole_Int_Sign a0) fun r122 =>
                bif decide (r122.1 < 0) then
                  Option.bind (whole_Int_Minus r1.1) fun r123 =>
                  some (r123.1, ())
                else
                  some (r1.1, ())
        else
          bif a2 == 1 then
            bif decide (r4.1 ≥ 0) then
              Option.bind (whole_Of 1) fun r124 =>
              Option.bind (whole_Int_Plus r1.1 r124.1) fun r125 =>
              Option.bind (whole_Int_Sign a0) fun r126 =>
              bif decide (r126.1 < 0) then
                Option.bind (whole_Int_Minus r125.1) fun r127 =>
                some (r127.1, ())
              else
                some (r125.1, ())
            else
              bif a2 == 2 then
                bif decide (r4.1 > 0) then
                  Option.bind (whole_Of 1) fun r128 =>
                  Option.bind (whole_Int_Plus r1.1 r128.1) fun r129 =>
                  Option.bind (whole_Int_Sign a0) fun r130 =>
                  bif decide (r130.1 < 0) then
                    Option.bind (whole_Int_Minus r129.1) fun r131 =>
                    some (r131.1, ())
                  else
                    some (r129.1, ())
                else
                  bif r4.1 == 0 then
                    Option.bind (whole_Int_Odd r1.1) fun r132 =>
                    bif r132.1 then
                      Option.bind (whole_Of 1) fun r133 =>
                      Option.bind (whole_Int_Plus r1.1 r133.1) fun r134 =>
                      Option.bind (whole_Int_Sign a0) fun r135 =>
                      bif decide (r135.1 < 0) then
                        Option.bind (whole_Int_Minus r134.1) fun r136 =>
                        some (r136.1, ())
                      else
                        some (r134.1, ())
                    else
                      Option.bind (whole_Int_Sign a0) fun r137 =>
                      bif decide (r137.1 < 0) then
                        Option.bind (whole_Int_Minus r1.1) fun r138 =>
                        some (r138.1, ())
                      else
                        some (r1.1, ())
                  else
                    Option.bind (whole_Int_Sign a0) fun r139 =>
                    bif decide (r139.1 < 0) then
                      Option.bind (whole_Int_Minus r1.1) fun r140 =>
                      some (r140.1, ())
                    else
                      some (r1.1, ())
              else
                Option.bind (whole_Int_Sign a0) fun r141 =>
                bif decide (r141.1 < 0) then
                  Option.bind (whole_Int_Minus r1.1) fun r142 =>
                  some (r142.1, ())
                else
                  some (r1.1, ())
          else
            bif a2 == 2 then
              bif decide (r4.1 > 0) then
                Option.bind (whole_Of 1) fun r143 =>
                Option.bind (whole_Int_Plus r1.1 r143.1) fun r144 =>
                Option.bind (whole_Int_Sign a0) fun r145 =>
                bif decide (r145.1 < 0) then
                  Option.bind (whole_Int_Minus r144.1) fun r146 =>
                  some (r146.1, ())
                else
                  some (r144.1, ())
              else
                bif r4.1 == 0 then
                  Option.bind (whole_Int_Odd r1.1) fun r147 =>
                  bif r147.1 then
                    Option.bind (whole_Of 1) fun r148 =>
                    Option.bind (whole_Int_Plus r1.1 r148.1) fun r149 =>
                    Option.bind (whole_Int_Sign a0) fun r150 =>
                    bif decide (r150.1 < 0) then
                      Option.bind (whole_Int_Minus r149.1) fun r151 =>
                      some (r151.1, ())
                    else
                      some (r149.1, ())
                  else
                    Option.bind (whole_Int_Sign a0) fun r152 =>
                    bif decide (r152.1 < 0) then
                      Option.bind (whole_Int_Minus r1.1) fun r153 =>
                      some (r153.1, ())
                    else
                      some (r1.1, ())
                else
                  Option.bind (whole_Int_Sign a0) fun r154 =>
                  bif decide (r154.1 < 0) then
                    Option.bind (whole_Int_Minus r1.1) fun r155 =>
                    some (r155.1, ())
                  else
                    some (r1.1, ())
            else
              Option.bind (whole_Int_Sign a0) fun r156 =>
              bif decide (r156.1 < 0) then
                Option.bind (whole_Int_Minus r1.1) fun r157 =>
                some (r157.1, ())
              else
                some (r1.1, ())
  else
    Option.bind (whole_Int_Sign a0) fun r158 =>
    bif decide (r158.1 < 0) then
      Option.bind (whole_Int_Minus r1.1) fun r159 =>
      some (r159.1, ())
    else
      some (r1.1, ())

def bill_fits (a0 : D_whole_Int) : Option (Bool × Unit) :=
  Option.bind (whole_Int_Int a0 1000000000000000) fun r1 =>
  some (r1.2.1, ())

def bill_gross (a0 : D_api_Invoice) (a1 : D_api_BillLine) : Option (D_whole_Int × Bool × Unit) :=
  Option.bind (whole_Of a1.2.2.2.1.1) fun r1 =>
  Option.bind (whole_Of a1.2.2.2.2.2.1.1) fun r2 =>
  Option.bind (whole_Int_Times r1.1 r2.1) fun r3 =>
  Option.bind (whole_Power a0.2.2.2.1) fun r4 =>
  Option.bind (whole_Int_Times r3.1 r4.1) fun r5 =>
  Option.bind (whole_Power (w64 (a1.2.2.2.1.2 + a1.2.2.2.2.2.1.2))) fun r6 =>
  Option.bind (whole_Of a1.2.2.2.2.2.2.1) fun r7 =>
  Option.bind (whole_Int_Times r6.1 r7.1) fun r8 =>
  Option.bind (amount_Divided r5.1 r8.1 a0.2.2.2.2.1) fun r9 =>
  Option.bind (bill_fits r9.1) fun r10 =>
  some (r9.1, r10.1, ())

def amount_Scaled (a0 : D_api_Decimal) (a1 : Int) : Option (D_whole_Int × Unit) :=
  Option.bind (whole_Of a0.1) fun r1 =>
  Option.bind (whole_Power (w64 (a1 - a0.2))) fun r2 =>
  Option.bind (whole_Int_Times r1.1 r2.1) fun r3 =>
  some (r3.1, ())

def bill_part (a0 : D_api_Invoice) (a1 : D_whole_Int) (a2 : D_api_Decimal) : Option (D_whole_Int × Unit) :=
  Option.bind (whole_Of a2.1) fun r1 =>
  Option.bind (whole_Int_Times a1 r1.1) fun r2 =>
  Option.bind (whole_Of 100) fun r3 =>
  Option.bind (whole_Power a2.2) fun r4 =>
  Option.bind (whole_Int_Times r3.1 r4.1) fun r5 =>
  Option.bind (amount_Divided r2.1 r5.1 a0.2.2.2.2.1) fun r6 =>
  some (r6.1, ())

abbrev bill_net_x4 : Type := Bool × (List D_api_Extra) × Int × Int × (List UInt8) × (List UInt8) × Int × Int × Int × Bool × (List D_api_Rate) × (List D_api_BillLine) × (List D_api_Extra) × Bool × (List Int) × Bool × (List Int) × Bool × (List Int) × Unit
abbrev bill_net_r4 : Type := ((D_whole_Int × Bool × Unit) ⊕ (Bool × Bool × (List Int) × Bool × (List Int) × Unit))
def bill_net_b4  (x1 : bill_net_x4) (again : bill_net_x4 → Option bill_net_r4) : Option bill_net_r4 :=
  bif decide (x1.2.2.2.1 < x1.2.2.1) then
    Option.bind (idx x1.2.1 x1.2.2.2.1) fun y2 =>
    Option.bind (amount_Scaled y2.2.1 (if y2.2.1.2 > x1.2.2.2.2.2.2.2.1 then y2.2.1.2 else x1.2.2.2.2.2.2.2.1)) fun r3 =>
    joinB (β := ((D_whole_Int × Bool × Unit) ⊕ (Bool × Bool × (List Int) × Bool × (List Int) × Unit))) (γ := (Bool × (List D_api_Extra) × Int × Int × (List UInt8) × (List UInt8) × Int × Int × Int × Bool × (List D_api_Rate) × (List D_api_BillLine) × (List D_api_Extra) × Bool × (List Int) × Bool × (List Int) × Bool × (List Int) × Bool × (List Int) × Unit)) (
      bif y2.1 then
        Option.bind (bill_part (x1.2.2.2.2.1, x1.2.2.2.2.2.1, x1.2.2.2.2.2.2.1, x1.2.2.2.2.2.2.2.1, x1.2.2.2.2.2.2.2.2.1, x1.2.2.2.2.2.2.2.2.2.1, x1.2.2.2.2.2.2.2.2.2.2.1, x1.2.2.2.2.2.2.2.2.2.2.2.1, x1.2.2.2.2.2.2.2.2.2.2.2.2.1) (x1.2.2.2.2.2.2.2.2.2.2.2.2.2.2.2.1, x1.2.2.2.2.2.2.2.2.2.2.2.2.2.2.2.2.1) y2.2.1) fun r4 =>
        some (Sum.inr (x1.1, x1.2.1, x1.2.2.1, x1.2.2.2.1, x1.2.2.2.2.1, x1.2.2.2.2.2.1, x1.2.2.2.2.2.2.1, x1.2.2.2.2.2.2.2.1, x1.2.2.2.2.2.2.2.2.1, x1.2.2.2.2.2.2.2.2.2.1, x1.2.2.2.2.2.2.2.2.2.2.1, x1.2.2.2.2.2.2.2.2.2.2.2.1, x1.2.2.2.2.2.2.2.2.2.2.2.2.1, x1.2.2.2.2.2.2.2.2.2.2.2.2.2.1, x1.2.2.2.2.2.2.2.2.2.2.2.2.2.2.1, x1.2.2.2.2.2.2.2.2.2.2.2.2.2.2.2.1, x1.2.2.2.2.2.2.2.2.2.2.2.2.2.2.2.2.1, x1.2.2.2.2.2.2.2.2.2.2.2.2.2.2.2.2.2.1, x1.2.2.2.2.2.2.2.2.2.2.2.2.2.2.2.2.2.2.1, r4.1.1, r4.1.2, ()))
      else
        some (Sum.inr (x1.1, x1.2.1, x1.2.2.1, x1.2.2.2.1, x1.2.2.2.2.1, x1.2.2.2.2.2.1, x1.2.2.2.2.2.2.1, x1.2.2.2.2.2.2.2.1, x1.2.2.2.2.2.2.2.2.1, x1.2.2.2.2.2.2.2.2.2.1, x1.2.2.2.2.2.2.2.2.2.2.1, x1.2.2.2.2.2.2.2.2.2.2.2.1, x1.2.2.2.2.2.2.2.2.2.2.2.2.1, x1.2.2.2.2.2.2.2.2.2.2.2.2.2.1, x1.2.2.2.2.2.2.2.2.2.2.2.2.2.2.1, x1.2.2.2.2.2.2.2.2.2.2.2.2.2.2.2.1, x1.2.2.2.2.2.2.2.2.2.2.2.2.2.2.2.2.1, x1.2.2.2.2.2.2.2.2.2.2.2.2.2.2.2.2.2.1, x1.2.2.2.2.2.2.2.2.2.2.2.2.2.2.2.2.2.2.1, r3.1.1, r3.1.2, ()))) fun v5 =>
    Option.bind (whole_Int_Plus (v5.2.2.2.2.2.2.2.2.2.2.2.2.2.2.2.2.2.1, v5.2.2.2.2.2.2.2.2.2.2.2.2.2.2.2.2.2.2.1) (v5.2.2.2.2.2.2.2.2.2.2.2.2.2.2.2.2.2.2.2.1, v5.2.2.2.2.2.2.2.2.2.2.2.2.2.2.2.2.2.2.2.2.1)) fun r6 =>
    bif v5.1 then
      Option.bind (bill_fits (v5.2.2.2.2.2.2.2.2.2.2.2.2.2.2.2.2.2.2.2.1, v5.2.2.2.2.2.2.2.2.2.2.2.2.2.2.2.2.2.2.2.2.1)) fun r7 =>
      bif r7.1 then
        Option.bind (bill_fits r6.1) fun r8 =>
        again (r8.1, v5.2.1, v5.2.2.1, w64 (v5.2.2.2.1 + 1), v5.2.2.2.2.1, v5.2.2.2.2.2.1, v5.2.2.2.2.2.2.1, v5.2.2.2.2.2.2.2.1, v5.2.2.2.2.2.2.2.2.1, v5.2.2.2.2.2.2.2.2.2.1, v5.2.2.2.2.2.2.2.2.2.2.1, v5.2.2.2.2.2.2.2.2.2.2.2.1, v5.2.2.2.2.2.2.2.2.2.2.2.2.1, v5.2.2.2.2.2.2.2.2.2.2.2.2.2.1, v5.2.2.2.2.2.2.2.2.2.2.2.2.2.2.1, v5.2.2.2.2.2.2.2.2.2.2.2.2.2.2.2.1, v5.2.2.2.2.2.2.2.2.2.2.2.2.2.2.2.2.1, r6.1.1, r6.1.2, ())
      else
        again (false, v5.2.1, v5.2.2.1, w64 (v5.2.2.2.1 + 1), v5.2.2.2.2.1, v5.2.2.2.2.2.1, v5.2.2.2.2.2.2.1, v5.2.2.2.2.2.2.2.1, v5.2.2.2.2.2.2.2.2.1, v5.2.2.2.2.2.2.2.2.2.1, v5.2.2.2.2.2.2.2.2.2.2.1, v5.2.2.2.2.2.2.2.2.2.2.2.1, v5.2.2.2.2.2.2.2.2.2.2.2.2.1, v5.2.2.2.2.2.2.2.2.2.2.2.2.2.1, v5.2.2.2.2.2.2.2.2.2.2.2.2.2.2.1, v5.2.2.2.2.2.2.2.2.2.2.2.2.2.2.2.1, v5.2.2.2.2.2.2.2.2.2.2.2.2.2.2.2.2.1, r6.1.1, r6.1.2, ())
    else
      again (false, v5.2.1, v5.2.2.1, w64 (v5.2.2.2.1 + 1), v5.2.2.2.2.1, v5.2.2.2.2.2.1, v5.2.2.2.2.2.2.1, v5.2.2.2.2.2.2.2.1, v5.2.2.2.2.2.2.2.2.1, v5.2.2.2.2.2.2.2.2.2.1, v5.2.2.2.2.2.2.2.2.2.2.1, v5.2.2.2.2.2.2.2.2.2.2.2.1, v5.2.2.2.2.2.2.2.2.2.2.2.2.1, v5.2.2.2.2.2.2.2.2.2.2.2.2.2.1, v5.2.2.2.2.2.2.2.2.2.2.2.2.2.2.1, v5.2.2.2.2.2.2.2.2.2.2.2.2.2.2.2.1, v5.2.2.2.2.2.2.2.2.2.2.2.2.2.2.2.2.1, r6.1.1, r6.1.2, ())
  else
    some (Sum.inr (x1.1, x1.2.2.2.2.2.2.2.2.2.2.2.2.2.1, x1.2.2.2.2.2.2.2.2.2.2.2.2.2.2.1, x1.2.2.2.2.2.2.2.2.2.2.2.2.2.2.2.2.2.1, x1.2.2.2.2.2.2.2.2.2.2.2.2.2.2.2.2.2.2.1, ()))

def bill_net (a0 : D_api_Invoice) (a1 : D_api_BillLine) : Option (D_whole_Int × Bool × Unit) :=
  Option.bind (bill_gross a0 a1) fun r1 =>
  joinB (β := (D_whole_Int × Bool × Unit)) (γ := (Bool × Bool × (List Int) × Bool × (List Int) × Unit)) (
    iter (X := bill_net_x4) (β := bill_net_r4) (List.length a1.2.2.2.2.2.2.2.1 + (Int.natAbs ((List.length a1.2.2.2.2.2.2.2.1 : Int)) + (Int.natAbs (0 : Int) + (List.length a0.1 + (List.length a0.2.1 + (Int.natAbs a0.2.2.1 + (Int.natAbs a0.2.2.2.1 + (Int.natAbs a0.2.2.2.2.1 + (List.length a0.2.2.2.2.2.2.1 + (List.length a0.2.2.2.2.2.2.2.1 + (List.length a0.2.2.2.2.2.2.2.2 + (List.length ([] : List Int) + (List.length r1.1.2 + (List.length r1.1.2 + 2)))))))))))))) (r1.2.1, a1.2.2.2.2.2.2.2.1, (List.length a1.2.2.2.2.2.2.2.1 : Int), 0, a0.1, a0.2.1, a0.2.2.1, a0.2.2.2.1, a0.2.2.2.2.1, a0.2.2.2.2.2.1, a0.2.2.2.2.2.2.1, a0.2.2.2.2.2.2.2.1, a0.2.2.2.2.2.2.2.2, false, [], r1.1.1, r1.1.2, r1.1.1, r1.1.2, ()) (bill_net_b4)) fun v10 =>
  some ((v10.2.2.2.1, v10.2.2.2.2.1), v10.1, ())

def bill_ofLine (a0 : D_api_Invoice) (a1 : Int) (_a2 : Unit) : Option (D_api_Decimal × Int × Unit) :=
  Option.bind (bill_CheckInvoice a0) fun r1 =>
  bif r1.1 != 0 then
    some ((0, 0), r1.1, ())
  else
    Option.bind (kit_Outside a1 0 (w64 (((List.length a0.2.2.2.2.2.2.2.1 : Int)) - 1))) fun r2 =>
    bif r2.1 then
      some ((0, 0), 1, ())
    else
      Option.bind (idx a0.2.2.2.2.2.2.2.1 a1) fun y3 =>
      Option.bind (bill_gross a0 y3) fun r4 =>
      bif !r4.2.1 then
        some ((0, 0), 1, ())
      else
        Option.bind (amount_Made r4.1 a0.2.2.2.1) fun r5 =>
        some (r5.1, r5.2.1, ())

def bill_ofLine_net (a0 : D_api_Invoice) (a1 : Int) (_a2 : Unit) : Option (D_api_Decimal × Int × Unit) :=
  Option.bind (bill_CheckInvoice a0) fun r1 =>
  bif r1.1 != 0 then
    some ((0, 0), r1.1, ())
  else
    Option.bind (kit_Outside a1 0 (w64 (((List.length a0.2.2.2.2.2.2.2.1 : Int)) - 1))) fun r2 =>
    bif r2.1 then
      some ((0, 0), 1, ())
    else
      Option.bind (idx a0.2.2.2.2.2.2.2.1 a1) fun y3 =>
      Option.bind (bill_net a0 y3) fun r4 =>
      bif !r4.2.1 then
        some ((0, 0), 1, ())
      else
        Option.bind (amount_Made r4.1 a0.2.2.2.1) fun r5 =>
        some (r5.1, r5.2.1, ())

def bill_Gross (a0 : D_api_Invoice) (a1 : Int) : Option (D_api_Decimal × Int × Unit) :=
  Option.bind (bill_ofLine a0 a1 ()) fun r1 =>
  some (r1.1, r1.2.1, ())

abbrev r11_rateOf_x2 : Type := (List UInt8) × (List D_api_Rate) × Int × Int × Unit
abbrev r11_rateOf_r2 : Type := ((Int × Unit) ⊕ Unit)
def r11_rateOf_b2  (x1 : r11_rateOf_x2) (again : r11_rateOf_x2 → Option r11_rateOf_r2) : Option r11_rateOf_r2 :=
  bif decide (x1.2.2.2.1 < x1.2.2.1) then
    Option.bind (idx x1.2.1 x1.2.2.2.1) fun y2 =>
    bif y2.1 == x1.1 then
      some (Sum.inl (x1.2.2.2.1, ()))
    else
      again (x1.1, x1.2.1, x1.2.2.1, w64 (x1.2.2.2.1 + 1), ())
  else
    some (Sum.inr ())

def r11_rateOf (a0 : D_api_Invoice) (a1 : List UInt8) : Option (Int × Unit) :=
  joinB (β := (Int × Unit)) (γ := Unit) (
    iter (X := r11_rateOf_x2) (β := r11_rateOf_r2) (List.length a1 + (List.length a0.2.2.2.2.2.2.1 + (Int.natAbs ((List.length a0.2.2.2.2.2.2.1 : Int)) + (Int.natAbs (0 : Int) + 2)))) (a1, a0.2.2.2.2.2.2.1, (List.length a0.2.2.2.2.2.2.1 : Int), 0, ()) (r11_rateOf_b2)) fun _ =>
  some ((-1), ())

abbrev r11_checkExtras_x4 : Type := Bool × (List D_api_Extra) × Int × Int × (List UInt8) × (List UInt8) × Int × Int × Int × Bool × (List D_api_Rate) × (List D_api_BillLine) × (List D_api_Extra) × Unit
abbrev r11_checkExtras_r4 : Type := ((Int × Unit) ⊕ Unit)
def r11_checkExtras_b4  (x1 : r11_checkExtras_x4) (again : r11_checkExtras_x4 → Option r11_checkExtras_r4) : Option r11_checkExtras_r4 :=
  bif decide (x1.2.2.2.1 < x1.2.2.1) then
    Option.bind (idx x1.2.1 x1.2.2.2.1) fun y2 =>
    Option.bind (r1_CheckDecimal y2.2.1) fun r3 =>
    bif r3.1 != 0 then
      some (Sum.inl (1, ()))
    else
      bif y2.2.1.1 == 0 then
        some (Sum.inl (13, ()))
      else
        bif y2.1 then
          Option.bind (r11_isIn y2.2.1 (-100) 100 9) fun r4 =>
          bif !r4.1 then
            some (Sum.inl (1, ()))
          else
            bif !y2.1 then
              Option.bind (r11_isIn y2.2.1 (-1000000000) 1000000000 x1.2.2.2.2.2.2.2.1) fun r5 =>
              bif !r5.1 then
                some (Sum.inl (1, ()))
              else
                bif x1.1 then
                  bif !(y2.2.2 == []) then
                    some (Sum.inl (3, ()))
                  else
                    bif !x1.1 then
                      bif !(y2.2.2 == []) then
                        Option.bind (r11_rateOf (x1.2.2.2.2.1, x1.2.2.2.2.2.1, x1.2.2.2.2.2.2.1, x1.2.2.2.2.2.2.2.1, x1.2.2.2.2.2.2.2.2.1, x1.2.2.2.2.2.2.2.2.2.1, x1.2.2.2.2.2.2.2.2.2.2.1, x1.2.2.2.2.2.2.2.2.2.2.2.1, x1.2.2.2.2.2.2.2.2.2.2.2.2.1) y2.2.2) fun r6 =>
                        bif decide (r6.1 < 0) then
                          some (Sum.inl (5, ()))
                        else
                          again (x1.1, x1.2.1, x1.2.2.1, w64 (x1.2.2.2.1 + 1), x1.2.2.2.2.1, x1.2.2.2.2.2.1, x1.2.2.2.2.2.2.1, x1.2.2.2.2.2.2.2.1, x1.2.2.2.2.2.2.2.2.1, x1.2.2.2.2.2.2.2.2.2.1, x1.2.2.2.2.2.2.2.2.2.2.1, x1.2.2.2.2.2.2.2.2.2.2.2.1, x1.2.2.2.2.2.2.2.2.2.2.2.2.1, ())
                      else
                        again (x1.1, x1.2.1, x1.2.2.1, w64 (x1.2.2.2.1 + 1), x1.2.2.2.2.1, x1.2.2.2.2.2.1, x1.2.2.2.2.2.2.1, x1.2.2.2.2.2.2.2.1, x1.2.2.2.2.2.2.2.2.1, x1.2.2.2.2.2.2.2.2.2.1, x1.2.2.2.2.2.2.2.2.2.2.1, x1.2.2.2.2.2.2.2.2.2.2.2.1, x1.2.2.2.2.2.2.2.2.2.2.2.2.1, ())
                    else
                      again (x1.1, x1.2.1, x1.2.2.1, w64 (x1.2.2.2.1 + 1), x1.2.2.2.2.1, x1.2.2.2.2.2.1, x1.2.2.2.2.2.2.1, x1.2.2.2.2.2.2.2.1, x1.2.2.2.2.2.2.2.2.1, x1.2.2.2.2.2.2.2.2.2.1, x1.2.2.2.2.2.2.2.2.2.2.1, x1.2.2.2.2.2.2.2.2.2.2.2.1, x1.2.2.2.2.2.2.2.2.2.2.2.2.1, ())
                else
                  bif !x1.1 then
                    bif !(y2.2.2 == []) then
                      Option.bind (r11_rateOf (x1.2.2.2.2.1, x1.2.2.2.2.2.1, x1.2.2.2.2.2.2.1, x1.2.2.2.2.2.2.2.1, x1.2.2.2.2.2.2.2.2.1, x1.2.2.2.2.2.2.2.2.2.1, x1.2.2.2.2.2.2.2.2.2.2.1, x1.2.2.2.2.2.2.2.2.2.2.2.1, x1.2.2.2.2.2.2.2.2.2.2.2.2.1) y2.2.2) fun r7 =>
                      bif decide (r7.1 < 0) then
                        some (Sum.inl (5, ()))
                      else
                        again (x1.1, x1.2.1, x1.2.2.1, w64 (x1.2.2.2.1 + 1), x1.2.2.2.2.1, x1.2.2.2.2.2.1, x1.2.2.2.2.2.2.1, x1.2.2.2.2.2.2.2.1, x1.2.2.2.2.2.2.2.2.1, x1.2.2.2.2.2.2.2.2.2.1, x1.2.2.2.2.2.2.2.2.2.2.1, x1.2.2.2.2.2.2.2.2.2.2.2.1, x1.2.2.2.2.2.2.2.2.2.2.2.2.1, ())
                    else
                      again (x1.1, x1.2.1, x1.2.2.1, w64 (x1.2.2.2.1 + 1), x1.2.2.2.2.1, x1.2.2.2.2.2.1, x1.2.2.2.2.2.2.1, x1.2.2.2.2.2.2.2.1, x1.2.2.2.2.2.2.2.2.1, x1.2.2.2.2.2.2.2.2.2.1, x1.2.2.2.2.2.2.2.2.2.2.1, x1.2.2.2.2.2.2.2.2.2.2.2.1, x1.2.2.2.2.2.2.2.2.2.2.2.2.1, ())
                  else
                    again (x1.1, x1.2.1, x1.2.2.1, w64 (x1.2.2.2.1 + 1), x1.2.2.2.2.1, x1.2.2.2.2.2.1, x1.2.2.2.2.2.2.1, x1.2.2.2.2.2.2.2.1, x1.2.2.2.2.2.2.2.2.1, x1.2.2.2.2.2.2.2.2.2.1, x1.2.2.2.2.2.2.2.2.2.2.1, x1.2.2.2.2.2.2.2.2.2.2.2.1, x1.2.2.2.2.2.2.2.2.2.2.2.2.1, ())
            else
              bif x1.1 then
                bif !(y2.2.2 == []) then
                  some (Sum.inl (3, ()))
                else
                  bif !x1.1 then
                    bif !(y2.2.2 == []) then
                      Option.bind (r11_rateOf (x1.2.2.2.2.1, x1.2.2.2.2.2.1, x1.2.2.2.2.2.2.1, x1.2.2.2.2.2.2.2.1, x1.2.2.2.2.2.2.2.2.1, x1.2.2.2.2.2.2.2.2.2.1, x1.2.2.2.2.2.2.2.2.2.2.1, x1.2.2.2.2.2.2.2.2.2.2.2.1, x1.2.2.2.2.2.2.2.2.2.2.2.2.1) y2.2.2) fun r8 =>
                      bif decide (r8.1 < 0) then
                        some (Sum.inl (5, ()))
                      else
                        again (x1.1, x1.2.1, x1.2.2.1, w64 (x1.2.2.2.1 + 1), x1.2.2.2.2.1, x1.2.2.2.2.2.1, x1.2.2.2.2.2.2.1, x1.2.2.2.2.2.2.2.1, x1.2.2.2.2.2.2.2.2.1, x1.2.2.2.2.2.2.2.2.2.1, x1.2.2.2.2.2.2.2.2.2.2.1, x1.2.2.2.2.2.2.2.2.2.2.2.1, x1.2.2.2.2.2.2.2.2.2.2.2.2.1, ())
                    else
                      again (x1.1, x1.2.1, x1.2.2.1, w64 (x1.2.2.2.1 + 1), x1.2.2.2.2.1, x1.2.2.2.2.2.1, x1.2.2.2.2.2.2.1, x1.2.2.2.2.2.2.2.1, x1.2.2.2.2.2.2.2.2.1, x1.2.2.2.2.2.2.2.2.2.1, x1.2.2.2.2.2.2.2.2.2.2.1, x1.2.2.2.2.2.2.2.2.2.2.2.1, x1.2.2.2.2.2.2.2.2.2.2.2.2.1, ())
                  else
                    again (x1.1, x1.2.1, x1.2.2.1, w64 (x1.2.2.2.1 + 1), x1.2.2.2.2.1, x1.2.2.2.2.2.1, x1.2.2.2.2.2.2.1, x1.2.2.2.2.2.2.2.1, x1.2.2.2.2.2.2.2.2.1, x1.2.2.2.2.2.2.2.2.2.1, x1.2.2.2.2.2.2.2.2.2.2.1, x1.2.2.2.2.2.2.2.2.2.2.2.1, x1.2.2.2.2.2.2.2.2.2.2.2.2.1, ())
              else
                bif !x1.1 then
                  bif !(y2.2.2 == []) then
                    Option.bind (r11_rateOf (x1.2.2.2.2.1, x1.2.2.2.2.2.1, x1.2.2.2.2.2.2.1, x1.2.2.2.2.2.2.2.1, x1.2.2.2.2.2.2.2.2.1, x1.2.2.2.2.2.2.2.2.2.1, x1.2.2.2.2.2.2.2.2.2.2.1, x1.2.2.2.2.2.2.2.2.2.2.2.1, x1.2.2.2.2.2.2.2.2.2.2.2.2.1) y2.2.2) fun r9 =>
                    bif decide (r9.1 < 0) then
                      some (Sum.inl (5, ()))
                    else
                      again (x1.1, x1.2.1, x1.2.2.1, w64 (x1.2.2.2.1 + 1), x1.2.2.2.2.1, x1.2.2.2.2.2.1, x1.2.2.2.2.2.2.1, x1.2.2.2.2.2.2.2.1, x1.2.2.2.2.2.2.2.2.1, x1.2.2.2.2.2.2.2.2.2.1, x1.2.2.2.2.2.2.2.2.2.2.1, x1.2.2.2.2.2.2.2.2.2.2.2.1, x1.2.2.2.2.2.2.2.2.2.2.2.2.1, ())
                  else
                    again (x1.1, x1.2.1, x1.2.2.1, w64 (x1.2.2.2.1 + 1), x1.2.2.2.2.1, x1.2.2.2.2.2.1, x1.2.2.2.2.2.2.1, x1.2.2.2.2.2.2.2.1, x1.2.2.2.2.2.2.2.2.1, x1.2.2.2.2.2.2.2.2.2.1, x1.2.2.2.2.2.2.2.2.2.2.1, x1.2.2.2.2.2.2.2.2.2.2.2.1, x1.2.2.2.2.2.2.2.2.2.2.2.2.1, ())
                else
                  again (x1.1, x1.2.1, x1.2.2.1, w64 (x1.2.2.2.1 + 1), x1.2.2.2.2.1, x1.2.2.2.2.2.1, x1.2.2.2.2.2.2.1, x1.2.2.2.2.2.2.2.1, x1.2.2.2.2.2.2.2.2.1, x1.2.2.2.2.2.2.2.2.2.1, x1.2.2.2.2.2.2.2.2.2.2.1, x1.2.2.2.2.2.2.2.2.2.2.2.1, x1.2.2.2.2.2.2.2.2.2.2.2.2.1, ())
        else
          bif !y2.1 then
            Option.bind (r11_isIn y2.2.1 (-1000000000) 1000000000 x1.2.2.2.2.2.2.2.1) fun r10 =>
            bif !r10.1 then
              some (Sum.inl (1, ()))
            else
              bif x1.1 then
                bif !(y2.2.2 == []) then
                  some (Sum.inl (3, ()))
                else
                  bif !x1.1 then
                    bif !(y2.2.2 == []) then
                      Option.bind (r11_rateOf (x1.2.2.2.2.1, x1.2.2.2.2.2.1, x1.2.2.2.2.2.2.1, x1.2.2.2.2.2.2.2.1, x1.2.2.2.2.2.2.2.2.1, x1.2.2.2.2.2.2.2.2.2.1, x1.2.2.2.2.2.2.2.2.2.2.1, x1.2.2.2.2.2.2.2.2.2.2.2.1, x1.2.2.2.2.2.2.2.2.2.2.2.2.1) y2.2.2) fun r11 =>
                      bif decide (r11.1 < 0) then
                        some (Sum.inl (5, ()))
                      else
                        again (x1.1, x1.2.1, x1.2.2.1, w64 (x1.2.2.2.1 + 1), x1.2.2.2.2.1, x1.2.2.2.2.2.1, x1.2.2.2.2.2.2.1, x1.2.2.2.2.2.2.2.1, x1.2.2.2.2.2.2.2.2.1, x1.2.2.2.2.2.2.2.2.2.1, x1.2.2.2.2.2.2.2.2.2.2.1, x1.2.2.2.2.2.2.2.2.2.2.2.1, x1.2.2.2.2.2.2.2.2.2.2.2.2.1, ())
                    else
                      again (x1.1, x1.2.1, x1.2.2.1, w64 (x1.2.2.2.1 + 1), x1.2.2.2.2.1, x1.2.2.2.2.2.1, x1.2.2.2.2.2.2.1, x1.2.2.2.2.2.2.2.1, x1.2.2.2.2.2.2.2.2.1, x1.2.2.2.2.2.2.2.2.2.1, x1.2.2.2.2.2.2.2.2.2.2.1, x1.2.2.2.2.2.2.2.2.2.2.2.1, x1.2.2.2.2.2.2.2.2.2.2.2.2.1, ())
                  else
                    again (x1.1, x1.2.1, x1.2.2.1, w64 (x1.2.2.2.1 + 1), x1.2.2.2.2.1, x1.2.2.2.2.2.1, x1.2.2.2.2.2.2.1, x1.2.2.2.2.2.2.2.1, x1.2.2.2.2.2.2.2.2.1, x1.2.2.2.2.2.2.2.2.2.1, x1.2.2.2.2.2.2.2.2.2.2.1, x1.2.2.2.2.2.2.2.2.2.2.2.1, x1.2.2.2.2.2.2.2.2.2.2.2.2.1, ())
              else
                bif !x1.1 then
                  bif !(y2.2.2 == []) then
                    Option.bind (r11_rateOf (x1.2.2.2.2.1, x1.2.2.2.2.2.1, x1.2.2.2.2.2.2.1, x1.2.2.2.2.2.2.2.1, x1.2.2.2.2.2.2.2.2.1, x1.2.2.2.2.2.2.2.2.2.1, x1.2.2.2.2.2.2.2.2.2.2.1, x1.2.2.2.2.2.2.2.2.2.2.2.1, x1.2.2.2.2.2.2.2.2.2.2.2.2.1) y2.2.2) fun r12 =>
                    bif decide (r12.1 < 0) then
                      some (Sum.inl (5, ()))
                    else
                      again (x1.1, x1.2.1, x1.2.2.1, w64 (x1.2.2.2.1 + 1), x1.2.2.2.2.1, x1.2.2.2.2.2.1, x1.2.2.2.2.2.2.1, x1.2.2.2.2.2.2.2.1, x1.2.2.2.2.2.2.2.2.1, x1.2.2.2.2.2.2.2.2.2.1, x1.2.2.2.2.2.2.2.2.2.2.1, x1.2.2.2.2.2.2.2.2.2.2.2.1, x1.2.2.2.2.2.2.2.2.2.2.2.2.1, ())
                  else
                    again (x1.1, x1.2.1, x1.2.2.1, w64 (x1.2.2.2.1 + 1), x1.2.2.2.2.1, x1.2.2.2.2.2.1, x1.2.2.2.2.2.2.1, x1.2.2.2.2.2.2.2.1, x1.2.2.2.2.2.2.2.2.1, x1.2.2.2.2.2.2.2.2.2.1, x1.2.2.2.2.2.2.2.2.2.2.1, x1.2.2.2.2.2.2.2.2.2.2.2.1, x1.2.2.2.2.2.2.2.2.2.2.2.2.1, ())
                else
                  again (x1.1, x1.2.1, x1.2.2.1, w64 (x1.2.2.2.1 + 1), x1.2.2.2.2.1, x1.2.2.2.2.2.1, x1.2.2.2.2.2.2.1, x1.2.2.2.2.2.2.2.1, x1.2.2.2.2.2.2.2.2.1, x1.2.2.2.2.2.2.2.2.2.1, x1.2.2.2.2.2.2.2.2.2.2.1, x1.2.2.2.2.2.2.2.2.2.2.2.1, x1.2.2.2.2.2.2.2.2.2.2.2.2.1, ())
          else
            bif x1.1 then
              bif !(y2.2.2 == []) then
                some (Sum.inl (3, ()))
              else
                bif !x1.1 then
                  bif !(y2.2.2 == []) then
                    Option.bind (r11_rateOf (x1.2.2.2.2.1, x1.2.2.2.2.2.1, x1.2.2.2.2.2.2.1, x1.2.2.2.2.2.2.2.1, x1.2.2.2.2.2.2.2.2.1, x1.2.2.2.2.2.2.2.2.2.1, x1.2.2.2.2.2.2.2.2.2.2.1, x1.2.2.2.2.2.2.2.2.2.2.2.1, x1.2.2.2.2.2.2.2.2.2.2.2.2.1) y2.2.2) fun r13 =>
                    bif decide (r13.1 < 0) then
                      some (Sum.inl (5, ()))
                    else
                      again (x1.1, x1.2.1, x1.2.2.1, w64 (x1.2.2.2.1 + 1), x1.2.2.2.2.1, x1.2.2.2.2.2.1, x1.2.2.2.2.2.2.1, x1.2.2.2.2.2.2.2.1, x1.2.2.2.2.2.2.2.2.1, x1.2.2.2.2.2.2.2.2.2.1, x1.2.2.2.2.2.2.2.2.2.2.1, x1.2.2.2.2.2.2.2.2.2.2.2.1, x1.2.2.2.2.2.2.2.2.2.2.2.2.1, ())
                  else
                    again (x1.1, x1.2.1, x1.2.2.1, w64 (x1.2.2.2.1 + 1), x1.2.2.2.2.1, x1.2.2.2.2.2.1, x1.2.2.2.2.2.2.1, x1.2.2.2.2.2.2.2.1, x1.2.2.2.2.2.2.2.2.1, x1.2.2.2.2.2.2.2.2.2.1, x1.2.2.2.2.2.2.2.2.2.2.1, x1.2.2.2.2.2.2.2.2.2.2.2.1, x1.2.2.2.2.2.2.2.2.2.2.2.2.1, ())
                else
                  again (x1.1, x1.2.1, x1.2.2.1, w64 (x1.2.2.2.1 + 1), x1.2.2.2.2.1, x1.2.2.2.2.2.1, x1.2.2.2.2.2.2.1, x1.2.2.2.2.2.2.2.1, x1.2.2.2.2.2.2.2.2.1, x1.2.2.2.2.2.2.2.2.2.1, x1.2.2.2.2.2.2.2.2.2.2.1, x1.2.2.2.2.2.2.2.2.2.2.2.1, x1.2.2.2.2.2.2.2.2.2.2.2.2.1, ())
            else
              bif !x1.1 then
                bif !(y2.2.2 == []) then
                  Option.bind (r11_rateOf (x1.2.2.2.2.1, x1.2.2.2.2.2.1, x1.2.2.2.2.2.2.1, x1.2.2.2.2.2.2.2.1, x1.2.2.2.2.2.2.2.2.1, x1.2.2.2.2.2.2.2.2.2.1, x1.2.2.2.2.2.2.2.2.2.2.1, x1.2.2.2.2.2.2.2.2.2.2.2.1, x1.2.2.2.2.2.2.2.2.2.2.2.2.1) y2.2.2) fun r14 =>
                  bif decide (r14.1 < 0) then
                    some (Sum.inl (5, ()))
                  else
                    again (x1.1, x1.2.1, x1.2.2.1, w64 (x1.2.2.2.1 + 1), x1.2.2.2.2.1, x1.2.2.2.2.2.1, x1.2.2.2.2.2.2.1, x1.2.2.2.2.2.2.2.1, x1.2.2.2.2.2.2.2.2.1, x1.2.2.2.2.2.2.2.2.2.1, x1.2.2.2.2.2.2.2.2.2.2.1, x1.2.2.2.2.2.2.2.2.2.2.2.1, x1.2.2.2.2.2.2.2.2.2.2.2.2.1, ())
                else
                  again (x1.1, x1.2.1, x1.2.2.1, w64 (x1.2.2.2.1 + 1), x1.2.2.2.2.1, x1.2.2.2.2.2.1, x1.2.2.2.2.2.2.1, x1.2.2.2.2.2.2.2.1, x1.2.2.2.2.2.2.2.2.1, x1.2.2.2.2.2.2.2.2.2.1, x1.2.2.2.2.2.2.2.2.2.2.1, x1.2.2.2.2.2.2.2.2.2.2.2.1, x1.2.2.2.2.2.2.2.2.2.2.2.2.1, ())
              else
                again (x1.1, x1.2.1, x1.2.2.1, w64 (x1.2.2.2.1 + 1), x1.2.2.2.2.1, x1.2.2.2.2.2.1, x1.2.2.2.2.2.2.1, x1.2.2.2.2.2.2.2.1, x1.2.2.2.2.2.2.2.2.1, x1.2.2.2.2.2.2.2.2.2.1, x1.2.2.2.2.2.2.2.2.2.2.1, x1.2.2.2.2.2.2.2.2.2.2.2.1, x1.2.2.2.2.2.2.2.2.2.2.2.2.1, ())
  else
    some (Sum.inr ())

def r11_checkExtras (a0 : D_api_Invoice) (a1 : List D_api_Extra) (a2 : Bool) : Option (Int × Unit) :=
  bif decide (((List.length a1 : Int)) > 20) then
    some (2, ())
  else
    joinB (β := (Int × Unit)) (γ := Unit) (
      iter (X := r11_checkExtras_x4) (β := r11_checkExtras_r4) (List.length a1 + (Int.natAbs ((List.length a1 : Int)) + (Int.natAbs (0 : Int) + (List.length a0.1 + (List.length a0.2.1 + (Int.natAbs a0.2.2.1 + (Int.natAbs a0.2.2.2.1 + (Int.natAbs a0.2.2.2.2.1 + (List.length a0.2.2.2.2.2.2.1 + (List.length a0.2.2.2.2.2.2.2.1 + (List.length a0.2.2.2.2.2.2.2.2 + 2))))))))))) (a2, a1, (List.length a1 : Int), 0, a0.1, a0.2.1, a0.2.2.1, a0.2.2.2.1, a0.2.2.2.2.1, a0.2.2.2.2.2.1, a0.2.2.2.2.2.2.1, a0.2.2.2.2.2.2.2.1, a0.2.2.2.2.2.2.2.2, ()) (r11_checkExtras_b4)) fun _ =>
    some (0, ())

def r11_checkLine (a0 : D_api_Invoice) (a1 : Int) : Option (Int × Unit) :=
  Option.bind (idx a0.2.2.2.2.2.2.2.1 a1) fun y1 =>
  Option.bind (r11_within y1.1 1 99999) fun r2 =>
  bif !r2.1 then
    some (1, ())
  else
    bif decide (a1 > 0) then
      Option.bind (idx a0.2.2.2.2.2.2.2.1 (w64 (a1 - 1))) fun y3 =>
      bif decide (y1.1 ≤ y3.1) then
        some (8, ())
      else
        Option.bind (r11_within y1.2.1 1 99999) fun r4 =>
        bif !r4.1 then
          some (1, ())
        else
          Option.bind (r1_IsName y1.2.2.1) fun r5 =>
          bif !r5.1 then
            some (5, ())
          else
            Option.bind (r11_isIn y1.2.2.2.1 (-1000000000) 1000000000 3) fun r6 =>
            bif !r6.1 then
              some (1, ())
            else
              bif y1.2.2.2.1.1 == 0 then
                some (13, ())
              else
                Option.bind (r1_IsName y1.2.2.2.2.1) fun r7 =>
                bif !r7.1 then
                  some (5, ())
                else
                  Option.bind (r11_isIn y1.2.2.2.2.2.1 0 1000000000 4) fun r8 =>
                  bif !r8.1 then
                    some (1, ())
                  else
                    Option.bind (r11_within y1.2.2.2.2.2.2.1 1 100000) fun r9 =>
                    bif !r9.1 then
                      some (1, ())
                    else
                      Option.bind (r11_checkExtras a0 y1.2.2.2.2.2.2.2.1 true) fun r10 =>
                      bif r10.1 != 0 then
                        some (r10.1, ())
                      else
                        Option.bind (r11_rateOf a0 y1.2.2.2.2.2.2.2.2) fun r11 =>
                        bif decide (r11.1 < 0) then
                          some (5, ())
                        else
                          some (0, ())
    else
      Option.bind (r11_within y1.2.1 1 99999) fun r12 =>
      bif !r12.1 then
        some (1, ())
      else
        Option.bind (r1_IsName y1.2.2.1) fun r13 =>
        bif !r13.1 then
          some (5, ())
        else
          Option.bind (r11_isIn y1.2.2.2.1 (-1000000000) 1000000000 3) fun r14 =>
          bif !r14.1 then
            some (1, ())
          else
            bif y1.2.2.2.1.1 == 0 then
              some (13, ())
            else
              Option.bind (r1_IsName y1.2.2.2.2.1) fun r15 =>
              bif !r15.1 then
                some (5, ())
              else
                Option.bind (r11_isIn y1.2.2.2.2.2.1 0 1000000000 4) fun r16 =>
                bif !r16.1 then
                  some (1, ())
                else
                  Option.bind (r11_within y1.2.2.2.2.2.2.1 1 100000) fun r17 =>
                  bif !r17.1 then
                    some (1, ())
                  else
                    Option.bind (r11_checkExtras a0 y1.2.2.2.2.2.2.2.1 true) fun r18 =>
                    bif r18.1 != 0 then
                      some (r18.1, ())
                    else
                      Option.bind (r11_rateOf a0 y1.2.2.2.2.2.2.2.2) fun r19 =>
                      bif decide (r19.1 < 0) then
                        some (5, ())
                      else
                        some (0, ())

abbrev r11_CheckInvoice_x12 : Type := (List D_api_Rate) × Int × Int × (List UInt8) × (List UInt8) × Int × Int × Int × Bool × (List D_api_Rate) × (List D_api_BillLine) × (List D_api_Extra) × Unit
abbrev r11_CheckInvoice_r12 : Type := ((Int × Unit) ⊕ ((List UInt8) × (List UInt8) × Int × Int × Int × Bool × (List D_api_Rate) × (List D_api_BillLine) × (List D_api_Extra) × Unit))
def r11_CheckInvoice_b12  (x1 : r11_CheckInvoice_x12) (again : r11_CheckInvoice_x12 → Option r11_CheckInvoice_r12) : Option r11_CheckInvoice_r12 :=
  bif decide (x1.2.2.1 < x1.2.1) then
    Option.bind (idx x1.1 x1.2.2.1) fun y2 =>
    Option.bind (r1_IsName y2.1) fun r3 =>
    bif !r3.1 then
      some (Sum.inl (5, ()))
    else
      bif decide (x1.2.2.1 > 0) then
        Option.bind (idx x1.2.2.2.2.2.2.2.2.2.1 (w64 (x1.2.2.1 - 1))) fun y4 =>
        bif Op.bytesLess y2.1 y4.1 || y2.1 == y4.1 then
          some (Sum.inl (8, ()))
        else
          Option.bind (r11_isIn y2.2 0 100 9) fun r5 =>
          bif !r5.1 then
            some (Sum.inl (1, ()))
          else
            again (x1.1, x1.2.1, w64 (x1.2.2.1 + 1), x1.2.2.2.1, x1.2.2.2.2.1, x1.2.2.2.2.2.1, x1.2.2.2.2.2.2.1, x1.2.2.2.2.2.2.2.1, x1.2.2.2.2.2.2.2.2.1, x1.2.2.2.2.2.2.2.2.2.1, x1.2.2.2.2.2.2.2.2.2.2.1, x1.2.2.2.2.2.2.2.2.2.2.2.1, ())
      else
        Option.bind (r11_isIn y2.2 0 100 9) fun r6 =>
        bif !r6.1 then
          some (Sum.inl (1, ()))
        else
          again (x1.1, x1.2.1, w64 (x1.2.2.1 + 1), x1.2.2.2.1, x1.2.2.2.2.1, x1.2.2.2.2.2.1, x1.2.2.2.2.2.2.1, x1.2.2.2.2.2.2.2.1, x1.2.2.2.2.2.2.2.2.1, x1.2.2.2.2.2.2.2.2.2.1, x1.2.2.2.2.2.2.2.2.2.2.1, x1.2.2.2.2.2.2.2.2.2.2.2.1, ())
  else
    some (Sum.inr (x1.2.2.2.1, x1.2.2.2.2.1, x1.2.2.2.2.2.1, x1.2.2.2.2.2.2.1, x1.2.2.2.2.2.2.2.1, x1.2.2.2.2.2.2.2.2.1, x1.2.2.2.2.2.2.2.2.2.1, x1.2.2.2.2.2.2.2.2.2.2.1, x1.2.2.2.2.2.2.2.2.2.2.2.1, ()))

abbrev r11_CheckInvoice_x26 : Type := Int × Int × (List UInt8) × (List UInt8) × Int × Int × Int × Bool × (List D_api_Rate) × (List D_api_BillLine) × (List D_api_Extra) × Unit
abbrev r11_CheckInvoice_r26 : Type := ((Int × Unit) ⊕ ((List UInt8) × (List UInt8) × Int × Int × Int × Bool × (List D_api_Rate) × (List D_api_BillLine) × (List D_api_Extra) × Unit))
def r11_CheckInvoice_b26  (x1 : r11_CheckInvoice_x26) (again : r11_CheckInvoice_x26 → Option r11_CheckInvoice_r26) : Option r11_CheckInvoice_r26 :=
  bif decide (x1.2.1 < x1.1) then
    Option.bind (r11_checkLine (x1.2.2.1, x1.2.2.2.1, x1.2.2.2.2.1, x1.2.2.2.2.2.1, x1.2.2.2.2.2.2.1, x1.2.2.2.2.2.2.2.1, x1.2.2.2.2.2.2.2.2.1, x1.2.2.2.2.2.2.2.2.2.1, x1.2.2.2.2.2.2.2.2.2.2.1) x1.2.1) fun r2 =>
    bif r2.1 != 0 then
      some (Sum.inl (r2.1, ()))
    else
      again (x1.1, w64 (x1.2.1 + 1), x1.2.2.1, x1.2.2.2.1, x1.2.2.2.2.1, x1.2.2.2.2.2.1, x1.2.2.2.2.2.2.1, x1.2.2.2.2.2.2.2.1, x1.2.2.2.2.2.2.2.2.1, x1.2.2.2.2.2.2.2.2.2.1, x1.2.2.2.2.2.2.2.2.2.2.1, ())
  else
    some (Sum.inr (x1.2.2.1, x1.2.2.2.1, x1.2.2.2.2.1, x1.2.2.2.2.2.1, x1.2.2.2.2.2.2.1, x1.2.2.2.2.2.2.2.1, x1.2.2.2.2.2.2.2.2.1, x1.2.2.2.2.2.2.2.2.2.1, x1.2.2.2.2.2.2.2.2.2.2.1, ()))

def r11_CheckInvoice (a0 : D_api_Invoice) : Option (Int × Unit) :=
  Option.bind (r1_IsName a0.1) fun r1 =>
  bif !r1.1 then
    some (5, ())
  else
    Option.bind (r1_IsName a0.2.1) fun r2 =>
    bif !r2.1 then
      some (5, ())
    else
      Option.bind (r1_IsDay a0.2.2.1) fun r3 =>
      bif !r3.1 then
        some (1, ())
      else
        Option.bind (r11_within a0.2.2.2.1 0 4) fun r4 =>
        bif !r4.1 then
          some (1, ())
        else
          Option.bind (r11_within a0.2.2.2.2.1 1 6) fun r5 =>
          bif !r5.1 then
            some (4, ())
          else
            bif ((List.length a0.2.2.2.2.2.2.1 : Int)) == 0 then
              some (9, ())
            else
              bif decide (((List.length a0.2.2.2.2.2.2.1 : Int)) > 20) then
                some (2, ())
              else
                joinB (β := (Int × Unit)) (γ := ((List UInt8) × (List UInt8) × Int × Int × Int × Bool × (List D_api_Rate) × (List D_api_BillLine) × (List D_api_Extra) × Unit)) (
                  iter (X := r11_CheckInvoice_x12) (β := r11_CheckInvoice_r12) (List.length a0.2.2.2.2.2.2.1 + (Int.natAbs ((List.length a0.2.2.2.2.2.2.1 : Int)) + (Int.natAbs (0 : Int) + (List.length a0.1 + (List.length a0.2.1 + (Int.natAbs a0.2.2.1 + (Int.natAbs a0.2.2.2.1 + (Int.natAbs a0.2.2.2.2.1 + (List.length a0.2.2.2.2.2.2.1 + (List.length a0.2.2.2.2.2.2.2.1 + (List.length a0.2.2.2.2.2.2.2.2 + 2))))))))))) (a0.2.2.2.2.2.2.1, (List.length a0.2.2.2.2.2.2.1 : Int), 0, a0.1, a0.2.1, a0.2.2.1, a0.2.2.2.1, a0.2.2.2.2.1, a0.2.2.2.2.2.1, a0.2.2.2.2.2.2.1, a0.2.2.2.2.2.2.2.1, a0.2.2.2.2.2.2.2.2, ()) (r11_CheckInvoice_b12)) fun v12 =>
                bif ((List.length v12.2.2.2.2.2.2.2.1 : Int)) == 0 then
                  some (9, ())
                else
                  bif decide (((List.length v12.2.2.2.2.2.2.2.1 : Int)) > 500) then
                    some (2, ())
                  else
                    joinB (β := (Int × Unit)) (γ := ((List UInt8) × (List UInt8) × Int × Int × Int × Bool × (List D_api_Rate) × (List D_api_BillLine) × (List D_api_Extra) × Unit)) (
                      iter (X := r11_CheckInvoice_x26) (β := r11_CheckInvoice_r26) (Int.natAbs ((List.length v12.2.2.2.2.2.2.2.1 : Int)) + (Int.natAbs (0 : Int) + (List.length v12.1 + (List.length v12.2.1 + (Int.natAbs v12.2.2.1 + (Int.natAbs v12.2.2.2.1 + (Int.natAbs v12.2.2.2.2.1 + (List.length v12.2.2.2.2.2.2.1 + (List.length v12.2.2.2.2.2.2.2.1 + (List.length v12.2.2.2.2.2.2.2.2.1 + 2)))))))))) ((List.length v12.2.2.2.2.2.2.2.1 : Int), 0, v12.1, v12.2.1, v12.2.2.1, v12.2.2.2.1, v12.2.2.2.2.1, v12.2.2.2.2.2.1, v12.2.2.2.2.2.2.1, v12.2.2.2.2.2.2.2.1, v12.2.2.2.2.2.2.2.2.1, ()) (r11_CheckInvoice_b26)) fun v15 =>
                    Option.bind (r11_checkExtras (v15.1, v15.2.1, v15.2.2.1, v15.2.2.2.1, v15.2.2.2.2.1, v15.2.2.2.2.2.1, v15.2.2.2.2.2.2.1, v15.2.2.2.2.2.2.2.1, v15.2.2.2.2.2.2.2.2.1) v15.2.2.2.2.2.2.2.2.1 false) fun r16 =>
                    some (r16.1, ())

abbrev r1_half_x4 : Type := Int × Int × Bool × (List Int) × Bool × (List Int) × Bool × (List Int) × Unit
abbrev r1_half_r4 : Type := ((D_interchangeref1_Num × Int × Unit) ⊕ (Int × Bool × (List Int) × Bool × (List Int) × Unit))
def r1_half_b4  (x1 : r1_half_x4) (again : r1_half_x4 → Option r1_half_r4) : Option r1_half_r4 :=
  bif decide (x1.2.1 ≥ 0) then
    Option.bind (idx x1.2.2.2.1 x1.2.1) fun y2 =>
    let n3 : Int := w64 (Int.tdiv (w64 ((w64 (x1.1 * 1000000)) + y2)) 2)
    let n4 : Int := Int.tmod (w64 ((w64 (x1.1 * 1000000)) + y2)) 2
    chk (decide (0 ≤ x1.2.1) && decide (x1.2.1 < (List.length x1.2.2.2.2.2.2.2.1 : Int))) <|
    Option.bind (x1.2.2.2.2.2.2.2.1[x1.2.1.toNat]?) fun _ =>
    again (n4, w64 (x1.2.1 - 1), x1.2.2.1, x1.2.2.2.1, x1.2.2.2.2.1, x1.2.2.2.2.2.1, x1.2.2.2.2.2.2.1, List.set x1.2.2.2.2.2.2.2.1 x1.2.1.toNat n3, ())
  else
    some (Sum.inr (x1.1, x1.2.2.2.2.1, x1.2.2.2.2.2.1, x1.2.2.2.2.2.2.1, x1.2.2.2.2.2.2.2.1, ()))

def r1_half (a0 : D_interchangeref1_Num) : Option (D_interchangeref1_Num × Int × Unit) :=
  chk (decide (0 ≤ ((List.length a0.2 : Int))) && decide (((List.length a0.2 : Int)) ≤ ((List.length a0.2 : Int))) && decide ((8 : Int) * ((List.length a0.2 : Int)) ≤ 281474976710656) && decide (((List.length a0.2 : Int)) ≤ 9223372036854775807)) <|
  joinB (β := (D_interchangeref1_Num × Int × Unit)) (γ := (Int × Bool × (List Int) × Bool × (List Int) × Unit)) (
    iter (X := r1_half_x4) (β := r1_half_r4) (Int.natAbs (0 : Int) + (Int.natAbs (w64 (((List.length a0.2 : Int)) - 1)) + (List.length a0.2 + (List.length ([] : List Int) + (List.length ((List.replicate (Int.toNat ((List.length a0.2 : Int))) 0) : List Int) + 2))))) (0, w64 (((List.length a0.2 : Int)) - 1), a0.1, a0.2, false, [], false, List.replicate (Int.toNat ((List.length a0.2 : Int))) 0, ()) (r1_half_b4)) fun v6 =>
  Option.bind (r1_trimmed (v6.2.2.2.1, v6.2.2.2.2.1)) fun r7 =>
  some (r7.1, v6.1, ())

abbrev r1_DivMod_x3 : Type := (List Int) × Bool × (List Int) × Bool × (List Int) × Bool × (List Int) × Bool × (List Int) × Unit
abbrev r1_DivMod_r3 : Type := ((D_interchangeref1_Num × D_interchangeref1_Num × Unit) ⊕ ((List Int) × Bool × (List Int) × Bool × (List Int) × Bool × (List Int) × Unit))
def r1_DivMod_b3  (x1 : r1_DivMod_x3) (again : r1_DivMod_x3 → Option r1_DivMod_r3) : Option r1_DivMod_r3 :=
  Option.bind (r1_Sign (x1.2.2.2.2.2.2.2.1, x1.2.2.2.2.2.2.2.2.1)) fun r2 =>
  bif decide (r2.1 > 0) then
    Option.bind (r1_half (x1.2.2.2.2.2.2.2.1, x1.2.2.2.2.2.2.2.2.1)) fun r3 =>
    chk (decide (((List.length x1.1) + 1) * 8 ≤ 140737488355328) && decide ((List.length x1.1) + 1 ≤ maxLen)) <|
    again (x1.1 ++ [r3.2.1], x1.2.1, x1.2.2.1, x1.2.2.2.1, x1.2.2.2.2.1, x1.2.2.2.2.2.1, x1.2.2.2.2.2.2.1, r3.1.1, r3.1.2, ())
  else
    some (Sum.inr (x1.1, x1.2.1, x1.2.2.1, x1.2.2.2.1, x1.2.2.2.2.1, x1.2.2.2.2.2.1, x1.2.2.2.2.2.2.1, ()))

abbrev r1_DivMod_x11 : Type := (List Int) × Int × Bool × (List Int) × Bool × (List Int) × Bool × (List Int) × Bool × (List Int) × Bool × (List Int) × Bool × (List Int) × Unit
abbrev r1_DivMod_r11 : Type := ((D_interchangeref1_Num × D_interchangeref1_Num × Unit) ⊕ (Bool × (List Int) × Bool × (List Int) × Bool × (List Int) × Bool × (List Int) × Unit))
def r1_DivMod_b11  (x1 : r1_DivMod_x11) (again : r1_DivMod_x11 → Option r1_DivMod_r11) : Option r1_DivMod_r11 :=
  bif decide (x1.2.1 ≥ 0) then
    Option.bind (r1_TimesOf (x1.2.2.2.2.2.2.2.2.1, x1.2.2.2.2.2.2.2.2.2.1) (x1.2.2.2.2.2.2.2.2.2.2.2.2.1, x1.2.2.2.2.2.2.2.2.2.2.2.2.2.1)) fun r2 =>
    Option.bind (r1_TimesOf (x1.2.2.2.2.2.2.2.2.2.2.1, x1.2.2.2.2.2.2.2.2.2.2.2.1) (x1.2.2.2.2.2.2.2.2.2.2.2.2.1, x1.2.2.2.2.2.2.2.2.2.2.2.2.2.1)) fun r3 =>
    chk (decide (0 ≤ x1.2.1) && decide (x1.2.1 < (List.length x1.1 : Int))) <|
    Option.bind (x1.1[x1.2.1.toNat]?) fun y4 =>
    Option.bind (r1_Of y4) fun r5 =>
    Option.bind (r1_Plus r3.1 r5.1) fun r6 =>
    Option.bind (r1_Cmp r6.1 (x1.2.2.1, x1.2.2.2.1)) fun r7 =>
    bif decide (r7.1 ≥ 0) then
      Option.bind (r1_Of 1) fun r8 =>
      Option.bind (r1_Plus r2.1 r8.1) fun r9 =>
      Option.bind (r1_Minus (x1.2.2.1, x1.2.2.2.1)) fun r10 =>
      Option.bind (r1_Plus r6.1 r10.1) fun r11 =>
      again (x1.1, w64 (x1.2.1 - 1), x1.2.2.1, x1.2.2.2.1, x1.2.2.2.2.1, x1.2.2.2.2.2.1, x1.2.2.2.2.2.2.1, x1.2.2.2.2.2.2.2.1, r9.1.1, r9.1.2, r11.1.1, r11.1.2, x1.2.2.2.2.2.2.2.2.2.2.2.2.1, x1.2.2.2.2.2.2.2.2.2.2.2.2.2.1, ())
    else
      again (x1.1, w64 (x1.2.1 - 1), x1.2.2.1, x1.2.2.2.1, x1.2.2.2.2.1, x1.2.2.2.2.2.1, x1.2.2.2.2.2.2.1, x1.2.2.2.2.2.2.2.1, r2.1.1, r2.1.2, r6.1.1, r6.1.2, x1.2.2.2.2.2.2.2.2.2.2.2.2.1, x1.2.2.2.2.2.2.2.2.2.2.2.2.2.1, ())
  else
    some (Sum.inr (x1.2.2.2.2.1, x1.2.2.2.2.2.1, x1.2.2.2.2.2.2.1, x1.2.2.2.2.2.2.2.1, x1.2.2.2.2.2.2.2.2.1, x1.2.2.2.2.2.2.2.2.2.1, x1.2.2.2.2.2.2.2.2.2.2.1, x1.2.2.2.2.2.2.2.2.2.2.2.1, ()))

def r1_DivMod (a0 : D_interchangeref1_Num) (a1 : D_interchangeref1_Num) : Option (D_interchangeref1_Num × D_interchangeref1_Num × Unit) :=
  joinB (β := (D_interchangeref1_Num × D_interchangeref1_Num × Unit)) (γ := ((List Int) × Bool × (List Int) × Bool × (List Int) × Bool × (List Int) × Unit)) (
    iter (X := r1_DivMod_x3) (β := r1_DivMod_r3) ((20 * List.length (([], a1.1, a1.2, false, [], false, [], a0.1, a0.2, ()) : r1_DivMod_x3).2.2.2.2.2.2.2.2.1 + 2)) ([], a1.1, a1.2, false, [], false, [], a0.1, a0.2, ()) (r1_DivMod_b3)) fun v4 =>
  Option.bind (r1_Of 2) fun r5 =>
  joinB (β := (D_interchangeref1_Num × D_interchangeref1_Num × Unit)) (γ := (Bool × (List Int) × Bool × (List Int) × Bool × (List Int) × Bool × (List Int) × Unit)) (
    iter (X := r1_DivMod_x11) (β := r1_DivMod_r11) (List.length v4.1 + (Int.natAbs (w64 (((List.length v4.1 : Int)) - 1)) + (List.length v4.2.2.1 + (List.length v4.2.2.2.2.1 + (List.length v4.2.2.2.2.2.2.1 + (List.length ([] : List Int) + (List.length ([] : List Int) + (List.length r5.1.2 + 2)))))))) (v4.1, w64 (((List.length v4.1 : Int)) - 1), v4.2.1, v4.2.2.1, v4.2.2.2.1, v4.2.2.2.2.1, v4.2.2.2.2.2.1, v4.2.2.2.2.2.2.1, false, [], false, [], r5.1.1, r5.1.2, ()) (r1_DivMod_b11)) fun v17 =>
  some ((v17.2.2.2.2.1, v17.2.2.2.2.2.1), (v17.2.2.2.2.2.2.1, v17.2.2.2.2.2.2.2.1), ())

def r1_Round (a0 : D_interchangeref1_Num) (a1 : D_interchangeref1_Num) (a2 : Int) : Option (D_interchangeref1_Num × Unit) :=
  Option.bind (r1_DivMod (false, a0.2) a1) fun r1 =>
  Option.bind (r1_Of 2) fun r2 =>
  Option.bind (r1_TimesOf r1.2.1 r2.1) fun r3 =>
  Option.bind (r1_Cmp r3.1 a1) fun r4 =>
  joinB (β := (D_interchangeref1_Num × Unit)) (γ := (Bool × Bool × Bool × (List Int) × Bool × (List Int) × Unit)) (
    bif a2 == 1 then
      some (Sum.inr (a0.1, decide (r4.1 ≥ 0), false, [], r1.1.1, r1.1.2, ()))
    else
      bif a2 == 2 then
        bif decide (r4.1 > 0) then
          some (Sum.inr (a0.1, true, false, [], r1.1.1, r1.1.2, ()))
        else
          bif r4.1 == 0 then
            Option.bind (r1_digit r1.1.2 0) fun r5 =>
            some (Sum.inr (a0.1, (Int.tmod r5.1 2) == 1, false, [], r1.1.1, r1.1.2, ()))
          else
            some (Sum.inr (a0.1, false, false, [], r1.1.1, r1.1.2, ()))
      else
        bif a2 == 4 then
          Option.bind (r1_Sign r1.2.1) fun r6 =>
          some (Sum.inr (a0.1, decide (r6.1 > 0), false, [], r1.1.1, r1.1.2, ()))
        else
          bif a2 == 5 then
            bif a0.1 then
              Option.bind (r1_Sign r1.2.1) fun r7 =>
              some (Sum.inr (a0.1, decide (r7.1 > 0), false, [], r1.1.1, r1.1.2, ()))
            else
              some (Sum.inr (a0.1, false, false, [], r1.1.1, r1.1.2, ()))
          else
            bif a2 == 6 then
              bif !a0.1 then
                Option.bind (r1_Sign r1.2.1) fun r8 =>
                some (Sum.inr (a0.1, decide (r8.1 > 0), false, [], r1.1.1, r1.1.2, ()))
              else
                some (Sum.inr (a0.1, false, false, [], r1.1.1, r1.1.2, ()))
            else
              some (Sum.inr (a0.1, false, false, [], r1.1.1, r1.1.2, ()))) fun v9 =>
  bif v9.2.1 then
    Option.bind (r1_Of 1) fun r10 =>
    Option.bind (r1_Plus (v9.2.2.2.2.1, v9.2.2.2.2.2.1) r10.1) fun r11 =>
    bif v9.1 then
      Option.bind (r1_Minus r11.1) fun r12 =>
      some (r12.1, ())
    else
      some (r11.1, ())
  else
    bif v9.1 then
      Option.bind (r1_Minus (v9.2.2.2.2.1, v9.2.2.2.2.2.1)) fun r13 =>
      some (r13.1, ())
    else
      some ((v9.2.2.2.2.1, v9.2.2.2.2.2.1), ())

abbrev r1_Small_x5 : Type := Int × Int × Bool × (List Int) × Unit
abbrev r1_Small_r5 : Type := ((Int × Bool × Unit) ⊕ (Int × Bool × (List Int) × Unit))
def r1_Small_b5  (x1 : r1_Small_x5) (again : r1_Small_x5 → Option r1_Small_r5) : Option r1_Small_r5 :=
  bif decide (x1.2.1 ≥ 0) then
    Option.bind (idx x1.2.2.2.1 x1.2.1) fun y2 =>
    again (w64 ((w64 (x1.1 * 1000000)) + y2), w64 (x1.2.1 - 1), x1.2.2.1, x1.2.2.2.1, ())
  else
    some (Sum.inr (x1.1, x1.2.2.1, x1.2.2.2.1, ()))

def r1_Small (a0 : D_interchangeref1_Num) (a1 : Int) : Option (Int × Bool × Unit) :=
  Option.bind (r1_Of a1) fun r1 =>
  Option.bind (r1_sizes a0.2 r1.1.2) fun r2 =>
  bif decide (r2.1 > 0) then
    some (0, false, ())
  else
    joinB (β := (Int × Bool × Unit)) (γ := (Int × Bool × (List Int) × Unit)) (
      iter (X := r1_Small_x5) (β := r1_Small_r5) (Int.natAbs (0 : Int) + (Int.natAbs (w64 (((List.length a0.2 : Int)) - 1)) + (List.length a0.2 + 2))) (0, w64 (((List.length a0.2 : Int)) - 1), a0.1, a0.2, ()) (r1_Small_b5)) fun v5 =>
    bif v5.2.1 then
      some (w64 (0 - v5.1), true, ())
    else
      some (v5.1, true, ())

def r11_rounded (a0 : D_api_Invoice) (a1 : D_interchangeref1_Num) (a2 : D_interchangeref1_Num) : Option (Int × Bool × Unit) :=
  Option.bind (r1_Round a1 a2 a0.2.2.2.2.1) fun r1 =>
  Option.bind (r1_Small r1.1 1000000000000000) fun r2 =>
  some (r2.1, r2.2.1, ())

def r11_gross (a0 : D_api_Invoice) (a1 : D_api_BillLine) : Option (Int × Bool × Unit) :=
  Option.bind (r1_Of a1.2.2.2.1.1) fun r1 =>
  Option.bind (r1_Of a1.2.2.2.2.2.1.1) fun r2 =>
  Option.bind (r1_TimesOf r1.1 r2.1) fun r3 =>
  Option.bind (r1_Power a0.2.2.2.1) fun r4 =>
  Option.bind (r1_TimesOf r3.1 r4.1) fun r5 =>
  Option.bind (r1_Power (w64 (a1.2.2.2.1.2 + a1.2.2.2.2.2.1.2))) fun r6 =>
  Option.bind (r1_Of a1.2.2.2.2.2.2.1) fun r7 =>
  Option.bind (r1_TimesOf r6.1 r7.1) fun r8 =>
  Option.bind (r11_rounded a0 r5.1 r8.1) fun r9 =>
  some (r9.1, r9.2.1, ())

def r11_told (a0 : D_api_Invoice) (a1 : Int) : Option (D_api_Decimal × Unit) :=
  some ((a1, a0.2.2.2.1), ())

def r11_Gross (a0 : D_api_Invoice) (a1 : Int) : Option (D_api_Decimal × Int × Unit) :=
  Option.bind (r11_CheckInvoice a0) fun r1 =>
  bif r1.1 != 0 then
    some ((0, 0), r1.1, ())
  else
    Option.bind (r11_within a1 0 (w64 (((List.length a0.2.2.2.2.2.2.2.1 : Int)) - 1))) fun r2 =>
    bif !r2.1 then
      some ((0, 0), 1, ())
    else
      Option.bind (idx a0.2.2.2.2.2.2.2.1 a1) fun y3 =>
      Option.bind (r11_gross a0 y3) fun r4 =>
      bif !r4.2.1 then
        some ((0, 0), 1, ())
      else
        Option.bind (r11_told a0 r4.1) fun r5 =>
        some (r5.1, 0, ())

def bill_Net (a0 : D_api_Invoice) (a1 : Int) : Option (D_api_Decimal × Int × Unit) :=
  Option.bind (bill_ofLine_net a0 a1 ()) fun r1 =>
  some (r1.1, r1.2.1, ())

def r11_percent (a0 : D_api_Invoice) (a1 : Int) (a2 : D_api_Decimal) : Option (Int × Bool × Unit) :=
  Option.bind (r1_Of a1) fun r1 =>
  Option.bind (r1_Of a2.1) fun r2 =>
  Option.bind (r1_TimesOf r1.1 r2.1) fun r3 =>
  Option.bind (r1_Power a2.2) fun r4 =>
  Option.bind (r1_Of 100) fun r5 =>
  Option.bind (r1_TimesOf r4.1 r5.1) fun r6 =>
  Option.bind (r11_rounded a0 r3.1 r6.1) fun r7 =>
  some (r7.1, r7.2.1, ())

def r11_amount (a0 : D_api_Invoice) (a1 : D_api_Extra) (a2 : Int) : Option (Int × Bool × Unit) :=
  bif a1.1 then
    Option.bind (r11_percent a0 a2 a1.2.1) fun r1 =>
    some (r1.1, r1.2.1, ())
  else
    Option.bind (r1_At a1.2.1 a0.2.2.2.1) fun r2 =>
    Option.bind (r1_Small r2.1 1000000000000000) fun r3 =>
    some (r3.1, r3.2.1, ())

def r11_isAmount (a0 : Int) : Option (Bool × Unit) :=
  Option.bind (r11_within a0 (-1000000000000000) 1000000000000000) fun r1 =>
  some (r1.1, ())

abbrev r11_net_x6 : Type := Int × Int × (List D_api_Extra) × Int × Int × (List UInt8) × (List UInt8) × Int × Int × Int × Bool × (List D_api_Rate) × (List D_api_BillLine) × (List D_api_Extra) × Unit
abbrev r11_net_r6 : Type := ((Int × Bool × Unit) ⊕ (Int × Unit))
def r11_net_b6  (x1 : r11_net_x6) (again : r11_net_x6 → Option r11_net_r6) : Option r11_net_r6 :=
  bif decide (x1.2.2.2.2.1 < x1.2.2.2.1) then
    Option.bind (idx x1.2.2.1 x1.2.2.2.2.1) fun y2 =>
    Option.bind (r11_amount (x1.2.2.2.2.2.1, x1.2.2.2.2.2.2.1, x1.2.2.2.2.2.2.2.1, x1.2.2.2.2.2.2.2.2.1, x1.2.2.2.2.2.2.2.2.2.1, x1.2.2.2.2.2.2.2.2.2.2.1, x1.2.2.2.2.2.2.2.2.2.2.2.1, x1.2.2.2.2.2.2.2.2.2.2.2.2.1, x1.2.2.2.2.2.2.2.2.2.2.2.2.2.1) y2 x1.1) fun r3 =>
    bif !r3.2.1 then
      some (Sum.inl (0, false, ()))
    else
      Option.bind (r11_isAmount (w64 (x1.2.1 + r3.1))) fun r4 =>
      bif !r4.1 then
        some (Sum.inl (0, false, ()))
      else
        again (x1.1, w64 (x1.2.1 + r3.1), x1.2.2.1, x1.2.2.2.1, w64 (x1.2.2.2.2.1 + 1), x1.2.2.2.2.2.1, x1.2.2.2.2.2.2.1, x1.2.2.2.2.2.2.2.1, x1.2.2.2.2.2.2.2.2.1, x1.2.2.2.2.2.2.2.2.2.1, x1.2.2.2.2.2.2.2.2.2.2.1, x1.2.2.2.2.2.2.2.2.2.2.2.1, x1.2.2.2.2.2.2.2.2.2.2.2.2.1, x1.2.2.2.2.2.2.2.2.2.2.2.2.2.1, ())
  else
    some (Sum.inr (x1.2.1, ()))

def r11_net (a0 : D_api_Invoice) (a1 : D_api_BillLine) : Option (Int × Bool × Unit) :=
  Option.bind (r11_gross a0 a1) fun r1 =>
  bif !r1.2.1 then
    some (0, false, ())
  else
    joinB (β := (Int × Bool × Unit)) (γ := (Int × Unit)) (
      iter (X := r11_net_x6) (β := r11_net_r6) (Int.natAbs r1.1 + (Int.natAbs r1.1 + (List.length a1.2.2.2.2.2.2.2.1 + (Int.natAbs ((List.length a1.2.2.2.2.2.2.2.1 : Int)) + (Int.natAbs (0 : Int) + (List.length a0.1 + (List.length a0.2.1 + (Int.natAbs a0.2.2.1 + (Int.natAbs a0.2.2.2.1 + (Int.natAbs a0.2.2.2.2.1 + (List.length a0.2.2.2.2.2.2.1 + (List.length a0.2.2.2.2.2.2.2.1 + (List.length a0.2.2.2.2.2.2.2.2 + 2))))))))))))) (r1.1, r1.1, a1.2.2.2.2.2.2.2.1, (List.length a1.2.2.2.2.2.2.2.1 : Int), 0, a0.1, a0.2.1, a0.2.2.1, a0.2.2.2.1, a0.2.2.2.2.1, a0.2.2.2.2.2.1, a0.2.2.2.2.2.2.1, a0.2.2.2.2.2.2.2.1, a0.2.2.2.2.2.2.2.2, ()) (r11_net_b6)) fun v6 =>
    some (v6.1, true, ())

def r11_Net (a0 : D_api_Invoice) (a1 : Int) : Option (D_api_Decimal × Int × Unit) :=
  Option.bind (r11_CheckInvoice a0) fun r1 =>
  bif r1.1 != 0 then
    some ((0, 0), r1.1, ())
  else
    Option.bind (r11_within a1 0 (w64 (((List.length a0.2.2.2.2.2.2.2.1 : Int)) - 1))) fun r2 =>
    bif !r2.1 then
      some ((0, 0), 1, ())
    else
      Option.bind (idx a0.2.2.2.2.2.2.2.1 a1) fun y3 =>
      Option.bind (r11_net a0 y3) fun r4 =>
      bif !r4.2.1 then
        some ((0, 0), 1, ())
      else
        Option.bind (r11_told a0 r4.1) fun r5 =>
        some (r5.1, 0, ())

noncomputable def l11_BillLinesMatchSpec (a0 : D_api_Invoice) (a1 : Int) : Option (Bool × Unit) :=
  Option.bind (bill_Gross a0 a1) fun r1 =>
  Option.bind (r11_Gross a0 a1) fun r2 =>
  Option.bind (bill_CheckInvoice a0) fun r3 =>
  Option.bind (r11_CheckInvoice a0) fun r4 =>
  bif r3.1 != r4.1 then
    some (false, ())
  else
    bif r1.2.1 != r2.2.1 then
      some (false, ())
    else
      bif !((r1.1.1 == r2.1.1) && ((r1.1.2 == r2.1.2) && true)) then
        some (false, ())
      else
        Option.bind (bill_Net a0 a1) fun r5 =>
        Option.bind (r11_Net a0 a1) fun r6 =>
        bif r5.2.1 == r6.2.1 then
          bif (r5.1.1 == r6.1.1) && ((r5.1.2 == r6.1.2) && true) then
            Option.bind (l11_awake) fun r7 =>
            some (r7.1, ())
          else
            some (false, ())
        else
          some (false, ())

end Go.Md
