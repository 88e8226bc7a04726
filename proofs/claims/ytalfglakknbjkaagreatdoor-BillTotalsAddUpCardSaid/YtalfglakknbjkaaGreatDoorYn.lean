/-
 The plain models of the functions that the law reaches, second part. No condition.
-/
import Derived.Test.YtalfglakknbjkaaGreatDoorYm
import Derived.Lib.Bytealg
set_option linter.all false
namespace Go.Md
open Go.Dn

def strings_Compare (a b : List UInt8) : Option (Int × Unit) := some (Lib.compareBytes a b, ())

abbrev t_api_Rate : Ty := (.st (.pair .str t_api_Decimal))
abbrev D_api_Rate : Type := (List UInt8) × D_api_Decimal

abbrev t_api_Extra : Ty := (.st (.pair .bool (.pair t_api_Decimal .str)))
abbrev D_api_Extra : Type := Bool × D_api_Decimal × (List UInt8)

abbrev t_api_BillLine : Ty := (.st (.pair tI (.pair tI (.pair .str (.pair t_api_Decimal (.pair .str (.pair t_api_Decimal (.pair tI (.pair (.slice t_api_Extra) .str)))))))))
abbrev D_api_BillLine : Type := Int × Int × (List UInt8) × D_api_Decimal × (List UInt8) × D_api_Decimal × Int × (List D_api_Extra) × (List UInt8)

abbrev t_api_Invoice : Ty := (.st (.pair .str (.pair .str (.pair tI (.pair tI (.pair tI (.pair .bool (.pair (.slice t_api_Rate) (.pair (.slice t_api_BillLine) (.slice t_api_Extra))))))))))
abbrev D_api_Invoice : Type := (List UInt8) × (List UInt8) × Int × Int × Int × Bool × (List D_api_Rate) × (List D_api_BillLine) × (List D_api_Extra)

abbrev t_api_TaxSum : Ty := (.st (.pair .str (.pair t_api_Decimal t_api_Decimal)))
abbrev D_api_TaxSum : Type := (List UInt8) × D_api_Decimal × D_api_Decimal

abbrev t_api_Totals : Ty := (.st (.pair t_api_Decimal (.pair t_api_Decimal (.pair t_api_Decimal (.pair t_api_Decimal t_api_Decimal)))))
abbrev D_api_Totals : Type := D_api_Decimal × D_api_Decimal × D_api_Decimal × D_api_Decimal × D_api_Decimal

abbrev t_bill_share : Ty := (.st (.pair tI t_whole_Int))
abbrev D_bill_share : Type := Int × D_whole_Int

abbrev t_bill_sheet : Ty := (.st (.pair t_api_Invoice (.pair (.slice t_whole_Int) (.pair (.slice t_whole_Int) (.pair (.slice t_whole_Int) (.pair (.slice t_bill_share) (.pair (.slice t_whole_Int) (.pair (.slice .bool) (.slice t_whole_Int)))))))))
abbrev D_bill_sheet : Type := D_api_Invoice × (List D_whole_Int) × (List D_whole_Int) × (List D_whole_Int) × (List D_bill_share) × (List D_whole_Int) × (List Bool) × (List D_whole_Int)

abbrev t_amount_share : Ty := (.st (.pair tI (.pair tI t_whole_Int)))
abbrev D_amount_share : Type := Int × Int × D_whole_Int

def amount_IsWay (a0 : Int) : Option (Bool × Unit) :=
 Option.bind (kit_Outside a0 1 6) fun r1 =>
 some (!r1.1, ())

abbrev bill_ratesFault_x6 : Type := (List D_api_Rate) × (List D_api_Rate) × Int × Int × Unit
abbrev bill_ratesFault_r6 : Type := ((Int × Unit) ⊕ Unit)
def bill_ratesFault_b6  (x1 : bill_ratesFault_x6) (again : bill_ratesFault_x6 → Option bill_ratesFault_r6) : Option bill_ratesFault_r6 :=
 bif decide (x1.2.2.2.1 < x1.2.2.1) then
  Option.bind (idx x1.2.1 x1.2.2.2.1) fun y2 =>
  Option.bind (kit_IsName y2.1) fun r3 =>
  bif !r3.1 then
   some (Sum.inl (5, ()))
  else
   bif decide (x1.2.2.2.1 > 0) then
    Option.bind (idx x1.1 (w64 (x1.2.2.2.1 - 1))) fun y4 =>
    bif Op.bytesLess y2.1 y4.1 || y2.1 == y4.1 then
     some (Sum.inl (8, ()))
    else
     Option.bind (amount_CheckDecimal y2.2) fun r5 =>
     bif r5.1 != 0 then
      some (Sum.inl (r5.1, ()))
     else
      bif decide (y2.2.1 < 0) then
       some (Sum.inl (1, ()))
      else
       Option.bind (bill_between y2.2 100) fun r6 =>
       bif !r6.1 then
        some (Sum.inl (1, ()))
       else
        again (x1.1, x1.2.1, x1.2.2.1, w64 (x1.2.2.2.1 + 1), ())
   else
    Option.bind (amount_CheckDecimal y2.2) fun r7 =>
    bif r7.1 != 0 then
     some (Sum.inl (r7.1, ()))
    else
     bif decide (y2.2.1 < 0) then
      some (Sum.inl (1, ()))
     else
      Option.bind (bill_between y2.2 100) fun r8 =>
      bif !r8.1 then
       some (Sum.inl (1, ()))
      else
       again (x1.1, x1.2.1, x1.2.2.1, w64 (x1.2.2.2.1 + 1), ())
 else
  some (Sum.inr ())

def bill_ratesFault (a0 : List D_api_Rate) : Option (Int × Unit) :=
 bif ((List.length a0 : Int)) == 0 then
  some (9, ())
 else
  bif decide (((List.length a0 : Int)) > 20) then
   some (2, ())
  else
   joinB (β := (Int × Unit)) (γ := Unit) (
    iter (X := bill_ratesFault_x6) (β := bill_ratesFault_r6) (List.length a0 + (List.length a0 + (Int.natAbs ((List.length a0 : Int)) + (Int.natAbs (0 : Int) + 2)))) (a0, a0, (List.length a0 : Int), 0, ()) (bill_ratesFault_b6)) fun _ =>
   some (0, ())

abbrev order_power_x3 : Type := Int × Int × Int × Unit
abbrev order_power_r3 : Type := ((Int × Unit) ⊕ (Int × Unit))
def order_power_b3  (x1 : order_power_x3) (again : order_power_x3 → Option order_power_r3) : Option order_power_r3 :=
 bif decide (x1.2.2.1 < x1.2.1) then
  again (w64 (x1.1 * 10), x1.2.1, w64 (x1.2.2.1 + 1), ())
 else
  some (Sum.inr (x1.1, ()))

def order_power (a0 : Int) : Option (Int × Unit) :=
 joinB (β := (Int × Unit)) (γ := (Int × Unit)) (
  iter (X := order_power_x3) (β := order_power_r3) (Int.natAbs (1 : Int) + (Int.natAbs a0 + (Int.natAbs (0 : Int) + 2))) (1, a0, 0, ()) (order_power_b3)) fun v2 =>
 some (v2.1, ())

def order_within (a0 : D_api_Decimal) (a1 : Int) (a2 : Int) : Option (Bool × Unit) :=
 bif decide (a0.2 ≤ a1) then
  bif decide (a0.1 ≥ 0) then
   Option.bind (order_power a0.2) fun r1 =>
   some (decide (a0.1 ≤ (w64 (a2 * r1.1))), ())
  else
   some (false, ())
 else
  some (false, ())

def order_PriceFault (a0 : D_api_Decimal) : Option (Int × Unit) :=
 Option.bind (amount_CheckDecimal a0) fun r1 =>
 bif r1.1 != 0 then
  some (r1.1, ())
 else
  Option.bind (order_within a0 4 1000000000) fun r2 =>
  bif !r2.1 then
   some (1, ())
  else
   some (0, ())

def bill_rateAt_1 (a0 : D_api_Rate) (a1 : List UInt8) : Option (Int × Unit) :=
 Option.bind (strings_Compare a0.1 a1) fun r1 =>
 some (r1.1, ())

abbrev slices_BinarySearchFunc_api_Rate_string_x3 : Type := (List D_api_Rate) × (List UInt8) × Unit × Int × Int × Int × Unit
abbrev slices_BinarySearchFunc_api_Rate_string_r3 : Type := ((Int × Bool × Unit) ⊕ ((List D_api_Rate) × (List UInt8) × Unit × Int × Int × Unit))
def slices_BinarySearchFunc_api_Rate_string_b3  (x1 : slices_BinarySearchFunc_api_Rate_string_x3) (again : slices_BinarySearchFunc_api_Rate_string_x3 → Option slices_BinarySearchFunc_api_Rate_string_r3) : Option slices_BinarySearchFunc_api_Rate_string_r3 :=
 bif decide (x1.2.2.2.2.1 < x1.2.2.2.2.2.1) then
  let n2 : Int := w64 (Int.fdiv (wu64 (w64 (x1.2.2.2.2.1 + x1.2.2.2.2.2.1))) (2 ^ 1))
  Option.bind (idx x1.1 n2) fun y3 =>
  Option.bind (bill_rateAt_1 y3 x1.2.1) fun r4 =>
  bif decide (r4.1 < 0) then
   again (x1.1, x1.2.1, x1.2.2.1, x1.2.2.2.1, w64 (n2 + 1), x1.2.2.2.2.2.1, ())
  else
   again (x1.1, x1.2.1, x1.2.2.1, x1.2.2.2.1, x1.2.2.2.2.1, n2, ())
 else
  some (Sum.inr (x1.1, x1.2.1, x1.2.2.1, x1.2.2.2.1, x1.2.2.2.2.1, ()))

def slices_BinarySearchFunc_api_Rate_string (a0 : List D_api_Rate) (a1 : List UInt8) (a2 : Unit) : Option (Int × Bool × Unit) :=
 joinB (β := (Int × Bool × Unit)) (γ := ((List D_api_Rate) × (List UInt8) × Unit × Int × Int × Unit)) (
  iter (X := slices_BinarySearchFunc_api_Rate_string_x3) (β := slices_BinarySearchFunc_api_Rate_string_r3) (List.length a0 + (List.length a1 + (Int.natAbs ((List.length a0 : Int)) + (Int.natAbs (0 : Int) + (Int.natAbs ((List.length a0 : Int)) + 2))))) (a0, a1, a2, (List.length a0 : Int), 0, (List.length a0 : Int), ()) (slices_BinarySearchFunc_api_Rate_string_b3)) fun v5 =>
 bif decide (v5.2.2.2.2.1 < v5.2.2.2.1) then
  Option.bind (idx v5.1 v5.2.2.2.2.1) fun y6 =>
  Option.bind (bill_rateAt_1 y6 v5.2.1) fun r7 =>
  some (v5.2.2.2.2.1, r7.1 == 0, ())
 else
  some (v5.2.2.2.2.1, false, ())

def bill_rateAt (a0 : List D_api_Rate) (a1 : List UInt8) : Option (Int × Bool × Unit) :=
 Option.bind (slices_BinarySearchFunc_api_Rate_string a0 a1 ()) fun r1 =>
 some (r1.1, r1.2.1, ())

def bill_hasRate (a0 : D_api_Invoice) (a1 : List UInt8) : Option (Bool × Unit) :=
 Option.bind (bill_rateAt a0.2.2.2.2.2.2.1 a1) fun r1 =>
 some (r1.2.1, ())

abbrev bill_extrasFault_x4 : Type := Bool × (List D_api_Extra) × Int × Int × (List UInt8) × (List UInt8) × Int × Int × Int × Bool × (List D_api_Rate) × (List D_api_BillLine) × (List D_api_Extra) × Unit
abbrev bill_extrasFault_r4 : Type := ((Int × Unit) ⊕ Unit)
def bill_extrasFault_b4  (x1 : bill_extrasFault_x4) (again : bill_extrasFault_x4 → Option bill_extrasFault_r4) : Option bill_extrasFault_r4 :=
 bif decide (x1.2.2.2.1 < x1.2.2.1) then
  Option.bind (idx x1.2.1 x1.2.2.2.1) fun y2 =>
  Option.bind (amount_CheckDecimal y2.2.1) fun r3 =>
  bif r3.1 != 0 then
   some (Sum.inl (r3.1, ()))
  else
   bif y2.2.1.1 == 0 then
    some (Sum.inl (13, ()))
   else
    bif y2.1 then
     Option.bind (bill_between y2.2.1 100) fun r4 =>
     joinB (β := ((Int × Unit) ⊕ Unit)) (γ := (Bool × (List D_api_Extra) × Int × Int × Bool × (List UInt8) × (List UInt8) × Int × Int × Int × Bool × (List D_api_Rate) × (List D_api_BillLine) × (List D_api_Extra) × Bool × Int × Int × (List UInt8) × Unit)) (
      bif !r4.1 then
       some (Sum.inr (x1.1, x1.2.1, x1.2.2.1, x1.2.2.2.1, !r4.1, x1.2.2.2.2.1, x1.2.2.2.2.2.1, x1.2.2.2.2.2.2.1, x1.2.2.2.2.2.2.2.1, x1.2.2.2.2.2.2.2.2.1, x1.2.2.2.2.2.2.2.2.2.1, x1.2.2.2.2.2.2.2.2.2.2.1, x1.2.2.2.2.2.2.2.2.2.2.2.1, x1.2.2.2.2.2.2.2.2.2.2.2.2.1, y2.1, y2.2.1.1, y2.2.1.2, y2.2.2, ()))
      else
       bif !y2.1 then
        Option.bind (bill_between y2.2.1 1000000000) fun r5 =>
        bif !r5.1 then
         some (Sum.inr (x1.1, x1.2.1, x1.2.2.1, x1.2.2.2.1, true, x1.2.2.2.2.1, x1.2.2.2.2.2.1, x1.2.2.2.2.2.2.1, x1.2.2.2.2.2.2.2.1, x1.2.2.2.2.2.2.2.2.1, x1.2.2.2.2.2.2.2.2.2.1, x1.2.2.2.2.2.2.2.2.2.2.1, x1.2.2.2.2.2.2.2.2.2.2.2.1, x1.2.2.2.2.2.2.2.2.2.2.2.2.1, y2.1, y2.2.1.1, y2.2.1.2, y2.2.2, ()))
        else
         some (Sum.inr (x1.1, x1.2.1, x1.2.2.1, x1.2.2.2.1, decide (y2.2.1.2 > x1.2.2.2.2.2.2.2.1), x1.2.2.2.2.1, x1.2.2.2.2.2.1, x1.2.2.2.2.2.2.1, x1.2.2.2.2.2.2.2.1, x1.2.2.2.2.2.2.2.2.1, x1.2.2.2.2.2.2.2.2.2.1, x1.2.2.2.2.2.2.2.2.2.2.1, x1.2.2.2.2.2.2.2.2.2.2.2.1, x1.2.2.2.2.2.2.2.2.2.2.2.2.1, y2.1, y2.2.1.1, y2.2.1.2, y2.2.2, ()))
       else
        some (Sum.inr (x1.1, x1.2.1, x1.2.2.1, x1.2.2.2.1, false, x1.2.2.2.2.1, x1.2.2.2.2.2.1, x1.2.2.2.2.2.2.1, x1.2.2.2.2.2.2.2.1, x1.2.2.2.2.2.2.2.2.1, x1.2.2.2.2.2.2.2.2.2.1, x1.2.2.2.2.2.2.2.2.2.2.1, x1.2.2.2.2.2.2.2.2.2.2.2.1, x1.2.2.2.2.2.2.2.2.2.2.2.2.1, y2.1, y2.2.1.1, y2.2.1.2, y2.2.2, ()))) fun v6 =>
     bif v6.2.2.2.2.1 then
      some (Sum.inl (1, ()))
     else
      bif v6.1 then
       bif !(v6.2.2.2.2.2.2.2.2.2.2.2.2.2.2.2.2.2.1 == []) then
        some (Sum.inl (3, ()))
       else
        bif !v6.1 then
         bif !(v6.2.2.2.2.2.2.2.2.2.2.2.2.2.2.2.2.2.1 == []) then
          Option.bind (bill_hasRate (v6.2.2.2.2.2.1, v6.2.2.2.2.2.2.1, v6.2.2.2.2.2.2.2.1, v6.2.2.2.2.2.2.2.2.1, v6.2.2.2.2.2.2.2.2.2.1, v6.2.2.2.2.2.2.2.2.2.2.1, v6.2.2.2.2.2.2.2.2.2.2.2.1, v6.2.2.2.2.2.2.2.2.2.2.2.2.1, v6.2.2.2.2.2.2.2.2.2.2.2.2.2.1) v6.2.2.2.2.2.2.2.2.2.2.2.2.2.2.2.2.2.1) fun r7 =>
          bif !r7.1 then
           some (Sum.inl (5, ()))
          else
           again (v6.1, v6.2.1, v6.2.2.1, w64 (v6.2.2.2.1 + 1), v6.2.2.2.2.2.1, v6.2.2.2.2.2.2.1, v6.2.2.2.2.2.2.2.1, v6.2.2.2.2.2.2.2.2.1, v6.2.2.2.2.2.2.2.2.2.1, v6.2.2.2.2.2.2.2.2.2.2.1, v6.2.2.2.2.2.2.2.2.2.2.2.1, v6.2.2.2.2.2.2.2.2.2.2.2.2.1, v6.2.2.2.2.2.2.2.2.2.2.2.2.2.1, ())
         else
          again (v6.1, v6.2.1, v6.2.2.1, w64 (v6.2.2.2.1 + 1), v6.2.2.2.2.2.1, v6.2.2.2.2.2.2.1, v6.2.2.2.2.2.2.2.1, v6.2.2.2.2.2.2.2.2.1, v6.2.2.2.2.2.2.2.2.2.1, v6.2.2.2.2.2.2.2.2.2.2.1, v6.2.2.2.2.2.2.2.2.2.2.2.1, v6.2.2.2.2.2.2.2.2.2.2.2.2.1, v6.2.2.2.2.2.2.2.2.2.2.2.2.2.1, ())
        else
         again (v6.1, v6.2.1, v6.2.2.1, w64 (v6.2.2.2.1 + 1), v6.2.2.2.2.2.1, v6.2.2.2.2.2.2.1, v6.2.2.2.2.2.2.2.1, v6.2.2.2.2.2.2.2.2.1, v6.2.2.2.2.2.2.2.2.2.1, v6.2.2.2.2.2.2.2.2.2.2.1, v6.2.2.2.2.2.2.2.2.2.2.2.1, v6.2.2.2.2.2.2.2.2.2.2.2.2.1, v6.2.2.2.2.2.2.2.2.2.2.2.2.2.1, ())
      else
       bif !v6.1 then
        bif !(v6.2.2.2.2.2.2.2.2.2.2.2.2.2.2.2.2.2.1 == []) then
         Option.bind (bill_hasRate (v6.2.2.2.2.2.1, v6.2.2.2.2.2.2.1, v6.2.2.2.2.2.2.2.1, v6.2.2.2.2.2.2.2.2.1, v6.2.2.2.2.2.2.2.2.2.1, v6.2.2.2.2.2.2.2.2.2.2.1, v6.2.2.2.2.2.2.2.2.2.2.2.1, v6.2.2.2.2.2.2.2.2.2.2.2.2.1, v6.2.2.2.2.2.2.2.2.2.2.2.2.2.1) v6.2.2.2.2.2.2.2.2.2.2.2.2.2.2.2.2.2.1) fun r8 =>
         bif !r8.1 then
          some (Sum.inl (5, ()))
         else
          again (v6.1, v6.2.1, v6.2.2.1, w64 (v6.2.2.2.1 + 1), v6.2.2.2.2.2.1, v6.2.2.2.2.2.2.1, v6.2.2.2.2.2.2.2.1, v6.2.2.2.2.2.2.2.2.1, v6.2.2.2.2.2.2.2.2.2.1, v6.2.2.2.2.2.2.2.2.2.2.1, v6.2.2.2.2.2.2.2.2.2.2.2.1, v6.2.2.2.2.2.2.2.2.2.2.2.2.1, v6.2.2.2.2.2.2.2.2.2.2.2.2.2.1, ())
        else
         again (v6.1, v6.2.1, v6.2.2.1, w64 (v6.2.2.2.1 + 1), v6.2.2.2.2.2.1, v6.2.2.2.2.2.2.1, v6.2.2.2.2.2.2.2.1, v6.2.2.2.2.2.2.2.2.1, v6.2.2.2.2.2.2.2.2.2.1, v6.2.2.2.2.2.2.2.2.2.2.1, v6.2.2.2.2.2.2.2.2.2.2.2.1, v6.2.2.2.2.2.2.2.2.2.2.2.2.1, v6.2.2.2.2.2.2.2.2.2.2.2.2.2.1, ())
       else
        again (v6.1, v6.2.1, v6.2.2.1, w64 (v6.2.2.2.1 + 1), v6.2.2.2.2.2.1, v6.2.2.2.2.2.2.1, v6.2.2.2.2.2.2.2.1, v6.2.2.2.2.2.2.2.2.1, v6.2.2.2.2.2.2.2.2.2.1, v6.2.2.2.2.2.2.2.2.2.2.1, v6.2.2.2.2.2.2.2.2.2.2.2.1, v6.2.2.2.2.2.2.2.2.2.2.2.2.1, v6.2.2.2.2.2.2.2.2.2.2.2.2.2.1, ())
    else
     joinB (β := ((Int × Unit) ⊕ Unit)) (γ := (Bool × (List D_api_Extra) × Int × Int × Bool × (List UInt8) × (List UInt8) × Int × Int × Int × Bool × (List D_api_Rate) × (List D_api_BillLine) × (List D_api_Extra) × Bool × Int × Int × (List UInt8) × Unit)) (
      bif !y2.1 then
       Option.bind (bill_between y2.2.1 1000000000) fun r9 =>
       bif !r9.1 then
        some (Sum.inr (x1.1, x1.2.1, x1.2.2.1, x1.2.2.2.1, true, x1.2.2.2.2.1, x1.2.2.2.2.2.1, x1.2.2.2.2.2.2.1, x1.2.2.2.2.2.2.2.1, x1.2.2.2.2.2.2.2.2.1, x1.2.2.2.2.2.2.2.2.2.1, x1.2.2.2.2.2.2.2.2.2.2.1, x1.2.2.2.2.2.2.2.2.2.2.2.1, x1.2.2.2.2.2.2.2.2.2.2.2.2.1, y2.1, y2.2.1.1, y2.2.1.2, y2.2.2, ()))
       else
        some (Sum.inr (x1.1, x1.2.1, x1.2.2.1, x1.2.2.2.1, decide (y2.2.1.2 > x1.2.2.2.2.2.2.2.1), x1.2.2.2.2.1, x1.2.2.2.2.2.1, x1.2.2.2.2.2.2.1, x1.2.2.2.2.2.2.2.1, x1.2.2.2.2.2.2.2.2.1, x1.2.2.2.2.2.2.2.2.2.1, x1.2.2.2.2.2.2.2.2.2.2.1, x1.2.2.2.2.2.2.2.2.2.2.2.1, x1.2.2.2.2.2.2.2.2.2.2.2.2.1, y2.1, y2.2.1.1, y2.2.1.2, y2.2.2, ()))
      else
       some (Sum.inr (x1.1, x1.2.1, x1.2.2.1, x1.2.2.2.1, false, x1.2.2.2.2.1, x1.2.2.2.2.2.1, x1.2.2.2.2.2.2.1, x1.2.2.2.2.2.2.2.1, x1.2.2.2.2.2.2.2.2.1, x1.2.2.2.2.2.2.2.2.2.1, x1.2.2.2.2.2.2.2.2.2.2.1, x1.2.2.2.2.2.2.2.2.2.2.2.1, x1.2.2.2.2.2.2.2.2.2.2.2.2.1, y2.1, y2.2.1.1, y2.2.1.2, y2.2.2, ()))) fun v10 =>
     bif v10.2.2.2.2.1 then
      some (Sum.inl (1, ()))
     else
      bif v10.1 then
       bif !(v10.2.2.2.2.2.2.2.2.2.2.2.2.2.2.2.2.2.1 == []) then
        some (Sum.inl (3, ()))
       else
        bif !v10.1 then
         bif !(v10.2.2.2.2.2.2.2.2.2.2.2.2.2.2.2.2.2.1 == []) then
          Option.bind (bill_hasRate (v10.2.2.2.2.2.1, v10.2.2.2.2.2.2.1, v10.2.2.2.2.2.2.2.1, v10.2.2.2.2.2.2.2.2.1, v10.2.2.2.2.2.2.2.2.2.1, v10.2.2.2.2.2.2.2.2.2.2.1, v10.2.2.2.2.2.2.2.2.2.2.2.1, v10.2.2.2.2.2.2.2.2.2.2.2.2.1, v10.2.2.2.2.2.2.2.2.2.2.2.2.2.1) v10.2.2.2.2.2.2.2.2.2.2.2.2.2.2.2.2.2.1) fun r11 =>
          bif !r11.1 then
           some (Sum.inl (5, ()))
          else
           again (v10.1, v10.2.1, v10.2.2.1, w64 (v10.2.2.2.1 + 1), v10.2.2.2.2.2.1, v10.2.2.2.2.2.2.1, v10.2.2.2.2.2.2.2.1, v10.2.2.2.2.2.2.2.2.1, v10.2.2.2.2.2.2.2.2.2.1, v10.2.2.2.2.2.2.2.2.2.2.1, v10.2.2.2.2.2.2.2.2.2.2.2.1, v10.2.2.2.2.2.2.2.2.2.2.2.2.1, v10.2.2.2.2.2.2.2.2.2.2.2.2.2.1, ())
         else
          again (v10.1, v10.2.1, v10.2.2.1, w64 (v10.2.2.2.1 + 1), v10.2.2.2.2.2.1, v10.2.2.2.2.2.2.1, v10.2.2.2.2.2.2.2.1, v10.2.2.2.2.2.2.2.2.1, v10.2.2.2.2.2.2.2.2.2.1, v10.2.2.2.2.2.2.2.2.2.2.1, v10.2.2.2.2.2.2.2.2.2.2.2.1, v10.2.2.2.2.2.2.2.2.2.2.2.2.1, v10.2.2.2.2.2.2.2.2.2.2.2.2.2.1, ())
        else
         again (v10.1, v10.2.1, v10.2.2.1, w64 (v10.2.2.2.1 + 1), v10.2.2.2.2.2.1, v10.2.2.2.2.2.2.1, v10.2.2.2.2.2.2.2.1, v10.2.2.2.2.2.2.2.2.1, v10.2.2.2.2.2.2.2.2.2.1, v10.2.2.2.2.2.2.2.2.2.2.1, v10.2.2.2.2.2.2.2.2.2.2.2.1, v10.2.2.2.2.2.2.2.2.2.2.2.2.1, v10.2.2.2.2.2.2.2.2.2.2.2.2.2.1, ())
      else
       bif !v10.1 then
        bif !(v10.2.2.2.2.2.2.2.2.2.2.2.2.2.2.2.2.2.1 == []) then
         Option.bind (bill_hasRate (v10.2.2.2.2.2.1, v10.2.2.2.2.2.2.1, v10.2.2.2.2.2.2.2.1, v10.2.2.2.2.2.2.2.2.1, v10.2.2.2.2.2.2.2.2.2.1, v10.2.2.2.2.2.2.2.2.2.2.1, v10.2.2.2.2.2.2.2.2.2.2.2.1, v10.2.2.2.2.2.2.2.2.2.2.2.2.1, v10.2.2.2.2.2.2.2.2.2.2.2.2.2.1) v10.2.2.2.2.2.2.2.2.2.2.2.2.2.2.2.2.2.1) fun r12 =>
         bif !r12.1 then
          some (Sum.inl (5, ()))
         else
          again (v10.1, v10.2.1, v10.2.2.1, w64 (v10.2.2.2.1 + 1), v10.2.2.2.2.2.1, v10.2.2.2.2.2.2.1, v10.2.2.2.2.2.2.2.1, v10.2.2.2.2.2.2.2.2.1, v10.2.2.2.2.2.2.2.2.2.1, v10.2.2.2.2.2.2.2.2.2.2.1, v10.2.2.2.2.2.2.2.2.2.2.2.1, v10.2.2.2.2.2.2.2.2.2.2.2.2.1, v10.2.2.2.2.2.2.2.2.2.2.2.2.2.1, ())
        else
         again (v10.1, v10.2.1, v10.2.2.1, w64 (v10.2.2.2.1 + 1), v10.2.2.2.2.2.1, v10.2.2.2.2.2.2.1, v10.2.2.2.2.2.2.2.1, v10.2.2.2.2.2.2.2.2.1, v10.2.2.2.2.2.2.2.2.2.1, v10.2.2.2.2.2.2.2.2.2.2.1, v10.2.2.2.2.2.2.2.2.2.2.2.1, v10.2.2.2.2.2.2.2.2.2.2.2.2.1, v10.2.2.2.2.2.2.2.2.2.2.2.2.2.1, ())
       else
        again (v10.1, v10.2.1, v10.2.2.1, w64 (v10.2.2.2.1 + 1), v10.2.2.2.2.2.1, v10.2.2.2.2.2.2.1, v10.2.2.2.2.2.2.2.1, v10.2.2.2.2.2.2.2.2.1, v10.2.2.2.2.2.2.2.2.2.1, v10.2.2.2.2.2.2.2.2.2.2.1, v10.2.2.2.2.2.2.2.2.2.2.2.1, v10.2.2.2.2.2.2.2.2.2.2.2.2.1, v10.2.2.2.2.2.2.2.2.2.2.2.2.2.1, ())
 else
  some (Sum.inr ())

def bill_extrasFault (a0 : D_api_Invoice) (a1 : List D_api_Extra) (a2 : Bool) : Option (Int × Unit) :=
 bif decide (((List.length a1 : Int)) > 20) then
  some (2, ())
 else
  joinB (β := (Int × Unit)) (γ := Unit) (
   iter (X := bill_extrasFault_x4) (β := bill_extrasFault_r4) (List.length a1 + (Int.natAbs ((List.length a1 : Int)) + (Int.natAbs (0 : Int) + (List.length a0.1 + (List.length a0.2.1 + (Int.natAbs a0.2.2.1 + (Int.natAbs a0.2.2.2.1 + (Int.natAbs a0.2.2.2.2.1 + (List.length a0.2.2.2.2.2.2.1 + (List.length a0.2.2.2.2.2.2.2.1 + (List.length a0.2.2.2.2.2.2.2.2 + 2))))))))))) (a2, a1, (List.length a1 : Int), 0, a0.1, a0.2.1, a0.2.2.1, a0.2.2.2.1, a0.2.2.2.2.1, a0.2.2.2.2.2.1, a0.2.2.2.2.2.2.1, a0.2.2.2.2.2.2.2.1, a0.2.2.2.2.2.2.2.2, ()) (bill_extrasFault_b4)) fun _ =>
  some (0, ())

def bill_lineFault (a0 : D_api_Invoice) (a1 : Int) : Option (Int × Unit) :=
 Option.bind (idx a0.2.2.2.2.2.2.2.1 a1) fun y1 =>
 Option.bind (kit_Outside y1.1 1 99999) fun r2 =>
 bif r2.1 then
  some (1, ())
 else
  bif decide (a1 > 0) then
   Option.bind (idx a0.2.2.2.2.2.2.2.1 (w64 (a1 - 1))) fun y3 =>
   bif decide (y1.1 ≤ y3.1) then
    some (8, ())
   else
    Option.bind (kit_Outside y1.2.1 1 99999) fun r4 =>
    bif r4.1 then
     some (1, ())
    else
     Option.bind (kit_IsName y1.2.2.1) fun r5 =>
     bif !r5.1 then
      some (5, ())
     else
      Option.bind (amount_CheckDecimal y1.2.2.2.1) fun r6 =>
      bif r6.1 != 0 then
       some (r6.1, ())
      else
       bif decide (y1.2.2.2.1.2 > 3) then
        some (1, ())
       else
        Option.bind (bill_between y1.2.2.2.1 1000000000) fun r7 =>
        bif !r7.1 then
         some (1, ())
        else
         bif y1.2.2.2.1.1 == 0 then
          some (13, ())
         else
          Option.bind (kit_IsName y1.2.2.2.2.1) fun r8 =>
          bif !r8.1 then
           some (5, ())
          else
           Option.bind (order_PriceFault y1.2.2.2.2.2.1) fun r9 =>
           bif r9.1 != 0 then
            some (r9.1, ())
           else
            Option.bind (kit_Outside y1.2.2.2.2.2.2.1 1 100000) fun r10 =>
            bif r10.1 then
             some (1, ())
            else
             Option.bind (bill_extrasFault a0 y1.2.2.2.2.2.2.2.1 true) fun r11 =>
             bif r11.1 != 0 then
              some (r11.1, ())
             else
              Option.bind (bill_hasRate a0 y1.2.2.2.2.2.2.2.2) fun r12 =>
              bif !r12.1 then
               some (5, ())
              else
               some (0, ())
  else
   Option.bind (kit_Outside y1.2.1 1 99999) fun r13 =>
   bif r13.1 then
    some (1, ())
   else
    Option.bind (kit_IsName y1.2.2.1) fun r14 =>
    bif !r14.1 then
     some (5, ())
    else
     Option.bind (amount_CheckDecimal y1.2.2.2.1) fun r15 =>
     bif r15.1 != 0 then
      some (r15.1, ())
     else
      bif decide (y1.2.2.2.1.2 > 3) then
       some (1, ())
      else
       Option.bind (bill_between y1.2.2.2.1 1000000000) fun r16 =>
       bif !r16.1 then
        some (1, ())
       else
        bif y1.2.2.2.1.1 == 0 then
         some (13, ())
        else
         Option.bind (kit_IsName y1.2.2.2.2.1) fun r17 =>
         bif !r17.1 then
          some (5, ())
         else
          Option.bind (order_PriceFault y1.2.2.2.2.2.1) fun r18 =>
          bif r18.1 != 0 then
           some (r18.1, ())
          else
           Option.bind (kit_Outside y1.2.2.2.2.2.2.1 1 100000) fun r19 =>
           bif r19.1 then
            some (1, ())
           else
            Option.bind (bill_extrasFault a0 y1.2.2.2.2.2.2.2.1 true) fun r20 =>
            bif r20.1 != 0 then
             some (r20.1, ())
            else
             Option.bind (bill_hasRate a0 y1.2.2.2.2.2.2.2.2) fun r21 =>
             bif !r21.1 then
              some (5, ())
             else
              some (0, ())

abbrev bill_CheckInvoice_x15 : Type := Int × Int × (List UInt8) × (List UInt8) × Int × Int × Int × Bool × (List D_api_Rate) × (List D_api_BillLine) × (List D_api_Extra) × Unit
abbrev bill_CheckInvoice_r15 : Type := ((Int × Unit) ⊕ ((List UInt8) × (List UInt8) × Int × Int × Int × Bool × (List D_api_Rate) × (List D_api_BillLine) × (List D_api_Extra) × Unit))
def bill_CheckInvoice_b15  (x1 : bill_CheckInvoice_x15) (again : bill_CheckInvoice_x15 → Option bill_CheckInvoice_r15) : Option bill_CheckInvoice_r15 :=
 bif decide (x1.2.1 < x1.1) then
  Option.bind (bill_lineFault (x1.2.2.1, x1.2.2.2.1, x1.2.2.2.2.1, x1.2.2.2.2.2.1, x1.2.2.2.2.2.2.1, x1.2.2.2.2.2.2.2.1, x1.2.2.2.2.2.2.2.2.1, x1.2.2.2.2.2.2.2.2.2.1, x1.2.2.2.2.2.2.2.2.2.2.1) x1.2.1) fun r2 =>
  bif r2.1 != 0 then
   some (Sum.inl (r2.1, ()))
  else
   again (x1.1, w64 (x1.2.1 + 1), x1.2.2.1, x1.2.2.2.1, x1.2.2.2.2.1, x1.2.2.2.2.2.1, x1.2.2.2.2.2.2.1, x1.2.2.2.2.2.2.2.1, x1.2.2.2.2.2.2.2.2.1, x1.2.2.2.2.2.2.2.2.2.1, x1.2.2.2.2.2.2.2.2.2.2.1, ())
 else
  some (Sum.inr (x1.2.2.1, x1.2.2.2.1, x1.2.2.2.2.1, x1.2.2.2.2.2.1, x1.2.2.2.2.2.2.1, x1.2.2.2.2.2.2.2.1, x1.2.2.2.2.2.2.2.2.1, x1.2.2.2.2.2.2.2.2.2.1, x1.2.2.2.2.2.2.2.2.2.2.1, ()))

def bill_CheckInvoice (a0 : D_api_Invoice) : Option (Int × Unit) :=
 Option.bind (kit_IsName a0.1) fun r1 =>
 bif !r1.1 then
  some (5, ())
 else
  Option.bind (kit_IsName a0.2.1) fun r2 =>
  bif !r2.1 then
   some (5, ())
  else
   Option.bind (kit_IsDay a0.2.2.1) fun r3 =>
   bif !r3.1 then
    some (1, ())
   else
    Option.bind (kit_Outside a0.2.2.2.1 0 4) fun r4 =>
    bif r4.1 then
     some (1, ())
    else
     Option.bind (amount_IsWay a0.2.2.2.2.1) fun r5 =>
     bif !r5.1 then
      some (4, ())
     else
      Option.bind (bill_ratesFault a0.2.2.2.2.2.2.1) fun r6 =>
      bif r6.1 != 0 then
       some (r6.1, ())
      else
       bif ((List.length a0.2.2.2.2.2.2.2.1 : Int)) == 0 then
        some (9, ())
       else
        bif decide (((List.length a0.2.2.2.2.2.2.2.1 : Int)) > 500) then
         some (2, ())
        else
         joinB (β := (Int × Unit)) (γ := ((List UInt8) × (List UInt8) × Int × Int × Int × Bool × (List D_api_Rate) × (List D_api_BillLine) × (List D_api_Extra) × Unit)) (
          iter (X := bill_CheckInvoice_x15) (β := bill_CheckInvoice_r15) (Int.natAbs ((List.length a0.2.2.2.2.2.2.2.1 : Int)) + (Int.natAbs (0 : Int) + (List.length a0.1 + (List.length a0.2.1 + (Int.natAbs a0.2.2.1 + (Int.natAbs a0.2.2.2.1 + (Int.natAbs a0.2.2.2.2.1 + (List.length a0.2.2.2.2.2.2.1 + (List.length a0.2.2.2.2.2.2.2.1 + (List.length a0.2.2.2.2.2.2.2.2 + 2)))))))))) ((List.length a0.2.2.2.2.2.2.2.1 : Int), 0, a0.1, a0.2.1, a0.2.2.1, a0.2.2.2.1, a0.2.2.2.2.1, a0.2.2.2.2.2.1, a0.2.2.2.2.2.2.1, a0.2.2.2.2.2.2.2.1, a0.2.2.2.2.2.2.2.2, ()) (bill_CheckInvoice_b15)) fun v9 =>
         Option.bind (bill_extrasFault (v9.1, v9.2.1, v9.2.2.1, v9.2.2.2.1, v9.2.2.2.2.1, v9.2.2.2.2.2.1, v9.2.2.2.2.2.2.1, v9.2.2.2.2.2.2.2.1, v9.2.2.2.2.2.2.2.2.1) v9.2.2.2.2.2.2.2.2.1 false) fun r10 =>
         some (r10.1, ())

abbrev whole_Int_Times_x7 : Type := Int × Int × Int × (List Int) × Int × Int × (List Int) × Int × Int × Bool × (List Int) × Bool × (List Int) × Bool × (List Int) × (List Int) × Unit
abbrev whole_Int_Times_r7 : Type := (((D_whole_Int × Unit) ⊕ (Bool × (List Int) × Bool × (List Int) × Bool × (List Int) × (List Int) × Unit)) ⊕ (Int × Int × (List Int) × Int × Int × Bool × (List Int) × Bool × (List Int) × Bool × (List Int) × (List Int) × Unit))
def whole_Int_Times_b7  (x1 : whole_Int_Times_x7) (again : whole_Int_Times_x7 → Option whole_Int_Times_r7) : Option whole_Int_Times_r7 :=
 bif decide (x1.2.2.2.2.2.2.2.2.1 < x1.2.2.2.2.2.2.2.1) then
  Option.bind (idx x1.2.2.2.2.2.2.1 x1.2.2.2.2.2.2.2.2.1) fun y2 =>
  chk (decide (0 ≤ (w64 (x1.1 + x1.2.2.2.2.2.2.2.2.1))) && decide ((w64 (x1.1 + x1.2.2.2.2.2.2.2.2.1)) < (List.length x1.2.2.2.2.2.2.2.2.2.2.2.2.2.2.2.1 : Int))) <|
  Option.bind (x1.2.2.2.2.2.2.2.2.2.2.2.2.2.2.2.1[(w64 (x1.1 + x1.2.2.2.2.2.2.2.2.1)).toNat]?) fun y3 =>
  let n4 : Int := wu64 ((wu64 y3) + (wu64 ((wu64 x1.2.1) * (wu64 y2))))
  chk (decide (0 ≤ (w64 (x1.1 + x1.2.2.2.2.2.2.2.2.1))) && decide ((w64 (x1.1 + x1.2.2.2.2.2.2.2.2.1)) < (List.length x1.2.2.2.2.2.2.2.2.2.2.2.2.2.2.2.1 : Int))) <|
  Option.bind (x1.2.2.2.2.2.2.2.2.2.2.2.2.2.2.2.1[(w64 (x1.1 + x1.2.2.2.2.2.2.2.2.1)).toNat]?) fun _ =>
  again (x1.1, x1.2.1, Int.fdiv (wu64 (x1.2.2.1 + n4)) (2 ^ 32), x1.2.2.2.1, x1.2.2.2.2.1, x1.2.2.2.2.2.1, x1.2.2.2.2.2.2.1, x1.2.2.2.2.2.2.2.1, w64 (x1.2.2.2.2.2.2.2.2.1 + 1), x1.2.2.2.2.2.2.2.2.2.1, x1.2.2.2.2.2.2.2.2.2.2.1, x1.2.2.2.2.2.2.2.2.2.2.2.1, x1.2.2.2.2.2.2.2.2.2.2.2.2.1, x1.2.2.2.2.2.2.2.2.2.2.2.2.2.1, x1.2.2.2.2.2.2.2.2.2.2.2.2.2.2.1, List.set x1.2.2.2.2.2.2.2.2.2.2.2.2.2.2.2.1 (w64 (x1.1 + x1.2.2.2.2.2.2.2.2.1)).toNat (wu32 (wu64 (x1.2.2.1 + n4))), ())
 else
  some (Sum.inr (x1.1, x1.2.2.1, x1.2.2.2.1, x1.2.2.2.2.1, x1.2.2.2.2.2.1, x1.2.2.2.2.2.2.2.2.2.1, x1.2.2.2.2.2.2.2.2.2.2.1, x1.2.2.2.2.2.2.2.2.2.2.2.1, x1.2.2.2.2.2.2.2.2.2.2.2.2.1, x1.2.2.2.2.2.2.2.2.2.2.2.2.2.1, x1.2.2.2.2.2.2.2.2.2.2.2.2.2.2.1, x1.2.2.2.2.2.2.2.2.2.2.2.2.2.2.2.1, ()))

abbrev whole_Int_Times_x3 : Type := (List Int) × Int × Int × Bool × (List Int) × Bool × (List Int) × Bool × (List Int) × (List Int) × Unit
abbrev whole_Int_Times_r3 : Type := ((D_whole_Int × Unit) ⊕ (Bool × (List Int) × Bool × (List Int) × Bool × (List Int) × (List Int) × Unit))
def whole_Int_Times_b3  (x1 : whole_Int_Times_x3) (again : whole_Int_Times_x3 → Option whole_Int_Times_r3) : Option whole_Int_Times_r3 :=
 bif decide (x1.2.2.1 < x1.2.1) then
  Option.bind (idx x1.1 x1.2.2.1) fun y2 =>
  joinB (β := ((D_whole_Int × Unit) ⊕ (Bool × (List Int) × Bool × (List Int) × Bool × (List Int) × (List Int) × Unit))) (γ := (Int × Int × (List Int) × Int × Int × Bool × (List Int) × Bool × (List Int) × Bool × (List Int) × (List Int) × Unit)) (
   iter (X := whole_Int_Times_x7) (β := whole_Int_Times_r7) (Int.natAbs x1.2.2.1 + (Int.natAbs y2 + (Int.natAbs (0 : Int) + (List.length x1.1 + (Int.natAbs x1.2.1 + (Int.natAbs x1.2.2.1 + (List.length x1.2.2.2.2.2.2.1 + (Int.natAbs ((List.length x1.2.2.2.2.2.2.1 : Int)) + (Int.natAbs (0 : Int) + (List.length x1.2.2.2.2.1 + (List.length x1.2.2.2.2.2.2.1 + (List.length x1.2.2.2.2.2.2.2.2.1 + (List.length x1.2.2.2.2.2.2.2.2.2.1 + 2))))))))))))) (x1.2.2.1, y2, 0, x1.1, x1.2.1, x1.2.2.1, x1.2.2.2.2.2.2.1, (List.length x1.2.2.2.2.2.2.1 : Int), 0, x1.2.2.2.1, x1.2.2.2.2.1, x1.2.2.2.2.2.1, x1.2.2.2.2.2.2.1, x1.2.2.2.2.2.2.2.1, x1.2.2.2.2.2.2.2.2.1, x1.2.2.2.2.2.2.2.2.2.1, ()) (whole_Int_Times_b7)) fun v3 =>
  chk (decide (0 ≤ (w64 (v3.1 + ((List.length v3.2.2.2.2.2.2.2.2.1 : Int))))) && decide ((w64 (v3.1 + ((List.length v3.2.2.2.2.2.2.2.2.1 : Int)))) < (List.length v3.2.2.2.2.2.2.2.2.2.2.2.1 : Int))) <|
  Option.bind (v3.2.2.2.2.2.2.2.2.2.2.2.1[(w64 (v3.1 + ((List.length v3.2.2.2.2.2.2.2.2.1 : Int)))).toNat]?) fun _ =>
  again (v3.2.2.1, v3.2.2.2.1, w64 (v3.2.2.2.2.1 + 1), v3.2.2.2.2.2.1, v3.2.2.2.2.2.2.1, v3.2.2.2.2.2.2.2.1, v3.2.2.2.2.2.2.2.2.1, v3.2.2.2.2.2.2.2.2.2.1, v3.2.2.2.2.2.2.2.2.2.2.1, List.set v3.2.2.2.2.2.2.2.2.2.2.2.1 (w64 (v3.1 + ((List.length v3.2.2.2.2.2.2.2.2.1 : Int)))).toNat (wu32 v3.2.1), ())
 else
  some (Sum.inr (x1.2.2.2.1, x1.2.2.2.2.1, x1.2.2.2.2.2.1, x1.2.2.2.2.2.2.1, x1.2.2.2.2.2.2.2.1, x1.2.2.2.2.2.2.2.2.1, x1.2.2.2.2.2.2.2.2.2.1, ()))

def whole_Int_Times (a0 : D_whole_Int) (a1 : D_whole_Int) : Option (D_whole_Int × Unit) :=
 chk (decide (0 ≤ (w64 (((List.length a0.2 : Int)) + ((List.length a1.2 : Int))))) && decide ((w64 (((List.length a0.2 : Int)) + ((List.length a1.2 : Int)))) ≤ (w64 (((List.length a0.2 : Int)) + ((List.length a1.2 : Int))))) && decide ((4 : Int) * (w64 (((List.length a0.2 : Int)) + ((List.length a1.2 : Int)))) ≤ 281474976710656) && decide ((w64 (((List.length a0.2 : Int)) + ((List.length a1.2 : Int)))) ≤ 9223372036854775807)) <|
 joinB (β := (D_whole_Int × Unit)) (γ := (Bool × (List Int) × Bool × (List Int) × Bool × (List Int) × (List Int) × Unit)) (
  iter (X := whole_Int_Times_x3) (β := whole_Int_Times_r3) (List.length a0.2 + (Int.natAbs ((List.length a0.2 : Int)) + (Int.natAbs (0 : Int) + (List.length a0.2 + (List.length a1.2 + (List.length ([] : List Int) + (List.length ((List.replicate (Int.toNat (w64 (((List.length a0.2 : Int)) + ((List.length a1.2 : Int))))) 0) : List Int) + 2))))))) (a0.2, (List.length a0.2 : Int), 0, a0.1, a0.2, a1.1, a1.2, false, [], List.replicate (Int.toNat (w64 (((List.length a0.2 : Int)) + ((List.length a1.2 : Int))))) 0, ()) (whole_Int_Times_b3)) fun v10 =>
 Option.bind (whole_made (!(v10.1 == v10.2.2.1)) v10.2.2.2.2.2.2.1) fun r11 =>
 some (r11.1, ())

abbrev whole_Power_x3 : Type := Int × Int × Bool × (List Int) × Bool × (List Int) × Unit
abbrev whole_Power_r3 : Type := ((D_whole_Int × Unit) ⊕ (Bool × (List Int) × Bool × (List Int) × Unit))
def whole_Power_b3  (x1 : whole_Power_x3) (again : whole_Power_x3 → Option whole_Power_r3) : Option whole_Power_r3 :=
 bif decide (x1.2.1 < x1.1) then
  Option.bind (whole_Of 10) fun r2 =>
  Option.bind (whole_Int_Times (x1.2.2.2.2.1, x1.2.2.2.2.2.1) r2.1) fun r3 =>
  again (x1.1, w64 (x1.2.1 + 1), x1.2.2.1, x1.2.2.2.1, r3.1.1, r3.1.2, ())
 else
  some (Sum.inr (x1.2.2.1, x1.2.2.2.1, x1.2.2.2.2.1, x1.2.2.2.2.2.1, ()))

def whole_Power (a0 : Int) : Option (D_whole_Int × Unit) :=
 Option.bind (whole_Of 1) fun r1 =>
 joinB (β := (D_whole_Int × Unit)) (γ := (Bool × (List Int) × Bool × (List Int) × Unit)) (
  iter (X := whole_Power_x3) (β := whole_Power_r3) (Int.natAbs a0 + (Int.natAbs (0 : Int) + (List.length ([] : List Int) + (List.length r1.1.2 + 2)))) (a0, 0, false, [], r1.1.1, r1.1.2, ()) (whole_Power_b3)) fun v5 =>
 some ((v5.2.2.1, v5.2.2.2.1), ())

abbrev whole_sum_v_x6 : Type := (List Int) × (List Int) × Int × (List Int) × Int × Int × Unit
abbrev whole_sum_v_r6 : Type := (((List Int) × Unit) ⊕ ((List Int) × Int × Unit))
def whole_sum_v_b6  (x1 : whole_sum_v_x6) (again : whole_sum_v_x6 → Option whole_sum_v_r6) : Option whole_sum_v_r6 :=
 bif decide (x1.2.2.2.2.2.1 < x1.2.2.2.2.1) then
  Option.bind (idx x1.2.2.2.1 x1.2.2.2.2.2.1) fun y2 =>
  joinB (β := (((List Int) × Unit) ⊕ ((List Int) × Int × Unit))) (γ := ((List Int) × (List Int) × Int × (List Int) × Int × Int × Unit)) (
   bif decide (x1.2.2.2.2.2.1 < ((List.length x1.1 : Int))) then
    Option.bind (idx x1.1 x1.2.2.2.2.2.1) fun y3 =>
    let n4 : Int := wu64 ((wu64 (x1.2.2.1 + (wu64 y2))) + (wu64 y3))
    some (Sum.inr (x1.1, x1.2.1, n4, x1.2.2.2.1, x1.2.2.2.2.1, x1.2.2.2.2.2.1, ()))
   else
    some (Sum.inr (x1.1, x1.2.1, wu64 (x1.2.2.1 + (wu64 y2)), x1.2.2.2.1, x1.2.2.2.2.1, x1.2.2.2.2.2.1, ()))) fun v5 =>
  chk (decide (((List.length v5.2.1) + 1) * 4 ≤ 140737488355328) && decide ((List.length v5.2.1) + 1 ≤ maxLen)) <|
  again (v5.1, v5.2.1 ++ [(wu32 v5.2.2.1)], Int.fdiv v5.2.2.1 (2 ^ 32), v5.2.2.2.1, v5.2.2.2.2.1, w64 (v5.2.2.2.2.2.1 + 1), ())
 else
  some (Sum.inr (x1.2.1, x1.2.2.1, ()))

def whole_sum_v (a0 : List Int) (a1 : List Int) : Option ((List Int) × Unit) :=
 joinB (β := ((List Int) × Unit)) (γ := ((List Int) × (List Int) × Unit)) (
  bif decide (((List.length a0 : Int)) < ((List.length a1 : Int))) then
   some (Sum.inr (a1, a0, ()))
  else
   some (Sum.inr (a0, a1, ()))) fun v1 =>
 chk (decide (0 ≤ (0 : Int)) && decide ((0 : Int) ≤ (w64 (((List.length v1.1 : Int)) + 1))) && decide ((4 : Int) * (w64 (((List.length v1.1 : Int)) + 1)) ≤ 281474976710656) && decide ((w64 (((List.length v1.1 : Int)) + 1)) ≤ 9223372036854775807)) <|
 joinB (β := ((List Int) × Unit)) (γ := ((List Int) × Int × Unit)) (
  iter (X := whole_sum_v_x6) (β := whole_sum_v_r6) (List.length v1.2.1 + (List.length ([] : List Int) + (Int.natAbs (0 : Int) + (List.length v1.1 + (Int.natAbs ((List.length v1.1 : Int)) + (Int.natAbs (0 : Int) + 2)))))) (v1.2.1, [], 0, v1.1, (List.length v1.1 : Int), 0, ()) (whole_sum_v_b6)) fun v7 =>
 chk (decide (((List.length v7.1) + 1) * 4 ≤ 140737488355328) && decide ((List.length v7.1) + 1 ≤ maxLen)) <|
 some (v7.1 ++ [(wu32 v7.2.1)], ())

def whole_Int_Plus (a0 : D_whole_Int) (a1 : D_whole_Int) : Option (D_whole_Int × Unit) :=
 bif a0.1 == a1.1 then
  Option.bind (whole_sum_v a0.2 a1.2) fun r1 =>
  Option.bind (whole_made a0.1 r1.1) fun r2 =>
  some (r2.1, ())
 else
  Option.bind (whole_compare a0.2 a1.2) fun r3 =>
  bif decide (r3.1 ≥ 0) then
   Option.bind (whole_less a0.2 a1.2) fun r4 =>
   Option.bind (whole_made a0.1 r4.1) fun r5 =>
   some (r5.1, ())
  else
   Option.bind (whole_less a1.2 a0.2) fun r6 =>
   Option.bind (whole_made a1.1 r6.1) fun r7 =>
   some (r7.1, ())

def whole_Int_Less (a0 : D_whole_Int) (a1 : D_whole_Int) : Option (D_whole_Int × Unit) :=
 Option.bind (whole_Int_Minus a1) fun r1 =>
 Option.bind (whole_Int_Plus a0 r1.1) fun r2 =>
 some (r2.1, ())

def whole_Int_Compare (a0 : D_whole_Int) (a1 : D_whole_Int) : Option (Int × Unit) :=
 Option.bind (whole_Int_Less a0 a1) fun r1 =>
 Option.bind (whole_Int_Sign r1.1) fun r2 =>
 some (r2.1, ())

def whole_Int_Odd (a0 : D_whole_Int) : Option (Bool × Unit) :=
 bif decide (((List.length a0.2 : Int)) > 0) then
  Option.bind (idx a0.2 0) fun y1 =>
  some ((wu32 (((BitVec.ofInt (IntKind.bits .u32) y1 &&& BitVec.ofInt (IntKind.bits .u32) 1).toNat : Int))) == 1, ())
 else
  some (false, ())

def amount_Divided (a0 : D_whole_Int) (a1 : D_whole_Int) (a2 : Int) : Option (D_whole_Int × Unit) :=
 Option.bind (whole_Int_By a0 a1) fun r1 =>
 Option.bind (whole_Int_Sign r1.2.1) fun r2 =>
 bif r2.1 != 0 then
  Option.bind (whole_Int_Plus r1.2.1 r1.2.1) fun r3 =>
  Option.bind (whole_Int_Compare r3.1 a1) fun r4 =>
  Option.bind (whole_Int_Sign a0) fun r5 =>
  bif a2 == 4 then
   Option.bind (whole_Of 1) fun r6 =>
   Option.bind (whole_Int_Plus r1.1 r6.1) fun r7 =>
   Option.bind (whole_Int_Sign a0) fun r8 =>
   bif decide (r8.1 < 0) then
    Option.bind (whole_Int_Minus r7.1) fun r9 =>
    some (r9.1, ())
   else
    some (r7.1, ())
  else
   bif a2 == 5 then
    bif decide (r5.1 < 0) then
     Option.bind (whole_Of 1) fun r10 =>
     Option.bind (whole_Int_Plus r1.1 r10.1) fun r11 =>
     Option.bind (whole_Int_Sign a0) fun r12 =>
     bif decide (r12.1 < 0) then
      Option.bind (whole_Int_Minus r11.1) fun r13 =>
      some (r13.1, ())
     else
      some (r11.1, ())
    else
     bif a2 == 6 then
      bif !(decide (r5.1 < 0)) then
       Option.bind (whole_Of 1) fun r14 =>
       Option.bind (whole_Int_Plus r1.1 r14.1) fun r15 =>
       Option.bind (whole_Int_Sign a0) fun r16 =>
       bif decide (r16.1 < 0) then
        Option.bind (whole_Int_Minus r15.1) fun r17 =>
        some (r17.1, ())
       else
        some (r15.1, ())
      else
       bif a2 == 1 then
        bif decide (r4.1 ≥ 0) then
         Option.bind (whole_Of 1) fun r18 =>
         Option.bind (whole_Int_Plus r1.1 r18.1) fun r19 =>
         Option.bind (whole_Int_Sign a0) fun r20 =>
         bif decide (r20.1 < 0) then
          Option.bind (whole_Int_Minus r19.1) fun r21 =>
          some (r21.1, ())
         else
          some (r19.1, ())
        else
         bif a2 == 2 then
          bif decide (r4.1 > 0) then
           Option.bind (whole_Of 1) fun r22 =>
           Option.bind (whole_Int_Plus r1.1 r22.1) fun r23 =>
           Option.bind (whole_Int_Sign a0) fun r24 =>
           bif decide (r24.1 < 0) then
            Option.bind (whole_Int_Minus r23.1) fun r25 =>
            some (r25.1, ())
           else
            some (r23.1, ())
          else
           bif r4.1 == 0 then
            Option.bind (whole_Int_Odd r1.1) fun r26 =>
            bif r26.1 then
             Option.bind (whole_Of 1) fun r27 =>
             Option.bind (whole_Int_Plus r1.1 r27.1) fun r28 =>
             Option.bind (whole_Int_Sign a0) fun r29 =>
             bif decide (r29.1 < 0) then
              Option.bind (whole_Int_Minus r28.1) fun r30 =>
              some (r30.1, ())
             else
              some (r28.1, ())
            else
             Option.bind (whole_Int_Sign a0) fun r31 =>
             bif decide (r31.1 < 0) then
              Option.bind (whole_Int_Minus r1.1) fun r32 =>
              some (r32.1, ())
             else
              some (r1.1, ())
           else
            Option.bind (whole_Int_Sign a0) fun r33 =>
            bif decide (r33.1 < 0) then
             Option.bind (whole_Int_Minus r1.1) fun r34 =>
             some (r34.1, ())
            else
             some (r1.1, ())
         else
          Option.bind (whole_Int_Sign a0) fun r35 =>
          bif decide (r35.1 < 0) then
           Option.bind (whole_Int_Minus r1.1) fun r36 =>
           some (r36.1, ())
          else
           some (r1.1, ())
       else
        bif a2 == 2 then
         bif decide (r4.1 > 0) then
          Option.bind (whole_Of 1) fun r37 =>
          Option.bind (whole_Int_Plus r1.1 r37.1) fun r38 =>
          Option.bind (whole_Int_Sign a0) fun r39 =>
          bif decide (r39.1 < 0) then
           Option.bind (whole_Int_Minus r38.1) fun r40 =>
           some (r40.1, ())
          else
           some (r38.1, ())
         else
          bif r4.1 == 0 then
           Option.bind (whole_Int_Odd r1.1) fun r41 =>
           bif r41.1 then
            Option.bind (whole_Of 1) fun r42 =>
            Option.bind (whole_Int_Plus r1.1 r42.1) fun r43 =>
            Option.bind (whole_Int_Sign a0) fun r44 =>
            bif decide (r44.1 < 0) then
             Option.bind (whole_Int_Minus r43.1) fun r45 =>
             some (r45.1, ())
            else
             some (r43.1, ())
           else
            Option.bind (whole_Int_Sign a0) fun r46 =>
            bif decide (r46.1 < 0) then
             Option.bind (whole_Int_Minus r1.1) fun r47 =>
             some (r47.1, ())
            else
             some (r1.1, ())
          else
           Option.bind (whole_Int_Sign a0) fun r48 =>
           bif decide (r48.1 < 0) then
            Option.bind (whole_Int_Minus r1.1) fun r49 =>
            some (r49.1, ())
           else
            some (r1.1, ())
        else
         Option.bind (whole_Int_Sign a0) fun r50 =>
         bif decide (r50.1 < 0) then
          Option.bind (whole_Int_Minus r1.1) fun r51 =>
          some (r51.1, ())
         else
          some (r1.1, ())
     else
      bif a2 == 1 then
       bif decide (r4.1 ≥ 0) then
        Option.bind (whole_Of 1) fun r52 =>
        Option.bind (whole_Int_Plus r1.1 r52.1) fun r53 =>
        Option.bind (whole_Int_Sign a0) fun r54 =>
        bif decide (r54.1 < 0) then
         Option.bind (whole_Int_Minus r53.1) fun r55 =>
         some (r55.1, ())
        else
         some (r53.1, ())
       else
        bif a2 == 2 then
         bif decide (r4.1 > 0) then
          Option.bind (whole_Of 1) fun r56 =>
          Option.bind (whole_Int_Plus r1.1 r56.1) fun r57 =>
          Option.bind (whole_Int_Sign a0) fun r58 =>
          bif decide (r58.1 < 0) then
           Option.bind (whole_Int_Minus r57.1) fun r59 =>
           some (r59.1, ())
          else
           some (r57.1, ())
         else
          bif r4.1 == 0 then
           Option.bind (whole_Int_Odd r1.1) fun r60 =>
           bif r60.1 then
            Option.bind (whole_Of 1) fun r61 =>
            Option.bind (whole_Int_Plus r1.1 r61.1) fun r62 =>
            Option.bind (whole_Int_Sign a0) fun r63 =>
            bif decide (r63.1 < 0) then
             Option.bind (whole_Int_Minus r62.1) fun r64 =>
             some (r64.1, ())
            else
             some (r62.1, ())
           else
            Option.bind (whole_Int_Sign a0) fun r65 =>
            bif decide (r65.1 < 0) then
             Option.bind (whole_Int_Minus r1.1) fun r66 =>
             some (r66.1, ())
            else
             some (r1.1, ())
          else
           Option.bind (whole_Int_Sign a0) fun r67 =>
           bif decide (r67.1 < 0) then
            Option.bind (whole_Int_Minus r1.1) fun r68 =>
            some (r68.1, ())
           else
            some (r1.1, ())
        else
         Option.bind (whole_Int_Sign a0) fun r69 =>
         bif decide (r69.1 < 0) then
          Option.bind (whole_Int_Minus r1.1) fun r70 =>
          some (r70.1, ())
         else
          some (r1.1, ())
      else
       bif a2 == 2 then
        bif decide (r4.1 > 0) then
         Option.bind (whole_Of 1) fun r71 =>
         Option.bind (whole_Int_Plus r1.1 r71.1) fun r72 =>
         Option.bind (whole_Int_Sign a0) fun r73 =>
         bif decide (r73.1 < 0) then
          Option.bind (whole_Int_Minus r72.1) fun r74 =>
          some (r74.1, ())
         else
          some (r72.1, ())
        else
         bif r4.1 == 0 then
          Option.bind (whole_Int_Odd r1.1) fun r75 =>
          bif r75.1 then
           Option.bind (whole_Of 1) fun r76 =>
           Option.bind (whole_Int_Plus r1.1 r76.1) fun r77 =>
           Option.bind (whole_Int_Sign a0) fun r78 =>
           bif decide (r78.1 < 0) then
            Option.bind (whole_Int_Minus r77.1) fun r79 =>
            some (r79.1, ())
           else
            some (r77.1, ())
          else
           Option.bind (whole_Int_Sign a0) fun r80 =>
           bif decide (r80.1 < 0) then
            Option.bind (whole_Int_Minus r1.1) fun r81 =>
            some (r81.1, ())
           else
            some (r1.1, ())
         else
          Option.bind (whole_Int_Sign a0) fun r82 =>
          bif decide (r82.1 < 0) then
           Option.bind (whole_Int_Minus r1.1) fun r83 =>
           some (r83.1, ())
          else
           some (r1.1, ())
       else
        Option.bind (whole_Int_Sign a0) fun r84 =>
        bif decide (r84.1 < 0) then
         Option.bind (whole_Int_Minus r1.1) fun r85 =>
         some (r85.1, ())
        else
         some (r1.1, ())
   else
    bif a2 == 6 then
     bif !(decide (r5.1 < 0)) then
      Option.bind (whole_Of 1) fun r86 =>
      Option.bind (whole_Int_Plus r1.1 r86.1) fun r87 =>
      Option.bind (whole_Int_Sign a0) fun r88 =>
      bif decide (r88.1 < 0) then
       Option.bind (whole_Int_Minus r87.1) fun r89 =>
       some (r89.1, ())
      else
       some (r87.1, ())
     else
      bif a2 == 1 then
       bif decide (r4.1 ≥ 0) then
        Option.bind (whole_Of 1) fun r90 =>
        Option.bind (whole_Int_Plus r1.1 r90.1) fun r91 =>
        Option.bind (whole_Int_Sign a0) fun r92 =>
        bif decide (r92.1 < 0) then
         Option.bind (whole_Int_Minus r91.1) fun r93 =>
         some (r93.1, ())
        else
         some (r91.1, ())
       else
        bif a2 == 2 then
         bif decide (r4.1 > 0) then
          Option.bind (whole_Of 1) fun r94 =>
          Option.bind (whole_Int_Plus r1.1 r94.1) fun r95 =>
          Option.bind (whole_Int_Sign a0) fun r96 =>
          bif decide (r96.1 < 0) then
           Option.bind (whole_Int_Minus r95.1) fun r97 =>
           some (r97.1, ())
          else
           some (r95.1, ())
         else
          bif r4.1 == 0 then
           Option.bind (whole_Int_Odd r1.1) fun r98 =>
           bif r98.1 then
            Option.bind (whole_Of 1) fun r99 =>
            Option.bind (whole_Int_Plus r1.1 r99.1) fun r100 =>
            Option.bind (whole_Int_Sign a0) fun r101 =>
            bif decide (r101.1 < 0) then
             Option.bind (whole_Int_Minus r100.1) fun r102 =>
             some (r102.1, ())
            else
             some (r100.1, ())
           else
            Option.bind (whole_Int_Sign a0) fun r103 =>
            bif decide (r103.1 < 0) then
             Option.bind (whole_Int_Minus r1.1) fun r104 =>
             some (r104.1, ())
            else
             some (r1.1, ())
          else
           Option.bind (whole_Int_Sign a0) fun r105 =>
           bif decide (r105.1 < 0) then
            Option.bind (whole_Int_Minus r1.1) fun r106 =>
            some (r106.1, ())
           else
            some (r1.1, ())
        else
         Option.bind (whole_Int_Sign a0) fun r107 =>
         bif decide (r107.1 < 0) then
          Option.bind (whole_Int_Minus r1.1) fun r108 =>
          some (r108.1, ())
         else
          some (r1.1, ())
      else
       bif a2 == 2 then
        bif decide (r4.1 > 0) then
         Option.bind (whole_Of 1) fun r109 =>
         Option.bind (whole_Int_Plus r1.1 r109.1) fun r110 =>
         Option.bind (whole_Int_Sign a0) fun r111 =>
         bif decide (r111.1 < 0) then
          Option.bind (whole_Int_Minus r110.1) fun r112 =>
          some (r112.1, ())
         else
          some (r110.1, ())
        else
         bif r4.1 == 0 then
          Option.bind (whole_Int_Odd r1.1) fun r113 =>
          bif r113.1 then
           Option.bind (whole_Of 1) fun r114 =>
           Option.bind (whole_Int_Plus r1.1 r114.1) fun r115 =>
           Option.bind (whole_Int_Sign a0) fun r116 =>
           bif decide (r116.1 < 0) then
            Option.bind (whole_Int_Minus r115.1) fun r117 =>
            some (r117.1, ())
           else
            some (r115.1, ())
          else
           Option.bind (whole_Int_Sign a0) fun r118 =>
           bif decide (r118.1 < 0) then
            Option.bind (whole_Int_Minus r1.1) fun r119 =>
            some (r119.1, ())
           else
            some (r1.1, ())
         else
          Option.bind (whole_Int_Sign a0) fun r120 =>
          bif decide (r120.1 < 0) then
           Option.bind (whole_Int_Minus r1.1) fun r121 =>
           some (r121.1, ())
          else
           some (r1.1, ())
       else
        Option.bind (whole_Int_Sign a0) fun r122 =>
        bif decide (r122.1 < 0) then
         Option.bind (whole_Int_Minus r1.1) fun r123 =>
         some (r123.1, ())
        else
         some (r1.1, ())
    else
     bif a2 == 1 then
      bif decide (r4.1 ≥ 0) then
       Option.bind (whole_Of 1) fun r124 =>
       Option.bind (whole_Int_Plus r1.1 r124.1) fun r125 =>
       Option.bind (whole_Int_Sign a0) fun r126 =>
       bif decide (r126.1 < 0) then
        Option.bind (whole_Int_Minus r125.1) fun r127 =>
        some (r127.1, ())
       else
        some (r125.1, ())
      else
       bif a2 == 2 then
        bif decide (r4.1 > 0) then
         Option.bind (whole_Of 1) fun r128 =>
         Option.bind (whole_Int_Plus r1.1 r128.1) fun r129 =>
         Option.bind (whole_Int_Sign a0) fun r130 =>
         bif decide (r130.1 < 0) then
          Option.bind (whole_Int_Minus r129.1) fun r131 =>
          some (r131.1, ())
         else
          some (r129.1, ())
        else
         bif r4.1 == 0 then
          Option.bind (whole_Int_Odd r1.1) fun r132 =>
          bif r132.1 then
           Option.bind (whole_Of 1) fun r133 =>
           Option.bind (whole_Int_Plus r1.1 r133.1) fun r134 =>
           Option.bind (whole_Int_Sign a0) fun r135 =>
           bif decide (r135.1 < 0) then
            Option.bind (whole_Int_Minus r134.1) fun r136 =>
            some (r136.1, ())
           else
            some (r134.1, ())
          else
           Option.bind (whole_Int_Sign a0) fun r137 =>
           bif decide (r137.1 < 0) then
            Option.bind (whole_Int_Minus r1.1) fun r138 =>
            some (r138.1, ())
           else
            some (r1.1, ())
         else
          Option.bind (whole_Int_Sign a0) fun r139 =>
          bif decide (r139.1 < 0) then
           Option.bind (whole_Int_Minus r1.1) fun r140 =>
           some (r140.1, ())
          else
           some (r1.1, ())
       else
        Option.bind (whole_Int_Sign a0) fun r141 =>
        bif decide (r141.1 < 0) then
         Option.bind (whole_Int_Minus r1.1) fun r142 =>
         some (r142.1, ())
        else
         some (r1.1, ())
     else
      bif a2 == 2 then
       bif decide (r4.1 > 0) then
        Option.bind (whole_Of 1) fun r143 =>
        Option.bind (whole_Int_Plus r1.1 r143.1) fun r144 =>
        Option.bind (whole_Int_Sign a0) fun r145 =>
        bif decide (r145.1 < 0) then
         Option.bind (whole_Int_Minus r144.1) fun r146 =>
         some (r146.1, ())
        else
         some (r144.1, ())
       else
        bif r4.1 == 0 then
         Option.bind (whole_Int_Odd r1.1) fun r147 =>
         bif r147.1 then
          Option.bind (whole_Of 1) fun r148 =>
          Option.bind (whole_Int_Plus r1.1 r148.1) fun r149 =>
          Option.bind (whole_Int_Sign a0) fun r150 =>
          bif decide (r150.1 < 0) then
           Option.bind (whole_Int_Minus r149.1) fun r151 =>
           some (r151.1, ())
          else
           some (r149.1, ())
         else
          Option.bind (whole_Int_Sign a0) fun r152 =>
          bif decide (r152.1 < 0) then
           Option.bind (whole_Int_Minus r1.1) fun r153 =>
           some (r153.1, ())
          else
           some (r1.1, ())
        else
         Option.bind (whole_Int_Sign a0) fun r154 =>
         bif decide (r154.1 < 0) then
          Option.bind (whole_Int_Minus r1.1) fun r155 =>
          some (r155.1, ())
         else
          some (r1.1, ())
      else
       Option.bind (whole_Int_Sign a0) fun r156 =>
       bif decide (r156.1 < 0) then
        Option.bind (whole_Int_Minus r1.1) fun r157 =>
        some (r157.1, ())
       else
        some (r1.1, ())
 else
  Option.bind (whole_Int_Sign a0) fun r158 =>
  bif decide (r158.1 < 0) then
   Option.bind (whole_Int_Minus r1.1) fun r159 =>
   some (r159.1, ())
  else
   some (r1.1, ())

def bill_fits (a0 : D_whole_Int) : Option (Bool × Unit) :=
 Option.bind (whole_Int_Int a0 1000000000000000) fun r1 =>
 some (r1.2.1, ())

def bill_gross (a0 : D_api_Invoice) (a1 : D_api_BillLine) : Option (D_whole_Int × Bool × Unit) :=
 Option.bind (whole_Of a1.2.2.2.1.1) fun r1 =>
 Option.bind (whole_Of a1.2.2.2.2.2.1.1) fun r2 =>
 Option.bind (whole_Int_Times r1.1 r2.1) fun r3 =>
 Option.bind (whole_Power a0.2.2.2.1) fun r4 =>
 Option.bind (whole_Int_Times r3.1 r4.1) fun r5 =>
 Option.bind (whole_Power (w64 (a1.2.2.2.1.2 + a1.2.2.2.2.2.1.2))) fun r6 =>
 Option.bind (whole_Of a1.2.2.2.2.2.2.1) fun r7 =>
 Option.bind (whole_Int_Times r6.1 r7.1) fun r8 =>
 Option.bind (amount_Divided r5.1 r8.1 a0.2.2.2.2.1) fun r9 =>
 Option.bind (bill_fits r9.1) fun r10 =>
 some (r9.1, r10.1, ())

def amount_Scaled (a0 : D_api_Decimal) (a1 : Int) : Option (D_whole_Int × Unit) :=
 Option.bind (whole_Of a0.1) fun r1 =>
 Option.bind (whole_Power (w64 (a1 - a0.2))) fun r2 =>
 Option.bind (whole_Int_Times r1.1 r2.1) fun r3 =>
 some (r3.1, ())

def bill_part (a0 : D_api_Invoice) (a1 : D_whole_Int) (a2 : D_api_Decimal) : Option (D_whole_Int × Unit) :=
 Option.bind (whole_Of a2.1) fun r1 =>
 Option.bind (whole_Int_Times a1 r1.1) fun r2 =>
 Option.bind (whole_Of 100) fun r3 =>
 Option.bind (whole_Power a2.2) fun r4 =>
 Option.bind (whole_Int_Times r3.1 r4.1) fun r5 =>
 Option.bind (amount_Divided r2.1 r5.1 a0.2.2.2.2.1) fun r6 =>
 some (r6.1, ())

abbrev bill_net_x4 : Type := Bool × (List D_api_Extra) × Int × Int × (List UInt8) × (List UInt8) × Int × Int × Int × Bool × (List D_api_Rate) × (List D_api_BillLine) × (List D_api_Extra) × Bool × (List Int) × Bool × (List Int) × Bool × (List Int) × Unit
abbrev bill_net_r4 : Type := ((D_whole_Int × Bool × Unit) ⊕ (Bool × Bool × (List Int) × Bool × (List Int) × Unit))
def bill_net_b4  (x1 : bill_net_x4) (again : bill_net_x4 → Option bill_net_r4) : Option bill_net_r4 :=
 bif decide (x1.2.2.2.1 < x1.2.2.1) then
  Option.bind (idx x1.2.1 x1.2.2.2.1) fun y2 =>
  Option.bind (amount_Scaled y2.2.1 (if y2.2.1.2 > x1.2.2.2.2.2.2.2.1 then y2.2.1.2 else x1.2.2.2.2.2.2.2.1)) fun r3 =>
  joinB (β := ((D_whole_Int × Bool × Unit) ⊕ (Bool × Bool × (List Int) × Bool × (List Int) × Unit))) (γ := (Bool × (List D_api_Extra) × Int × Int × (List UInt8) × (List UInt8) × Int × Int × Int × Bool × (List D_api_Rate) × (List D_api_BillLine) × (List D_api_Extra) × Bool × (List Int) × Bool × (List Int) × Bool × (List Int) × Bool × (List Int) × Unit)) (
   bif y2.1 then
    Option.bind (bill_part (x1.2.2.2.2.1, x1.2.2.2.2.2.1, x1.2.2.2.2.2.2.1, x1.2.2.2.2.2.2.2.1, x1.2.2.2.2.2.2.2.2.1, x1.2.2.2.2.2.2.2.2.2.1, x1.2.2.2.2.2.2.2.2.2.2.1, x1.2.2.2.2.2.2.2.2.2.2.2.1, x1.2.2.2.2.2.2.2.2.2.2.2.2.1) (x1.2.2.2.2.2.2.2.2.2.2.2.2.2.2.2.1, x1.2.2.2.2.2.2.2.2.2.2.2.2.2.2.2.2.1) y2.2.1) fun r4 =>
    some (Sum.inr (x1.1, x1.2.1, x1.2.2.1, x1.2.2.2.1, x1.2.2.2.2.1, x1.2.2.2.2.2.1, x1.2.2.2.2.2.2.1, x1.2.2.2.2.2.2.2.1, x1.2.2.2.2.2.2.2.2.1, x1.2.2.2.2.2.2.2.2.2.1, x1.2.2.2.2.2.2.2.2.2.2.1, x1.2.2.2.2.2.2.2.2.2.2.2.1, x1.2.2.2.2.2.2.2.2.2.2.2.2.1, x1.2.2.2.2.2.2.2.2.2.2.2.2.2.1, x1.2.2.2.2.2.2.2.2.2.2.2.2.2.2.1, x1.2.2.2.2.2.2.2.2.2.2.2.2.2.2.2.1, x1.2.2.2.2.2.2.2.2.2.2.2.2.2.2.2.2.1, x1.2.2.2.2.2.2.2.2.2.2.2.2.2.2.2.2.2.1, x1.2.2.2.2.2.2.2.2.2.2.2.2.2.2.2.2.2.2.1, r4.1.1, r4.1.2, ()))
   else
    some (Sum.inr (x1.1, x1.2.1, x1.2.2.1, x1.2.2.2.1, x1.2.2.2.2.1, x1.2.2.2.2.2.1, x1.2.2.2.2.2.2.1, x1.2.2.2.2.2.2.2.1, x1.2.2.2.2.2.2.2.2.1, x1.2.2.2.2.2.2.2.2.2.1, x1.2.2.2.2.2.2.2.2.2.2.1, x1.2.2.2.2.2.2.2.2.2.2.2.1, x1.2.2.2.2.2.2.2.2.2.2.2.2.1, x1.2.2.2.2.2.2.2.2.2.2.2.2.2.1, x1.2.2.2.2.2.2.2.2.2.2.2.2.2.2.1, x1.2.2.2.2.2.2.2.2.2.2.2.2.2.2.2.1, x1.2.2.2.2.2.2.2.2.2.2.2.2.2.2.2.2.1, x1.2.2.2.2.2.2.2.2.2.2.2.2.2.2.2.2.2.1, x1.2.2.2.2.2.2.2.2.2.2.2.2.2.2.2.2.2.2.1, r3.1.1, r3.1.2, ()))) fun v5 =>
  Option.bind (whole_Int_Plus (v5.2.2.2.2.2.2.2.2.2.2.2.2.2.2.2.2.2.1, v5.2.2.2.2.2.2.2.2.2.2.2.2.2.2.2.2.2.2.1) (v5.2.2.2.2.2.2.2.2.2.2.2.2.2.2.2.2.2.2.2.1, v5.2.2.2.2.2.2.2.2.2.2.2.2.2.2.2.2.2.2.2.2.1)) fun r6 =>
  bif v5.1 then
   Option.bind (bill_fits (v5.2.2.2.2.2.2.2.2.2.2.2.2.2.2.2.2.2.2.2.1, v5.2.2.2.2.2.2.2.2.2.2.2.2.2.2.2.2.2.2.2.2.1)) fun r7 =>
   bif r7.1 then
    Option.bind (bill_fits r6.1) fun r8 =>
    again (r8.1, v5.2.1, v5.2.2.1, w64 (v5.2.2.2.1 + 1), v5.2.2.2.2.1, v5.2.2.2.2.2.1, v5.2.2.2.2.2.2.1, v5.2.2.2.2.2.2.2.1, v5.2.2.2.2.2.2.2.2.1, v5.2.2.2.2.2.2.2.2.2.1, v5.2.2.2.2.2.2.2.2.2.2.1, v5.2.2.2.2.2.2.2.2.2.2.2.1, v5.2.2.2.2.2.2.2.2.2.2.2.2.1, v5.2.2.2.2.2.2.2.2.2.2.2.2.2.1, v5.2.2.2.2.2.2.2.2.2.2.2.2.2.2.1, v5.2.2.2.2.2.2.2.2.2.2.2.2.2.2.2.1, v5.2.2.2.2.2.2.2.2.2.2.2.2.2.2.2.2.1, r6.1.1, r6.1.2, ())
   else
    again (false, v5.2.1, v5.2.2.1, w64 (v5.2.2.2.1 + 1), v5.2.2.2.2.1, v5.2.2.2.2.2.1, v5.2.2.2.2.2.2.1, v5.2.2.2.2.2.2.2.1, v5.2.2.2.2.2.2.2.2.1, v5.2.2.2.2.2.2.2.2.2.1, v5.2.2.2.2.2.2.2.2.2.2.1, v5.2.2.2.2.2.2.2.2.2.2.2.1, v5.2.2.2.2.2.2.2.2.2.2.2.2.1, v5.2.2.2.2.2.2.2.2.2.2.2.2.2.1, v5.2.2.2.2.2.2.2.2.2.2.2.2.2.2.1, v5.2.2.2.2.2.2.2.2.2.2.2.2.2.2.2.1, v5.2.2.2.2.2.2.2.2.2.2.2.2.2.2.2.2.1, r6.1.1, r6.1.2, ())
  else
   again (false, v5.2.1, v5.2.2.1, w64 (v5.2.2.2.1 + 1), v5.2.2.2.2.1, v5.2.2.2.2.2.1, v5.2.2.2.2.2.2.1, v5.2.2.2.2.2.2.2.1, v5.2.2.2.2.2.2.2.2.1, v5.2.2.2.2.2.2.2.2.2.1, v5.2.2.2.2.2.2.2.2.2.2.1, v5.2.2.2.2.2.2.2.2.2.2.2.1, v5.2.2.2.2.2.2.2.2.2.2.2.2.1, v5.2.2.2.2.2.2.2.2.2.2.2.2.2.1, v5.2.2.2.2.2.2.2.2.2.2.2.2.2.2.1, v5.2.2.2.2.2.2.2.2.2.2.2.2.2.2.2.1, v5.2.2.2.2.2.2.2.2.2.2.2.2.2.2.2.2.1, r6.1.1, r6.1.2, ())
 else
  some (Sum.inr (x1.1, x1.2.2.2.2.2.2.2.2.2.2.2.2.2.1, x1.2.2.2.2.2.2.2.2.2.2.2.2.2.2.1, x1.2.2.2.2.2.2.2.2.2.2.2.2.2.2.2.2.2.1, x1.2.2.2.2.2.2.2.2.2.2.2.2.2.2.2.2.2.2.1, ()))

def bill_net (a0 : D_api_Invoice) (a1 : D_api_BillLine) : Option (D_whole_Int × Bool × Unit) :=
 Option.bind (bill_gross a0 a1) fun r1 =>
 joinB (β := (D_whole_Int × Bool × Unit)) (γ := (Bool × Bool × (List Int) × Bool × (List Int) × Unit)) (
  iter (X := bill_net_x4) (β := bill_net_r4) (List.length a1.2.2.2.2.2.2.2.1 + (Int.natAbs ((List.length a1.2.2.2.2.2.2.2.1 : Int)) + (Int.natAbs (0 : Int) + (List.length a0.1 + (List.length a0.2.1 + (Int.natAbs a0.2.2.1 + (Int.natAbs a0.2.2.2.1 + (Int.natAbs a0.2.2.2.2.1 + (List.length a0.2.2.2.2.2.2.1 + (List.length a0.2.2.2.2.2.2.2.1 + (List.length a0.2.2.2.2.2.2.2.2 + (List.length ([] : List Int) + (List.length r1.1.2 + (List.length r1.1.2 + 2)))))))))))))) (r1.2.1, a1.2.2.2.2.2.2.2.1, (List.length a1.2.2.2.2.2.2.2.1 : Int), 0, a0.1, a0.2.1, a0.2.2.1, a0.2.2.2.1, a0.2.2.2.2.1, a0.2.2.2.2.2.1, a0.2.2.2.2.2.2.1, a0.2.2.2.2.2.2.2.1, a0.2.2.2.2.2.2.2.2, false, [], r1.1.1, r1.1.2, r1.1.1, r1.1.2, ()) (bill_net_b4)) fun v10 =>
 some ((v10.2.2.2.1, v10.2.2.2.2.1), v10.1, ())

def bill_ofLine_net (a0 : D_api_Invoice) (a1 : Int) (_a2 : Unit) : Option (D_api_Decimal × Int × Unit) :=
 Option.bind (bill_CheckInvoice a0) fun r1 =>
 bif r1.1 != 0 then
  some ((0, 0), r1.1, ())
 else
  Option.bind (kit_Outside a1 0 (w64 (((List.length a0.2.2.2.2.2.2.2.1 : Int)) - 1))) fun r2 =>
  bif r2.1 then
   some ((0, 0), 1, ())
  else
   Option.bind (idx a0.2.2.2.2.2.2.2.1 a1) fun y3 =>
   Option.bind (bill_net a0 y3) fun r4 =>
   bif !r4.2.1 then
    some ((0, 0), 1, ())
   else
    Option.bind (amount_Made r4.1 a0.2.2.2.1) fun r5 =>
    some (r5.1, r5.2.1, ())

def bill_Net (a0 : D_api_Invoice) (a1 : Int) : Option (D_api_Decimal × Int × Unit) :=
 Option.bind (bill_ofLine_net a0 a1 ()) fun r1 =>
 some (r1.1, r1.2.1, ())

end Go.Md

namespace Go.Md
open Go.Dn

def bill_sheet_byLines_1 (a0 : D_whole_Int) : Option (Bool × Unit) :=
 Option.bind (bill_fits a0) fun r1 =>
 some (!r1.1, ())

def bill_sheet_extra_1 (a0 : D_whole_Int) : Option (Bool × Unit) :=
 Option.bind (bill_fits a0) fun r1 =>
 some (!r1.1, ())

def bill_sheet_tax_1 (a0 : D_whole_Int) : Option (Bool × Unit) :=
 Option.bind (bill_fits a0) fun r1 =>
 some (!r1.1, ())

def bill_sheet_totals_1 (a0 : D_whole_Int) : Option (Bool × Unit) :=
 Option.bind (bill_fits a0) fun r1 =>
 some (!r1.1, ())

abbrev slices_IndexFunc_whole_Int_x2 : Type := (List D_whole_Int) × Unit × Int × Int × Unit
abbrev slices_IndexFunc_whole_Int_r2 : Type := ((Int × Unit) ⊕ Unit)
def slices_IndexFunc_whole_Int_b2  (x1 : slices_IndexFunc_whole_Int_x2) (again : slices_IndexFunc_whole_Int_x2 → Option slices_IndexFunc_whole_Int_r2) : Option slices_IndexFunc_whole_Int_r2 :=
 bif decide (x1.2.2.2.1 < x1.2.2.1) then
  Option.bind (idx x1.1 x1.2.2.2.1) fun y2 =>
  Option.bind (bill_sheet_byLines_1 y2) fun r3 =>
  bif r3.1 then
   some (Sum.inl (x1.2.2.2.1, ()))
  else
   again (x1.1, x1.2.1, x1.2.2.1, w64 (x1.2.2.2.1 + 1), ())
 else
  some (Sum.inr ())

def slices_IndexFunc_whole_Int (a0 : List D_whole_Int) (a1 : Unit) : Option (Int × Unit) :=
 joinB (β := (Int × Unit)) (γ := Unit) (
  iter (X := slices_IndexFunc_whole_Int_x2) (β := slices_IndexFunc_whole_Int_r2) (List.length a0 + (Int.natAbs ((List.length a0 : Int)) + (Int.natAbs (0 : Int) + 2))) (a0, a1, (List.length a0 : Int), 0, ()) (slices_IndexFunc_whole_Int_b2)) fun _ =>
 some ((-1), ())

abbrev slices_IndexFunc_whole_Int_b_x2 : Type := (List D_whole_Int) × Unit × Int × Int × Unit
abbrev slices_IndexFunc_whole_Int_b_r2 : Type := ((Int × Unit) ⊕ Unit)
def slices_IndexFunc_whole_Int_b_b2  (x1 : slices_IndexFunc_whole_Int_b_x2) (again : slices_IndexFunc_whole_Int_b_x2 → Option slices_IndexFunc_whole_Int_b_r2) : Option slices_IndexFunc_whole_Int_b_r2 :=
 bif decide (x1.2.2.2.1 < x1.2.2.1) then
  Option.bind (idx x1.1 x1.2.2.2.1) fun y2 =>
  Option.bind (bill_sheet_extra_1 y2) fun r3 =>
  bif r3.1 then
   some (Sum.inl (x1.2.2.2.1, ()))
  else
   again (x1.1, x1.2.1, x1.2.2.1, w64 (x1.2.2.2.1 + 1), ())
 else
  some (Sum.inr ())

def slices_IndexFunc_whole_Int_b (a0 : List D_whole_Int) (a1 : Unit) : Option (Int × Unit) :=
 joinB (β := (Int × Unit)) (γ := Unit) (
  iter (X := slices_IndexFunc_whole_Int_b_x2) (β := slices_IndexFunc_whole_Int_b_r2) (List.length a0 + (Int.natAbs ((List.length a0 : Int)) + (Int.natAbs (0 : Int) + 2))) (a0, a1, (List.length a0 : Int), 0, ()) (slices_IndexFunc_whole_Int_b_b2)) fun _ =>
 some ((-1), ())

abbrev slices_IndexFunc_whole_Int_c_x2 : Type := (List D_whole_Int) × Unit × Int × Int × Unit
abbrev slices_IndexFunc_whole_Int_c_r2 : Type := ((Int × Unit) ⊕ Unit)
def slices_IndexFunc_whole_Int_c_b2  (x1 : slices_IndexFunc_whole_Int_c_x2) (again : slices_IndexFunc_whole_Int_c_x2 → Option slices_IndexFunc_whole_Int_c_r2) : Option slices_IndexFunc_whole_Int_c_r2 :=
 bif decide (x1.2.2.2.1 < x1.2.2.1) then
  Option.bind (idx x1.1 x1.2.2.2.1) fun y2 =>
  Option.bind (bill_sheet_tax_1 y2) fun r3 =>
  bif r3.1 then
   some (Sum.inl (x1.2.2.2.1, ()))
  else
   again (x1.1, x1.2.1, x1.2.2.1, w64 (x1.2.2.2.1 + 1), ())
 else
  some (Sum.inr ())

def slices_IndexFunc_whole_Int_c (a0 : List D_whole_Int) (a1 : Unit) : Option (Int × Unit) :=
 joinB (β := (Int × Unit)) (γ := Unit) (
  iter (X := slices_IndexFunc_whole_Int_c_x2) (β := slices_IndexFunc_whole_Int_c_r2) (List.length a0 + (Int.natAbs ((List.length a0 : Int)) + (Int.natAbs (0 : Int) + 2))) (a0, a1, (List.length a0 : Int), 0, ()) (slices_IndexFunc_whole_Int_c_b2)) fun _ =>
 some ((-1), ())

abbrev slices_IndexFunc_whole_Int_d_x2 : Type := (List D_whole_Int) × Unit × Int × Int × Unit
abbrev slices_IndexFunc_whole_Int_d_r2 : Type := ((Int × Unit) ⊕ Unit)
def slices_IndexFunc_whole_Int_d_b2  (x1 : slices_IndexFunc_whole_Int_d_x2) (again : slices_IndexFunc_whole_Int_d_x2 → Option slices_IndexFunc_whole_Int_d_r2) : Option slices_IndexFunc_whole_Int_d_r2 :=
 bif decide (x1.2.2.2.1 < x1.2.2.1) then
  Option.bind (idx x1.1 x1.2.2.2.1) fun y2 =>
  Option.bind (bill_sheet_totals_1 y2) fun r3 =>
  bif r3.1 then
   some (Sum.inl (x1.2.2.2.1, ()))
  else
   again (x1.1, x1.2.1, x1.2.2.1, w64 (x1.2.2.2.1 + 1), ())
 else
  some (Sum.inr ())

def slices_IndexFunc_whole_Int_d (a0 : List D_whole_Int) (a1 : Unit) : Option (Int × Unit) :=
 joinB (β := (Int × Unit)) (γ := Unit) (
  iter (X := slices_IndexFunc_whole_Int_d_x2) (β := slices_IndexFunc_whole_Int_d_r2) (List.length a0 + (Int.natAbs ((List.length a0 : Int)) + (Int.natAbs (0 : Int) + 2))) (a0, a1, (List.length a0 : Int), 0, ()) (slices_IndexFunc_whole_Int_d_b2)) fun _ =>
 some ((-1), ())

def slices_ContainsFunc_whole_Int (a0 : List D_whole_Int) (a1 : Unit) : Option (Bool × Unit) :=
 Option.bind (slices_IndexFunc_whole_Int a0 a1) fun r1 =>
 some (decide (r1.1 ≥ 0), ())

def slices_ContainsFunc_whole_Int_b (a0 : List D_whole_Int) (a1 : Unit) : Option (Bool × Unit) :=
 Option.bind (slices_IndexFunc_whole_Int_b a0 a1) fun r1 =>
 some (decide (r1.1 ≥ 0), ())

def slices_ContainsFunc_whole_Int_c (a0 : List D_whole_Int) (a1 : Unit) : Option (Bool × Unit) :=
 Option.bind (slices_IndexFunc_whole_Int_c a0 a1) fun r1 =>
 some (decide (r1.1 ≥ 0), ())

def slices_ContainsFunc_whole_Int_d (a0 : List D_whole_Int) (a1 : Unit) : Option (Bool × Unit) :=
 Option.bind (slices_IndexFunc_whole_Int_d a0 a1) fun r1 =>
 some (decide (r1.1 ≥ 0), ())

noncomputable def slices_Clone_whole_Int (a0 : List D_whole_Int) : Option ((List D_whole_Int) × Unit) :=
 bif List.isEmpty a0 then
  both (
   some ([], ())) (
   chk (decide ((0 + (List.length a0)) * 32 ≤ 140737488355328) && decide (0 + (List.length a0) ≤ maxLen)) <|
   some (a0, ()))
 else
  chk (decide ((0 + (List.length a0)) * 32 ≤ 140737488355328) && decide (0 + (List.length a0) ≤ maxLen)) <|
  some (a0, ())

abbrev bill_sheet_byLines_x4 : Type := (List D_api_BillLine) × Int × Int × (List UInt8) × (List UInt8) × Int × Int × Int × Bool × (List D_api_Rate) × (List D_api_BillLine) × (List D_api_Extra) × (List D_whole_Int) × (List D_bill_share) × (List D_whole_Int) × (List Bool) × (List D_whole_Int) × (List D_whole_Int) × (List D_whole_Int) × Unit
abbrev bill_sheet_byLines_r4 : Type := ((Int × (D_api_Invoice × (List D_whole_Int) × (List D_whole_Int) × (List D_whole_Int) × (List D_bill_share) × (List D_whole_Int) × (List Bool) × (List D_whole_Int) × Unit) × Unit) ⊕ ((List UInt8) × (List UInt8) × Int × Int × Int × Bool × (List D_api_Rate) × (List D_api_BillLine) × (List D_api_Extra) × (List D_whole_Int) × (List D_bill_share) × (List D_whole_Int) × (List Bool) × (List D_whole_Int) × (List D_whole_Int) × (List D_whole_Int) × Unit))
noncomputable def bill_sheet_byLines_b4  (x1 : bill_sheet_byLines_x4) (again : bill_sheet_byLines_x4 → Option bill_sheet_byLines_r4) : Option bill_sheet_byLines_r4 :=
 bif decide (x1.2.2.1 < x1.2.1) then
  Option.bind (idx x1.1 x1.2.2.1) fun y2 =>
  Option.bind (bill_net (x1.2.2.2.1, x1.2.2.2.2.1, x1.2.2.2.2.2.1, x1.2.2.2.2.2.2.1, x1.2.2.2.2.2.2.2.1, x1.2.2.2.2.2.2.2.2.1, x1.2.2.2.2.2.2.2.2.2.1, x1.2.2.2.2.2.2.2.2.2.2.1, x1.2.2.2.2.2.2.2.2.2.2.2.1) y2) fun r3 =>
  bif !r3.2.1 then
   some (Sum.inl (1, ((x1.2.2.2.1, x1.2.2.2.2.1, x1.2.2.2.2.2.1, x1.2.2.2.2.2.2.1, x1.2.2.2.2.2.2.2.1, x1.2.2.2.2.2.2.2.2.1, x1.2.2.2.2.2.2.2.2.2.1, x1.2.2.2.2.2.2.2.2.2.2.1, x1.2.2.2.2.2.2.2.2.2.2.2.1), x1.2.2.2.2.2.2.2.2.2.2.2.2.1, x1.2.2.2.2.2.2.2.2.2.2.2.2.2.2.1, x1.2.2.2.2.2.2.2.2.2.2.2.2.2.2.2.2.1, x1.2.2.2.2.2.2.2.2.2.2.2.2.2.1, x1.2.2.2.2.2.2.2.2.2.2.2.2.2.2.2.2.2.1, x1.2.2.2.2.2.2.2.2.2.2.2.2.2.2.2.1, x1.2.2.2.2.2.2.2.2.2.2.2.2.2.2.2.2.2.2.1, ()), ()))
  else
   Option.bind (bill_rateAt x1.2.2.2.2.2.2.2.2.2.1 y2.2.2.2.2.2.2.2.2) fun r4 =>
   chk (decide (((List.length x1.2.2.2.2.2.2.2.2.2.2.2.2.1) + 1) * 32 ≤ 140737488355328) && decide ((List.length x1.2.2.2.2.2.2.2.2.2.2.2.2.1) + 1 ≤ maxLen)) <|
   chk (decide (0 ≤ r4.1) && decide (r4.1 < (List.length x1.2.2.2.2.2.2.2.2.2.2.2.2.2.2.1 : Int))) <|
   Option.bind (x1.2.2.2.2.2.2.2.2.2.2.2.2.2.2.1[r4.1.toNat]?) fun y5 =>
   Option.bind (whole_Int_Plus y5 r3.1) fun r6 =>
   chk (decide (0 ≤ r4.1) && decide (r4.1 < (List.length x1.2.2.2.2.2.2.2.2.2.2.2.2.2.2.1 : Int))) <|
   Option.bind (x1.2.2.2.2.2.2.2.2.2.2.2.2.2.2.1[r4.1.toNat]?) fun _ =>
   chk (decide (((List.length x1.2.2.2.2.2.2.2.2.2.2.2.2.2.1) + 1) * 40 ≤ 140737488355328) && decide ((List.length x1.2.2.2.2.2.2.2.2.2.2.2.2.2.1) + 1 ≤ maxLen)) <|
   chk (decide (0 ≤ r4.1) && decide (r4.1 < (List.length x1.2.2.2.2.2.2.2.2.2.2.2.2.2.2.2.1 : Int))) <|
   Option.bind (x1.2.2.2.2.2.2.2.2.2.2.2.2.2.2.2.1[r4.1.toNat]?) fun _ =>
   again (x1.1, x1.2.1, w64 (x1.2.2.1 + 1), x1.2.2.2.1, x1.2.2.2.2.1, x1.2.2.2.2.2.1, x1.2.2.2.2.2.2.1, x1.2.2.2.2.2.2.2.1, x1.2.2.2.2.2.2.2.2.1, x1.2.2.2.2.2.2.2.2.2.1, x1.2.2.2.2.2.2.2.2.2.2.1, x1.2.2.2.2.2.2.2.2.2.2.2.1, x1.2.2.2.2.2.2.2.2.2.2.2.2.1 ++ [r3.1], x1.2.2.2.2.2.2.2.2.2.2.2.2.2.1 ++ [(r4.1, r3.1)], List.set x1.2.2.2.2.2.2.2.2.2.2.2.2.2.2.1 r4.1.toNat r6.1, List.set x1.2.2.2.2.2.2.2.2.2.2.2.2.2.2.2.1 r4.1.toNat true, x1.2.2.2.2.2.2.2.2.2.2.2.2.2.2.2.2.1, x1.2.2.2.2.2.2.2.2.2.2.2.2.2.2.2.2.2.1, x1.2.2.2.2.2.2.2.2.2.2.2.2.2.2.2.2.2.2.1, ())
 else
  some (Sum.inr (x1.2.2.2.1, x1.2.2.2.2.1, x1.2.2.2.2.2.1, x1.2.2.2.2.2.2.1, x1.2.2.2.2.2.2.2.1, x1.2.2.2.2.2.2.2.2.1, x1.2.2.2.2.2.2.2.2.2.1, x1.2.2.2.2.2.2.2.2.2.2.1, x1.2.2.2.2.2.2.2.2.2.2.2.1, x1.2.2.2.2.2.2.2.2.2.2.2.2.1, x1.2.2.2.2.2.2.2.2.2.2.2.2.2.1, x1.2.2.2.2.2.2.2.2.2.2.2.2.2.2.1, x1.2.2.2.2.2.2.2.2.2.2.2.2.2.2.2.1, x1.2.2.2.2.2.2.2.2.2.2.2.2.2.2.2.2.1, x1.2.2.2.2.2.2.2.2.2.2.2.2.2.2.2.2.2.1, x1.2.2.2.2.2.2.2.2.2.2.2.2.2.2.2.2.2.2.1, ()))

noncomputable def bill_sheet_byLines (a0 : D_api_Invoice × (List D_whole_Int) × (List D_whole_Int) × (List D_whole_Int) × (List D_bill_share) × (List D_whole_Int) × (List Bool) × (List D_whole_Int) × Unit) : Option (Int × (D_api_Invoice × (List D_whole_Int) × (List D_whole_Int) × (List D_whole_Int) × (List D_bill_share) × (List D_whole_Int) × (List Bool) × (List D_whole_Int) × Unit) × Unit) :=
 chk (decide (0 ≤ ((List.length a0.1.2.2.2.2.2.2.1 : Int))) && decide (((List.length a0.1.2.2.2.2.2.2.1 : Int)) ≤ ((List.length a0.1.2.2.2.2.2.2.1 : Int))) && decide ((32 : Int) * ((List.length a0.1.2.2.2.2.2.2.1 : Int)) ≤ 281474976710656) && decide (((List.length a0.1.2.2.2.2.2.2.1 : Int)) ≤ 9223372036854775807)) <|
 chk (decide (0 ≤ ((List.length a0.1.2.2.2.2.2.2.1 : Int))) && decide (((List.length a0.1.2.2.2.2.2.2.1 : Int)) ≤ ((List.length a0.1.2.2.2.2.2.2.1 : Int))) && decide ((1 : Int) * ((List.length a0.1.2.2.2.2.2.2.1 : Int)) ≤ 281474976710656) && decide (((List.length a0.1.2.2.2.2.2.2.1 : Int)) ≤ 9223372036854775807)) <|
 joinB (β := (Int × (D_api_Invoice × (List D_whole_Int) × (List D_whole_Int) × (List D_whole_Int) × (List D_bill_share) × (List D_whole_Int) × (List Bool) × (List D_whole_Int) × Unit) × Unit)) (γ := ((List UInt8) × (List UInt8) × Int × Int × Int × Bool × (List D_api_Rate) × (List D_api_BillLine) × (List D_api_Extra) × (List D_whole_Int) × (List D_bill_share) × (List D_whole_Int) × (List Bool) × (List D_whole_Int) × (List D_whole_Int) × (List D_whole_Int) × Unit)) (
  iter (X := bill_sheet_byLines_x4) (β := bill_sheet_byLines_r4) (List.length a0.1.2.2.2.2.2.2.2.1 + (Int.natAbs ((List.length a0.1.2.2.2.2.2.2.2.1 : Int)) + (Int.natAbs (0 : Int) + (List.length a0.1.1 + (List.length a0.1.2.1 + (Int.natAbs a0.1.2.2.1 + (Int.natAbs a0.1.2.2.2.1 + (Int.natAbs a0.1.2.2.2.2.1 + (List.length a0.1.2.2.2.2.2.2.1 + (List.length a0.1.2.2.2.2.2.2.2.1 + (List.length a0.1.2.2.2.2.2.2.2.2 + (List.length a0.2.1 + (List.length a0.2.2.2.2.1 + (List.length ((List.replicate (Int.toNat ((List.length a0.1.2.2.2.2.2.2.1 : Int))) (false, []) : List (D_whole_Int)) : List D_whole_Int) + (List.length ((List.replicate (Int.toNat ((List.length a0.1.2.2.2.2.2.2.1 : Int))) false : List (Bool)) : List Bool) + (List.length a0.2.2.2.1 + (List.length a0.2.2.2.2.2.1 + (List.length a0.2.2.2.2.2.2.2.1 + 2)))))))))))))))))) (a0.1.2.2.2.2.2.2.2.1, (List.length a0.1.2.2.2.2.2.2.2.1 : Int), 0, a0.1.1, a0.1.2.1, a0.1.2.2.1, a0.1.2.2.2.1, a0.1.2.2.2.2.1, a0.1.2.2.2.2.2.1, a0.1.2.2.2.2.2.2.1, a0.1.2.2.2.2.2.2.2.1, a0.1.2.2.2.2.2.2.2.2, a0.2.1, a0.2.2.2.2.1, (List.replicate (Int.toNat ((List.length a0.1.2.2.2.2.2.2.1 : Int))) (false, []) : List (D_whole_Int)), (List.replicate (Int.toNat ((List.length a0.1.2.2.2.2.2.2.1 : Int))) false : List (Bool)), a0.2.2.2.1, a0.2.2.2.2.2.1, a0.2.2.2.2.2.2.2.1, ()) (bill_sheet_byLines_b4)) fun v9 =>
 Option.bind (slices_ContainsFunc_whole_Int v9.2.2.2.2.2.2.2.2.2.2.2.1 ()) fun r10 =>
 bif r10.1 then
  some (1, ((v9.1, v9.2.1, v9.2.2.1, v9.2.2.2.1, v9.2.2.2.2.1, v9.2.2.2.2.2.1, v9.2.2.2.2.2.2.1, v9.2.2.2.2.2.2.2.1, v9.2.2.2.2.2.2.2.2.1), v9.2.2.2.2.2.2.2.2.2.1, v9.2.2.2.2.2.2.2.2.2.2.2.1, v9.2.2.2.2.2.2.2.2.2.2.2.2.2.1, v9.2.2.2.2.2.2.2.2.2.2.1, v9.2.2.2.2.2.2.2.2.2.2.2.2.2.2.1, v9.2.2.2.2.2.2.2.2.2.2.2.2.1, v9.2.2.2.2.2.2.2.2.2.2.2.2.2.2.2.1, ()), ())
 else
  Option.bind (slices_Clone_whole_Int v9.2.2.2.2.2.2.2.2.2.2.2.1) fun r11 =>
  some (0, ((v9.1, v9.2.1, v9.2.2.1, v9.2.2.2.1, v9.2.2.2.2.1, v9.2.2.2.2.2.1, v9.2.2.2.2.2.2.1, v9.2.2.2.2.2.2.2.1, v9.2.2.2.2.2.2.2.2.1), v9.2.2.2.2.2.2.2.2.2.1, v9.2.2.2.2.2.2.2.2.2.2.2.1, r11.1, v9.2.2.2.2.2.2.2.2.2.2.1, v9.2.2.2.2.2.2.2.2.2.2.2.2.2.2.1, v9.2.2.2.2.2.2.2.2.2.2.2.2.1, v9.2.2.2.2.2.2.2.2.2.2.2.2.2.2.2.1, ()), ())

def bill_sheet_bring (a0 : D_api_Invoice × (List D_whole_Int) × (List D_whole_Int) × (List D_whole_Int) × (List D_bill_share) × (List D_whole_Int) × (List Bool) × (List D_whole_Int) × Unit) (a1 : Int) (a2 : D_whole_Int) : Option ((D_api_Invoice × (List D_whole_Int) × (List D_whole_Int) × (List D_whole_Int) × (List D_bill_share) × (List D_whole_Int) × (List Bool) × (List D_whole_Int) × Unit) × Unit) :=
 chk (decide (0 ≤ a1) && decide (a1 < (List.length a0.2.2.2.1 : Int))) <|
 Option.bind (a0.2.2.2.1[a1.toNat]?) fun y1 =>
 Option.bind (whole_Int_Plus y1 a2) fun r2 =>
 chk (decide (0 ≤ a1) && decide (a1 < (List.length a0.2.2.2.1 : Int))) <|
 Option.bind (a0.2.2.2.1[a1.toNat]?) fun _ =>
 chk (decide (((List.length a0.2.2.2.2.1) + 1) * 40 ≤ 140737488355328) && decide ((List.length a0.2.2.2.2.1) + 1 ≤ maxLen)) <|
 some ((a0.1, a0.2.1, a0.2.2.1, List.set a0.2.2.2.1 a1.toNat r2.1, a0.2.2.2.2.1 ++ [(a1, a2)], a0.2.2.2.2.2.1, a0.2.2.2.2.2.2.1, a0.2.2.2.2.2.2.2.1, ()), ())

def whole_Int_Abs (a0 : D_whole_Int) : Option (D_whole_Int × Unit) :=
 Option.bind (whole_made false a0.2) fun r1 =>
 some (r1.1, ())

def bill_sheet_divide_1 (a0 : Int) : Option (Bool × Unit) :=
 some (decide (a0 > 1000000000), ())

abbrev slices_IndexFunc_int_x2 : Type := (List Int) × Unit × Int × Int × Unit
abbrev slices_IndexFunc_int_r2 : Type := ((Int × Unit) ⊕ Unit)
def slices_IndexFunc_int_b2  (x1 : slices_IndexFunc_int_x2) (again : slices_IndexFunc_int_x2 → Option slices_IndexFunc_int_r2) : Option slices_IndexFunc_int_r2 :=
 bif decide (x1.2.2.2.1 < x1.2.2.1) then
  Option.bind (idx x1.1 x1.2.2.2.1) fun y2 =>
  Option.bind (bill_sheet_divide_1 y2) fun r3 =>
  bif r3.1 then
   some (Sum.inl (x1.2.2.2.1, ()))
  else
   again (x1.1, x1.2.1, x1.2.2.1, w64 (x1.2.2.2.1 + 1), ())
 else
  some (Sum.inr ())

def slices_IndexFunc_int (a0 : List Int) (a1 : Unit) : Option (Int × Unit) :=
 joinB (β := (Int × Unit)) (γ := Unit) (
  iter (X := slices_IndexFunc_int_x2) (β := slices_IndexFunc_int_r2) (List.length a0 + (Int.natAbs ((List.length a0 : Int)) + (Int.natAbs (0 : Int) + 2))) (a0, a1, (List.length a0 : Int), 0, ()) (slices_IndexFunc_int_b2)) fun _ =>
 some ((-1), ())

def slices_ContainsFunc_int (a0 : List Int) (a1 : Unit) : Option (Bool × Unit) :=
 Option.bind (slices_IndexFunc_int a0 a1) fun r1 =>
 some (decide (r1.1 ≥ 0), ())

abbrev amount_weightsFault_x7 : Type := Int × (List Int) × Int × Int × Unit
abbrev amount_weightsFault_r7 : Type := ((Int × Unit) ⊕ (Int × Unit))
def amount_weightsFault_b7  (x1 : amount_weightsFault_x7) (again : amount_weightsFault_x7 → Option amount_weightsFault_r7) : Option amount_weightsFault_r7 :=
 bif decide (x1.2.2.2.1 < x1.2.2.1) then
  Option.bind (idx x1.2.1 x1.2.2.2.1) fun y2 =>
  Option.bind (kit_Outside y2 0 1000000000) fun r3 =>
  bif r3.1 then
   some (Sum.inl (1, ()))
  else
   again (w64 (x1.1 + y2), x1.2.1, x1.2.2.1, w64 (x1.2.2.2.1 + 1), ())
 else
  some (Sum.inr (x1.1, ()))

def amount_weightsFault (a0 : List Int) : Option (Int × Unit) :=
 bif ((List.length a0 : Int)) == 0 then
  some (9, ())
 else
  bif decide (((List.length a0 : Int)) > 1000) then
   some (2, ())
  else
   joinB (β := (Int × Unit)) (γ := (Int × Unit)) (
    iter (X := amount_weightsFault_x7) (β := amount_weightsFault_r7) (Int.natAbs (0 : Int) + (List.length a0 + (Int.natAbs ((List.length a0 : Int)) + (Int.natAbs (0 : Int) + 2)))) (0, a0, (List.length a0 : Int), 0, ()) (amount_weightsFault_b7)) fun v4 =>
   bif v4.1 == 0 then
    some (13, ())
   else
    some (0, ())

def amount_Shares_1 (a0 : D_amount_share) (a1 : D_amount_share) : Option (Int × Unit) :=
 Option.bind (whole_Int_Compare a1.2.2 a0.2.2) fun r1 =>
 some (r1.1, ())

abbrev slices_insertionSortCmpFunc_amount_share_x4 : Type := Int × Int × Unit × Int × Int × (List D_amount_share) × Unit
abbrev slices_insertionSortCmpFunc_amount_share_r4 : Type := ((((List D_amount_share) × Unit) ⊕ ((List D_amount_share) × Unit)) ⊕ (Int × Int × Unit × Int × (List D_amount_share) × Unit))
def slices_insertionSortCmpFunc_amount_share_b4  (x1 : slices_insertionSortCmpFunc_amount_share_x4) (again : slices_insertionSortCmpFunc_amount_share_x4 → Option slices_insertionSortCmpFunc_amount_share_r4) : Option slices_insertionSortCmpFunc_amount_share_r4 :=
 bif decide (x1.2.2.2.2.1 > x1.1) then
  chk (decide (0 ≤ x1.2.2.2.2.1) && decide (x1.2.2.2.2.1 < (List.length x1.2.2.2.2.2.1 : Int))) <|
  Option.bind (x1.2.2.2.2.2.1[x1.2.2.2.2.1.toNat]?) fun y2 =>
  chk (decide (0 ≤ (w64 (x1.2.2.2.2.1 - 1))) && decide ((w64 (x1.2.2.2.2.1 - 1)) < (List.length x1.2.2.2.2.2.1 : Int))) <|
  Option.bind (x1.2.2.2.2.2.1[(w64 (x1.2.2.2.2.1 - 1)).toNat]?) fun y3 =>
  Option.bind (amount_Shares_1 y2 y3) fun r4 =>
  bif decide (r4.1 < 0) then
   chk (decide (0 ≤ (w64 (x1.2.2.2.2.1 - 1))) && decide ((w64 (x1.2.2.2.2.1 - 1)) < (List.length x1.2.2.2.2.2.1 : Int))) <|
   Option.bind (x1.2.2.2.2.2.1[(w64 (x1.2.2.2.2.1 - 1)).toNat]?) fun y5 =>
   chk (decide (0 ≤ x1.2.2.2.2.1) && decide (x1.2.2.2.2.1 < (List.length x1.2.2.2.2.2.1 : Int))) <|
   Option.bind (x1.2.2.2.2.2.1[x1.2.2.2.2.1.toNat]?) fun y6 =>
   chk (decide (0 ≤ x1.2.2.2.2.1) && decide (x1.2.2.2.2.1 < (List.length x1.2.2.2.2.2.1 : Int))) <|
   Option.bind (x1.2.2.2.2.2.1[x1.2.2.2.2.1.toNat]?) fun _ =>
   chk (decide (0 ≤ (w64 (x1.2.2.2.2.1 - 1))) && decide ((w64 (x1.2.2.2.2.1 - 1)) < (List.length (List.set x1.2.2.2.2.2.1 x1.2.2.2.2.1.toNat y5) : Int))) <|
   Option.bind ((List.set x1.2.2.2.2.2.1 x1.2.2.2.2.1.toNat y5)[(w64 (x1.2.2.2.2.1 - 1)).toNat]?) fun _ =>
   again (x1.1, x1.2.1, x1.2.2.1, x1.2.2.2.1, w64 (x1.2.2.2.2.1 - 1), List.set (List.set x1.2.2.2.2.2.1 x1.2.2.2.2.1.toNat y5) (w64 (x1.2.2.2.2.1 - 1)).toNat y6, ())
  else
   some (Sum.inr (x1.1, x1.2.1, x1.2.2.1, x1.2.2.2.1, x1.2.2.2.2.2.1, ()))
 else
  some (Sum.inr (x1.1, x1.2.1, x1.2.2.1, x1.2.2.2.1, x1.2.2.2.2.2.1, ()))

abbrev slices_insertionSortCmpFunc_amount_share_x1 : Type := Int × Int × Unit × Int × (List D_amount_share) × Unit
abbrev slices_insertionSortCmpFunc_amount_share_r1 : Type := (((List D_amount_share) × Unit) ⊕ ((List D_amount_share) × Unit))
def slices_insertionSortCmpFunc_amount_share_b1  (x1 : slices_insertionSortCmpFunc_amount_share_x1) (again : slices_insertionSortCmpFunc_amount_share_x1 → Option slices_insertionSortCmpFunc_amount_share_r1) : Option slices_insertionSortCmpFunc_amount_share_r1 :=
 bif decide (x1.2.2.2.1 < x1.2.1) then
  joinB (β := (((List D_amount_share) × Unit) ⊕ ((List D_amount_share) × Unit))) (γ := (Int × Int × Unit × Int × (List D_amount_share) × Unit)) (
   iter (X := slices_insertionSortCmpFunc_amount_share_x4) (β := slices_insertionSortCmpFunc_amount_share_r4) (Int.natAbs x1.1 + (Int.natAbs x1.2.1 + (Int.natAbs x1.2.2.2.1 + (Int.natAbs x1.2.2.2.1 + (List.length x1.2.2.2.2.1 + 2))))) (x1.1, x1.2.1, x1.2.2.1, x1.2.2.2.1, x1.2.2.2.1, x1.2.2.2.2.1, ()) (slices_insertionSortCmpFunc_amount_share_b4)) fun v2 =>
  again (v2.1, v2.2.1, v2.2.2.1, w64 (v2.2.2.2.1 + 1), v2.2.2.2.2.1, ())
 else
  some (Sum.inr (x1.2.2.2.2.1, ()))

def slices_insertionSortCmpFunc_amount_share (a0 : List D_amount_share) (a1 : Int) (a2 : Int) (a3 : Unit) : Option ((List D_amount_share) × Unit) :=
 joinB (β := ((List D_amount_share) × Unit)) (γ := ((List D_amount_share) × Unit)) (
  iter (X := slices_insertionSortCmpFunc_amount_share_x1) (β := slices_insertionSortCmpFunc_amount_share_r1) (Int.natAbs a1 + (Int.natAbs a2 + (Int.natAbs (w64 (a1 + 1)) + (List.length a0 + 2)))) (a1, a2, a3, w64 (a1 + 1), a0, ()) (slices_insertionSortCmpFunc_amount_share_b1)) fun v11 =>
 some (v11.1, ())

abbrev slices_swapRangeCmpFunc_amount_share_x1 : Type := Int × Int × Int × Int × (List D_amount_share) × Unit
abbrev slices_swapRangeCmpFunc_amount_share_r1 : Type := (((List D_amount_share) × Unit) ⊕ ((List D_amount_share) × Unit))
def slices_swapRangeCmpFunc_amount_share_b1  (x1 : slices_swapRangeCmpFunc_amount_share_x1) (again : slices_swapRangeCmpFunc_amount_share_x1 → Option slices_swapRangeCmpFunc_amount_share_r1) : Option slices_swapRangeCmpFunc_amount_share_r1 :=
 bif decide (x1.2.2.2.1 < x1.2.2.1) then
  chk (decide (0 ≤ (w64 (x1.2.1 + x1.2.2.2.1))) && decide ((w64 (x1.2.1 + x1.2.2.2.1)) < (List.length x1.2.2.2.2.1 : Int))) <|
  Option.bind (x1.2.2.2.2.1[(w64 (x1.2.1 + x1.2.2.2.1)).toNat]?) fun y2 =>
  chk (decide (0 ≤ (w64 (x1.1 + x1.2.2.2.1))) && decide ((w64 (x1.1 + x1.2.2.2.1)) < (List.length x1.2.2.2.2.1 : Int))) <|
  Option.bind (x1.2.2.2.2.1[(w64 (x1.1 + x1.2.2.2.1)).toNat]?) fun y3 =>
  chk (decide (0 ≤ (w64 (x1.1 + x1.2.2.2.1))) && decide ((w64 (x1.1 + x1.2.2.2.1)) < (List.length x1.2.2.2.2.1 : Int))) <|
  Option.bind (x1.2.2.2.2.1[(w64 (x1.1 + x1.2.2.2.1)).toNat]?) fun _ =>
  chk (decide (0 ≤ (w64 (x1.2.1 + x1.2.2.2.1))) && decide ((w64 (x1.2.1 + x1.2.2.2.1)) < (List.length (List.set x1.2.2.2.2.1 (w64 (x1.1 + x1.2.2.2.1)).toNat y2) : Int))) <|
  Option.bind ((List.set x1.2.2.2.2.1 (w64 (x1.1 + x1.2.2.2.1)).toNat y2)[(w64 (x1.2.1 + x1.2.2.2.1)).toNat]?) fun _ =>
  again (x1.1, x1.2.1, x1.2.2.1, w64 (x1.2.2.2.1 + 1), List.set (List.set x1.2.2.2.2.1 (w64 (x1.1 + x1.2.2.2.1)).toNat y2) (w64 (x1.2.1 + x1.2.2.2.1)).toNat y3, ())
 else
  some (Sum.inr (x1.2.2.2.2.1, ()))

def slices_swapRangeCmpFunc_amount_share (a0 : List D_amount_share) (a1 : Int) (a2 : Int) (a3 : Int) (_a4 : Unit) : Option ((List D_amount_share) × Unit) :=
 joinB (β := ((List D_amount_share) × Unit)) (γ := ((List D_amount_share) × Unit)) (
  iter (X := slices_swapRangeCmpFunc_amount_share_x1) (β := slices_swapRangeCmpFunc_amount_share_r1) (Int.natAbs a1 + (Int.natAbs a2 + (Int.natAbs a3 + (Int.natAbs (0 : Int) + (List.length a0 + 2))))) (a1, a2, a3, 0, a0, ()) (slices_swapRangeCmpFunc_amount_share_b1)) fun v6 =>
 some (v6.1, ())

abbrev slices_rotateCmpFunc_amount_share_x2 : Type := Int × Unit × Int × Int × (List D_amount_share) × Unit
abbrev slices_rotateCmpFunc_amount_share_r2 : Type := (((List D_amount_share) × Unit) ⊕ (Int × Unit × Int × (List D_amount_share) × Unit))
def slices_rotateCmpFunc_amount_share_b2  (x1 : slices_rotateCmpFunc_amount_share_x2) (again : slices_rotateCmpFunc_amount_share_x2 → Option slices_rotateCmpFunc_amount_share_r2) : Option slices_rotateCmpFunc_amount_share_r2 :=
 bif x1.2.2.1 != x1.2.2.2.1 then
  bif decide (x1.2.2.1 > x1.2.2.2.1) then
   Option.bind (slices_swapRangeCmpFunc_amount_share x1.2.2.2.2.1 (w64 (x1.1 - x1.2.2.1)) x1.1 x1.2.2.2.1 x1.2.1) fun r2 =>
   again (x1.1, x1.2.1, w64 (x1.2.2.1 - x1.2.2.2.1), x1.2.2.2.1, r2.1, ())
  else
   Option.bind (slices_swapRangeCmpFunc_amount_share x1.2.2.2.2.1 (w64 (x1.1 - x1.2.2.1)) (w64 ((w64 (x1.1 + x1.2.2.2.1)) - x1.2.2.1)) x1.2.2.1 x1.2.1) fun r3 =>
   again (x1.1, x1.2.1, x1.2.2.1, w64 (x1.2.2.2.1 - x1.2.2.1), r3.1, ())
 else
  some (Sum.inr (x1.1, x1.2.1, x1.2.2.1, x1.2.2.2.2.1, ()))

def slices_rotateCmpFunc_amount_share (a0 : List D_amount_share) (a1 : Int) (a2 : Int) (a3 : Int) (a4 : Unit) : Option ((List D_amount_share) × Unit) :=
 joinB (β := ((List D_amount_share) × Unit)) (γ := (Int × Unit × Int × (List D_amount_share) × Unit)) (
  iter (X := slices_rotateCmpFunc_amount_share_x2) (β := slices_rotateCmpFunc_amount_share_r2) (Int.natAbs a2 + (Int.natAbs (w64 (a2 - a1)) + (Int.natAbs (w64 (a3 - a2)) + (List.length a0 + 2)))) (a2, a4, w64 (a2 - a1), w64 (a3 - a2), a0, ()) (slices_rotateCmpFunc_amount_share_b2)) fun v4 =>
 Option.bind (slices_swapRangeCmpFunc_amount_share v4.2.2.2.1 (w64 (v4.1 - v4.2.2.1)) v4.1 v4.2.2.1 v4.2.1) fun r5 =>
 some (r5.1, ())

abbrev slices_symMergeCmpFunc_amount_share_x3 : Type := Int × Unit × Int × Int × (List D_amount_share) × Unit
abbrev slices_symMergeCmpFunc_amount_share_r3 : Type := (((List D_amount_share) × Unit) ⊕ (Int × Int × (List D_amount_share) × Unit))
def slices_symMergeCmpFunc_amount_share_b3  (x1 : slices_symMergeCmpFunc_amount_share_x3) (again : slices_symMergeCmpFunc_amount_share_x3 → Option slices_symMergeCmpFunc_amount_share_r3) : Option slices_symMergeCmpFunc_amount_share_r3 :=
 bif decide (x1.2.2.1 < x1.2.2.2.1) then
  let n2 : Int := w64 (Int.fdiv (wu64 (w64 (x1.2.2.1 + x1.2.2.2.1))) (2 ^ 1))
  chk (decide (0 ≤ n2) && decide (n2 < (List.length x1.2.2.2.2.1 : Int))) <|
  Option.bind (x1.2.2.2.2.1[n2.toNat]?) fun y3 =>
  chk (decide (0 ≤ x1.1) && decide (x1.1 < (List.length x1.2.2.2.2.1 : Int))) <|
  Option.bind (x1.2.2.2.2.1[x1.1.toNat]?) fun y4 =>
  Option.bind (amount_Shares_1 y3 y4) fun r5 =>
  bif decide (r5.1 < 0) then
   again (x1.1, x1.2.1, w64 (n2 + 1), x1.2.2.2.1, x1.2.2.2.2.1, ())
  else
   again (x1.1, x1.2.1, x1.2.2.1, n2, x1.2.2.2.2.1, ())
 else
  some (Sum.inr (x1.1, x1.2.2.1, x1.2.2.2.2.1, ()))

abbrev slices_symMergeCmpFunc_amount_share_x9 : Type := Int × Int × (List D_amount_share) × Unit
abbrev slices_symMergeCmpFunc_amount_share_r9 : Type := (((List D_amount_share) × Unit) ⊕ ((List D_amount_share) × Unit))
def slices_symMergeCmpFunc_amount_share_b9  (x1 : slices_symMergeCmpFunc_amount_share_x9) (again : slices_symMergeCmpFunc_amount_share_x9 → Option slices_symMergeCmpFunc_amount_share_r9) : Option slices_symMergeCmpFunc_amount_share_r9 :=
 bif decide (x1.2.1 < (w64 (x1.1 - 1))) then
  chk (decide (0 ≤ (w64 (x1.2.1 + 1))) && decide ((w64 (x1.2.1 + 1)) < (List.length x1.2.2.1 : Int))) <|
  Option.bind (x1.2.2.1[(w64 (x1.2.1 + 1)).toNat]?) fun y2 =>
  chk (decide (0 ≤ x1.2.1) && decide (x1.2.1 < (List.length x1.2.2.1 : Int))) <|
  Option.bind (x1.2.2.1[x1.2.1.toNat]?) fun y3 =>
  chk (decide (0 ≤ x1.2.1) && decide (x1.2.1 < (List.length x1.2.2.1 : Int))) <|
  Option.bind (x1.2.2.1[x1.2.1.toNat]?) fun _ =>
  chk (decide (0 ≤ (w64 (x1.2.1 + 1))) && decide ((w64 (x1.2.1 + 1)) < (List.length (List.set x1.2.2.1 x1.2.1.toNat y2) : Int))) <|
  Option.bind ((List.set x1.2.2.1 x1.2.1.toNat y2)[(w64 (x1.2.1 + 1)).toNat]?) fun _ =>
  again (x1.1, w64 (x1.2.1 + 1), List.set (List.set x1.2.2.1 x1.2.1.toNat y2) (w64 (x1.2.1 + 1)).toNat y3, ())
 else
  some (Sum.inr (x1.2.2.1, ()))

abbrev slices_symMergeCmpFunc_amount_share_x15 : Type := Int × Unit × Int × Int × (List D_amount_share) × Unit
abbrev slices_symMergeCmpFunc_amount_share_r15 : Type := (((List D_amount_share) × Unit) ⊕ (Int × Int × (List D_amount_share) × Unit))
def slices_symMergeCmpFunc_amount_share_b15  (x1 : slices_symMergeCmpFunc_amount_share_x15) (again : slices_symMergeCmpFunc_amount_share_x15 → Option slices_symMergeCmpFunc_amount_share_r15) : Option slices_symMergeCmpFunc_amount_share_r15 :=
 bif decide (x1.2.2.1 < x1.2.2.2.1) then
  let n2 : Int := w64 (Int.fdiv (wu64 (w64 (x1.2.2.1 + x1.2.2.2.1))) (2 ^ 1))
  chk (decide (0 ≤ x1.1) && decide (x1.1 < (List.length x1.2.2.2.2.1 : Int))) <|
  Option.bind (x1.2.2.2.2.1[x1.1.toNat]?) fun y3 =>
  chk (decide (0 ≤ n2) && decide (n2 < (List.length x1.2.2.2.2.1 : Int))) <|
  Option.bind (x1.2.2.2.2.1[n2.toNat]?) fun y4 =>
  Option.bind (amount_Shares_1 y3 y4) fun r5 =>
  bif !(decide (r5.1 < 0)) then
   again (x1.1, x1.2.1, w64 (n2 + 1), x1.2.2.2.1, x1.2.2.2.2.1, ())
  else
   again (x1.1, x1.2.1, x1.2.2.1, n2, x1.2.2.2.2.1, ())
 else
  some (Sum.inr (x1.1, x1.2.2.1, x1.2.2.2.2.1, ()))

abbrev slices_symMergeCmpFunc_amount_share_x21 : Type := Int × Int × (List D_amount_share) × Unit
abbrev slices_symMergeCmpFunc_amount_share_r21 : Type := (((List D_amount_share) × Unit) ⊕ ((List D_amount_share) × Unit))
def slices_symMergeCmpFunc_amount_share_b21  (x1 : slices_symMergeCmpFunc_amount_share_x21) (again : slices_symMergeCmpFunc_amount_share_x21 → Option slices_symMergeCmpFunc_amount_share_r21) : Option slices_symMergeCmpFunc_amount_share_r21 :=
 bif decide (x1.2.1 > x1.1) then
  chk (decide (0 ≤ (w64 (x1.2.1 - 1))) && decide ((w64 (x1.2.1 - 1)) < (List.length x1.2.2.1 : Int))) <|
  Option.bind (x1.2.2.1[(w64 (x1.2.1 - 1)).toNat]?) fun y2 =>
  chk (decide (0 ≤ x1.2.1) && decide (x1.2.1 < (List.length x1.2.2.1 : Int))) <|
  Option.bind (x1.2.2.1[x1.2.1.toNat]?) fun y3 =>
  chk (decide (0 ≤ x1.2.1) && decide (x1.2.1 < (List.length x1.2.2.1 : Int))) <|
  Option.bind (x1.2.2.1[x1.2.1.toNat]?) fun _ =>
  chk (decide (0 ≤ (w64 (x1.2.1 - 1))) && decide ((w64 (x1.2.1 - 1)) < (List.length (List.set x1.2.2.1 x1.2.1.toNat y2) : Int))) <|
  Option.bind ((List.set x1.2.2.1 x1.2.1.toNat y2)[(w64 (x1.2.1 - 1)).toNat]?) fun _ =>
  again (x1.1, w64 (x1.2.1 - 1), List.set (List.set x1.2.2.1 x1.2.1.toNat y2) (w64 (x1.2.1 - 1)).toNat y3, ())
 else
  some (Sum.inr (x1.2.2.1, ()))

abbrev slices_symMergeCmpFunc_amount_share_x33 : Type := Int × Int × Int × Unit × Int × Int × Int × Int × Int × (List D_amount_share) × Unit
abbrev slices_symMergeCmpFunc_amount_share_r33 : Type := (((List D_amount_share) × Unit) ⊕ (Int × Int × Int × Unit × Int × Int × Int × (List D_amount_share) × Unit))
def slices_symMergeCmpFunc_amount_share_b33  (x1 : slices_symMergeCmpFunc_amount_share_x33) (again : slices_symMergeCmpFunc_amount_share_x33 → Option slices_symMergeCmpFunc_amount_share_r33) : Option slices_symMergeCmpFunc_amount_share_r33 :=
 bif decide (x1.2.2.2.2.2.2.1 < x1.2.2.2.2.2.2.2.1) then
  let n2 : Int := w64 (Int.fdiv (wu64 (w64 (x1.2.2.2.2.2.2.1 + x1.2.2.2.2.2.2.2.1))) (2 ^ 1))
  chk (decide (0 ≤ (w64 (x1.2.2.2.2.2.2.2.2.1 - n2))) && decide ((w64 (x1.2.2.2.2.2.2.2.2.1 - n2)) < (List.length x1.2.2.2.2.2.2.2.2.2.1 : Int))) <|
  Option.bind (x1.2.2.2.2.2.2.2.2.2.1[(w64 (x1.2.2.2.2.2.2.2.2.1 - n2)).toNat]?) fun y3 =>
  chk (decide (0 ≤ n2) && decide (n2 < (List.length x1.2.2.2.2.2.2.2.2.2.1 : Int))) <|
  Option.bind (x1.2.2.2.2.2.2.2.2.2.1[n2.toNat]?) fun y4 =>
  Option.bind (amount_Shares_1 y3 y4) fun r5 =>
  bif !(decide (r5.1 < 0)) then
   again (x1.1, x1.2.1, x1.2.2.1, x1.2.2.2.1, x1.2.2.2.2.1, x1.2.2.2.2.2.1, w64 (n2 + 1), x1.2.2.2.2.2.2.2.1, x1.2.2.2.2.2.2.2.2.1, x1.2.2.2.2.2.2.2.2.2.1, ())
  else
   again (x1.1, x1.2.1, x1.2.2.1, x1.2.2.2.1, x1.2.2.2.2.1, x1.2.2.2.2.2.1, x1.2.2.2.2.2.2.1, n2, x1.2.2.2.2.2.2.2.2.1, x1.2.2.2.2.2.2.2.2.2.1, ())
 else
  some (Sum.inr (x1.1, x1.2.1, x1.2.2.1, x1.2.2.2.1, x1.2.2.2.2.1, x1.2.2.2.2.2.1, x1.2.2.2.2.2.2.1, x1.2.2.2.2.2.2.2.2.2.1, ()))

def slices_symMergeCmpFunc_amount_share_F (self : ((List D_amount_share) × Int × Int × Int × Unit × Unit) → Option ((List D_amount_share) × Unit)) (a0 : List D_amount_share) (a1 : Int) (a2 : Int) (a3 : Int) (a4 : Unit) : Option ((List D_amount_share) × Unit) :=
 bif (w64 (a2 - a1)) == 1 then
  joinB (β := ((List D_amount_share) × Unit)) (γ := (Int × Int × (List D_amount_share) × Unit)) (
   iter (X := slices_symMergeCmpFunc_amount_share_x3) (β := slices_symMergeCmpFunc_amount_share_r3) (Int.natAbs a1 + (Int.natAbs a2 + (Int.natAbs a3 + (List.length a0 + 2)))) (a1, a4, a2, a3, a0, ()) (slices_symMergeCmpFunc_amount_share_b3)) fun v6 =>
  joinB (β := ((List D_amount_share) × Unit)) (γ := ((List D_amount_share) × Unit)) (
   iter (X := slices_symMergeCmpFunc_amount_share_x9) (β := slices_symMergeCmpFunc_amount_share_r9) (Int.natAbs v6.2.1 + (Int.natAbs v6.1 + (List.length v6.2.2.1 + 2))) (v6.2.1, v6.1, v6.2.2.1, ()) (slices_symMergeCmpFunc_amount_share_b9)) fun v12 =>
  some (v12.1, ())
 else
  bif (w64 (a3 - a2)) == 1 then
   joinB (β := ((List D_amount_share) × Unit)) (γ := (Int × Int × (List D_amount_share) × Unit)) (
    iter (X := slices_symMergeCmpFunc_amount_share_x15) (β := slices_symMergeCmpFunc_amount_share_r15) (Int.natAbs a2 + (Int.natAbs a1 + (Int.natAbs a2 + (List.length a0 + 2)))) (a2, a4, a1, a2, a0, ()) (slices_symMergeCmpFunc_amount_share_b15)) fun v18 =>
   joinB (β := ((List D_amount_share) × Unit)) (γ := ((List D_amount_share) × Unit)) (
    iter (X := slices_symMergeCmpFunc_amount_share_x21) (β := slices_symMergeCmpFunc_amount_share_r21) (Int.natAbs v18.2.1 + (Int.natAbs v18.1 + (List.length v18.2.2.1 + 2))) (v18.2.1, v18.1, v18.2.2.1, ()) (slices_symMergeCmpFunc_amount_share_b21)) fun v24 =>
   some (v24.1, ())
  else
   let n25 : Int := w64 (Int.fdiv (wu64 (w64 (a1 + a3))) (2 ^ 1))
   joinB (β := ((List D_amount_share) × Unit)) (γ := (Int × Int × Int × Unit × Int × Int × Int × Int × (List D_amount_share) × Unit)) (
    bif decide (a2 > n25) then
     some (Sum.inr (a1, a2, a3, a4, n25, w64 (n25 + a2), w64 ((w64 (n25 + a2)) - a3), n25, a0, ()))
    else
     some (Sum.inr (a1, a2, a3, a4, n25, w64 (n25 + a2), a1, a2, a0, ()))) fun v26 =>
   joinB (β := ((List D_amount_share) × Unit)) (γ := (Int × Int × Int × Unit × Int × Int × Int × (List D_amount_share) × Unit)) (
    iter (X := slices_symMergeCmpFunc_amount_share_x33) (β := slices_symMergeCmpFunc_amount_share_r33) (Int.natAbs v26.1 + (Int.natAbs v26.2.1 + (Int.natAbs v26.2.2.1 + (Int.natAbs v26.2.2.2.2.1 + (Int.natAbs v26.2.2.2.2.2.1 + (Int.natAbs v26.2.2.2.2.2.2.1 + (Int.natAbs v26.2.2.2.2.2.2.2.1 + (Int.natAbs (w64 (v26.2.2.2.2.2.1 - 1)) + (List.length v26.2.2.2.2.2.2.2.2.1 + 2))))))))) (v26.1, v26.2.1, v26.2.2.1, v26.2.2.2.1, v26.2.2.2.2.1, v26.2.2.2.2.2.1, v26.2.2.2.2.2.2.1, v26.2.2.2.2.2.2.2.1, w64 (v26.2.2.2.2.2.1 - 1), v26.2.2.2.2.2.2.2.2.1, ()) (slices_symMergeCmpFunc_amount_share_b33)) fun v32 =>
   bif decide (v32.2.2.2.2.2.2.1 < v32.2.1) then
    joinB (β := ((List D_amount_share) × Unit)) (γ := (Int × Int × Unit × Int × Int × Int × (List D_amount_share) × Unit)) (
     bif decide (v32.2.1 < (w64 (v32.2.2.2.2.2.1 - v32.2.2.2.2.2.2.1))) then
      Option.bind (slices_rotateCmpFunc_amount_share v32.2.2.2.2.2.2.2.1 v32.2.2.2.2.2.2.1 v32.2.1 (w64 (v32.2.2.2.2.2.1 - v32.2.2.2.2.2.2.1)) v32.2.2.2.1) fun r33 =>
      some (Sum.inr (v32.1, v32.2.2.1, v32.2.2.2.1, v32.2.2.2.2.1, v32.2.2.2.2.2.2.1, w64 (v32.2.2.2.2.2.1 - v32.2.2.2.2.2.2.1), r33.1, ()))
     else
      some (Sum.inr (v32.1, v32.2.2.1, v32.2.2.2.1, v32.2.2.2.2.1, v32.2.2.2.2.2.2.1, w64 (v32.2.2.2.2.2.1 - v32.2.2.2.2.2.2.1), v32.2.2.2.2.2.2.2.1, ()))) fun v34 =>
    bif decide (v34.1 < v34.2.2.2.2.1) then
     joinB (β := ((List D_amount_share) × Unit)) (γ := (Int × Unit × Int × Int × (List D_amount_share) × Unit)) (
      bif decide (v34.2.2.2.2.1 < v34.2.2.2.1) then
       Option.bind (self (v34.2.2.2.2.2.2.1, v34.1, v34.2.2.2.2.1, v34.2.2.2.1, v34.2.2.1, ())) fun r35 =>
       some (Sum.inr (v34.2.1, v34.2.2.1, v34.2.2.2.1, v34.2.2.2.2.2.1, r35.1, ()))
      else
       some (Sum.inr (v34.2.1, v34.2.2.1, v34.2.2.2.1, v34.2.2.2.2.2.1, v34.2.2.2.2.2.2.1, ()))) fun v36 =>
     bif decide (v36.2.2.1 < v36.2.2.2.1) then
      bif decide (v36.2.2.2.1 < v36.1) then
       Option.bind (self (v36.2.2.2.2.1, v36.2.2.1, v36.2.2.2.1, v36.1, v36.2.1, ())) fun r37 =>
       some (r37.1, ())
      else
       some (v36.2.2.2.2.1, ())
     else
      some (v36.2.2.2.2.1, ())
    else
     joinB (β := ((List D_amount_share) × Unit)) (γ := (Int × Unit × Int × Int × (List D_amount_share) × Unit)) (
      some (Sum.inr (v34.2.1, v34.2.2.1, v34.2.2.2.1, v34.2.2.2.2.2.1, v34.2.2.2.2.2.2.1, ()))) fun v38 =>
     bif decide (v38.2.2.1 < v38.2.2.2.1) then
      bif decide (v38.2.2.2.1 < v38.1) then
       Option.bind (self (v38.2.2.2.2.1, v38.2.2.1, v38.2.2.2.1, v38.1, v38.2.1, ())) fun r39 =>
       some (r39.1, ())
      else
       some (v38.2.2.2.2.1, ())
     else
      some (v38.2.2.2.2.1, ())
   else
    joinB (β := ((List D_amount_share) × Unit)) (γ := (Int × Int × Unit × Int × Int × Int × (List D_amount_share) × Unit)) (
     some (Sum.inr (v32.1, v32.2.2.1, v32.2.2.2.1, v32.2.2.2.2.1, v32.2.2.2.2.2.2.1, w64 (v32.2.2.2.2.2.1 - v32.2.2.2.2.2.2.1), v32.2.2.2.2.2.2.2.1, ()))) fun v40 =>
    bif decide (v40.1 < v40.2.2.2.2.1) then
     joinB (β := ((List D_amount_share) × Unit)) (γ := (Int × Unit × Int × Int × (List D_amount_share) × Unit)) (
      bif decide (v40.2.2.2.2.1 < v40.2.2.2.1) then
       Option.bind (self (v40.2.2.2.2.2.2.1, v40.1, v40.2.2.2.2.1, v40.2.2.2.1, v40.2.2.1, ())) fun r41 =>
       some (Sum.inr (v40.2.1, v40.2.2.1, v40.2.2.2.1, v40.2.2.2.2.2.1, r41.1, ()))
      else
       some (Sum.inr (v40.2.1, v40.2.2.1, v40.2.2.2.1, v40.2.2.2.2.2.1, v40.2.2.2.2.2.2.1, ()))) fun v42 =>
     bif decide (v42.2.2.1 < v42.2.2.2.1) then
      bif decide (v42.2.2.2.1 < v42.1) then
       Option.bind (self (v42.2.2.2.2.1, v42.2.2.1, v42.2.2.2.1, v42.1, v42.2.1, ())) fun r43 =>
       some (r43.1, ())
      else
       some (v42.2.2.2.2.1, ())
     else
      some (v42.2.2.2.2.1, ())
    else
     joinB (β := ((List D_amount_share) × Unit)) (γ := (Int × Unit × Int × Int × (List D_amount_share) × Unit)) (
      some (Sum.inr (v40.2.1, v40.2.2.1, v40.2.2.2.1, v40.2.2.2.2.2.1, v40.2.2.2.2.2.2.1, ()))) fun v44 =>
     bif decide (v44.2.2.1 < v44.2.2.2.1) then
      bif decide (v44.2.2.2.1 < v44.1) then
       Option.bind (self (v44.2.2.2.2.1, v44.2.2.1, v44.2.2.2.1, v44.1, v44.2.1, ())) fun r45 =>
       some (r45.1, ())
      else
       some (v44.2.2.2.2.1, ())
     else
      some (v44.2.2.2.2.1, ())

def slices_symMergeCmpFunc_amount_share_fuel (a0 : List D_amount_share) (a1 : Int) (a2 : Int) (a3 : Int) (_a4 : Unit) : Nat := List.length a0 + (Int.natAbs a1 + (Int.natAbs a2 + (Int.natAbs a3 + 2)))

def slices_symMergeCmpFunc_amount_share (a0 : List D_amount_share) (a1 : Int) (a2 : Int) (a3 : Int) (a4 : Unit) : Option ((List D_amount_share) × Unit) :=
 recM (fun self x => slices_symMergeCmpFunc_amount_share_F self x.1 x.2.1 x.2.2.1 x.2.2.2.1 x.2.2.2.2.1) (slices_symMergeCmpFunc_amount_share_fuel a0 a1 a2 a3 a4) (a0, a1, a2, a3, a4, ())

abbrev slices_stableCmpFunc_amount_share_x2 : Type := Int × Unit × Int × Int × Int × (List D_amount_share) × Unit
abbrev slices_stableCmpFunc_amount_share_r2 : Type := (((List D_amount_share) × Unit) ⊕ (Int × Unit × Int × Int × (List D_amount_share) × Unit))
def slices_stableCmpFunc_amount_share_b2  (x1 : slices_stableCmpFunc_amount_share_x2) (again : slices_stableCmpFunc_amount_share_x2 → Option slices_stableCmpFunc_amount_share_r2) : Option slices_stableCmpFunc_amount_share_r2 :=
 bif decide (x1.2.2.2.2.1 ≤ x1.1) then
  Option.bind (slices_insertionSortCmpFunc_amount_share x1.2.2.2.2.2.1 x1.2.2.2.1 x1.2.2.2.2.1 x1.2.1) fun r2 =>
  again (x1.1, x1.2.1, x1.2.2.1, x1.2.2.2.2.1, w64 (x1.2.2.2.2.1 + x1.2.2.1), r2.1, ())
 else
  some (Sum.inr (x1.1, x1.2.1, x1.2.2.1, x1.2.2.2.1, x1.2.2.2.2.2.1, ()))

abbrev slices_stableCmpFunc_amount_share_x9 : Type := Int × Unit × Int × Int × Int × (List D_amount_share) × Unit
abbrev slices_stableCmpFunc_amount_share_r9 : Type := ((((List D_amount_share) × Unit) ⊕ ((List D_amount_share) × Unit)) ⊕ (Int × Unit × Int × Int × (List D_amount_share) × Unit))
def slices_stableCmpFunc_amount_share_b9  (x1 : slices_stableCmpFunc_amount_share_x9) (again : slices_stableCmpFunc_amount_share_x9 → Option slices_stableCmpFunc_amount_share_r9) : Option slices_stableCmpFunc_amount_share_r9 :=
 bif decide (x1.2.2.2.2.1 ≤ x1.1) then
  Option.bind (slices_symMergeCmpFunc_amount_share x1.2.2.2.2.2.1 x1.2.2.2.1 (w64 (x1.2.2.2.1 + x1.2.2.1)) x1.2.2.2.2.1 x1.2.1) fun r2 =>
  again (x1.1, x1.2.1, x1.2.2.1, x1.2.2.2.2.1, w64 (x1.2.2.2.2.1 + (w64 (2 * x1.2.2.1))), r2.1, ())
 else
  some (Sum.inr (x1.1, x1.2.1, x1.2.2.1, x1.2.2.2.1, x1.2.2.2.2.2.1, ()))

abbrev slices_stableCmpFunc_amount_share_x7 : Type := Int × Unit × Int × (List D_amount_share) × Unit
abbrev slices_stableCmpFunc_amount_share_r7 : Type := (((List D_amount_share) × Unit) ⊕ ((List D_amount_share) × Unit))
def slices_stableCmpFunc_amount_share_b7  (x1 : slices_stableCmpFunc_amount_share_x7) (again : slices_stableCmpFunc_amount_share_x7 → Option slices_stableCmpFunc_amount_share_r7) : Option slices_stableCmpFunc_amount_share_r7 :=
 bif decide (x1.2.2.1 < x1.1) then
  joinB (β := (((List D_amount_share) × Unit) ⊕ ((List D_amount_share) × Unit))) (γ := (Int × Unit × Int × Int × (List D_amount_share) × Unit)) (
   iter (X := slices_stableCmpFunc_amount_share_x9) (β := slices_stableCmpFunc_amount_share_r9) (Int.natAbs x1.1 + (Int.natAbs x1.2.2.1 + (Int.natAbs (0 : Int) + (Int.natAbs (w64 (2 * x1.2.2.1)) + (List.length x1.2.2.2.1 + 2))))) (x1.1, x1.2.1, x1.2.2.1, 0, w64 (2 * x1.2.2.1), x1.2.2.2.1, ()) (slices_stableCmpFunc_amount_share_b9)) fun v2 =>
  bif decide ((w64 (v2.2.2.2.1 + v2.2.2.1)) < v2.1) then
   Option.bind (slices_symMergeCmpFunc_amount_share v2.2.2.2.2.1 v2.2.2.2.1 (w64 (v2.2.2.2.1 + v2.2.2.1)) v2.1 v2.2.1) fun r3 =>
   again (v2.1, v2.2.1, w64 (v2.2.2.1 * 2), r3.1, ())
  else
   again (v2.1, v2.2.1, w64 (v2.2.2.1 * 2), v2.2.2.2.2.1, ())
 else
  some (Sum.inr (x1.2.2.2.1, ()))

def slices_stableCmpFunc_amount_share (a0 : List D_amount_share) (a1 : Int) (a2 : Unit) : Option ((List D_amount_share) × Unit) :=
 joinB (β := ((List D_amount_share) × Unit)) (γ := (Int × Unit × Int × Int × (List D_amount_share) × Unit)) (
  iter (X := slices_stableCmpFunc_amount_share_x2) (β := slices_stableCmpFunc_amount_share_r2) (Int.natAbs a1 + (Int.natAbs (20 : Int) + (Int.natAbs (0 : Int) + (Int.natAbs (20 : Int) + (List.length a0 + 2))))) (a1, a2, 20, 0, 20, a0, ()) (slices_stableCmpFunc_amount_share_b2)) fun v3 =>
 Option.bind (slices_insertionSortCmpFunc_amount_share v3.2.2.2.2.1 v3.2.2.2.1 v3.1 v3.2.1) fun r4 =>
 joinB (β := ((List D_amount_share) × Unit)) (γ := ((List D_amount_share) × Unit)) (
  iter (X := slices_stableCmpFunc_amount_share_x7) (β := slices_stableCmpFunc_amount_share_r7) (Int.natAbs v3.1 + (Int.natAbs v3.2.2.1 + (List.length r4.1 + 2))) (v3.1, v3.2.1, v3.2.2.1, r4.1, ()) (slices_stableCmpFunc_amount_share_b7)) fun v10 =>
 some (v10.1, ())

def slices_SortStableFunc_amount_share (a0 : List D_amount_share) (a1 : Unit) : Option ((List D_amount_share) × Unit) :=
 Option.bind (slices_stableCmpFunc_amount_share a0 ((List.length a0 : Int)) a1) fun r1 =>
 some (r1.1, ())

abbrev amount_Shares_x9 : Type := (List Int) × Int × (List Int) × Int × Int × Int × Int × Unit
abbrev amount_Shares_r9 : Type := (((List D_api_Decimal) × Int × Unit) ⊕ ((List Int) × Int × Int × Int × Unit))
def amount_Shares_b9  (x1 : amount_Shares_x9) (again : amount_Shares_x9 → Option amount_Shares_r9) : Option amount_Shares_r9 :=
 bif decide (x1.2.2.2.2.1 < x1.2.2.2.1) then
  Option.bind (idx x1.2.2.1 x1.2.2.2.2.1) fun y2 =>
  again (x1.1, w64 (x1.2.1 + y2), x1.2.2.1, x1.2.2.2.1, w64 (x1.2.2.2.2.1 + 1), x1.2.2.2.2.2.1, x1.2.2.2.2.2.2.1, ())
 else
  some (Sum.inr (x1.1, x1.2.1, x1.2.2.2.2.2.1, x1.2.2.2.2.2.2.1, ()))

abbrev amount_Shares_x17 : Type := Int × Int × Int × (List D_amount_share) × (List Int) × Int × Int × Int × Int × Unit
abbrev amount_Shares_r17 : Type := (((List D_api_Decimal) × Int × Unit) ⊕ (Int × (List D_amount_share) × Int × Int × Unit))
def amount_Shares_b17  (x1 : amount_Shares_x17) (again : amount_Shares_x17 → Option amount_Shares_r17) : Option amount_Shares_r17 :=
 bif decide (x1.2.2.2.2.2.2.1 < x1.2.2.2.2.2.1) then
  Option.bind (idx x1.2.2.2.2.1 x1.2.2.2.2.2.2.1) fun y2 =>
  Option.bind (whole_Of x1.2.1) fun r3 =>
  Option.bind (whole_Of y2) fun r4 =>
  Option.bind (whole_Int_Times r3.1 r4.1) fun r5 =>
  Option.bind (whole_Of x1.1) fun r6 =>
  Option.bind (whole_Int_By r5.1 r6.1) fun r7 =>
  Option.bind (whole_Int_Int r7.1 1000000000000000) fun r8 =>
  chk (decide (((List.length x1.2.2.2.1) + 1) * 48 ≤ 140737488355328) && decide ((List.length x1.2.2.2.1) + 1 ≤ maxLen)) <|
  again (x1.1, x1.2.1, w64 (x1.2.2.1 - r8.1), x1.2.2.2.1 ++ [(x1.2.2.2.2.2.2.1, r8.1, r7.2.1)], x1.2.2.2.2.1, x1.2.2.2.2.2.1, w64 (x1.2.2.2.2.2.2.1 + 1), x1.2.2.2.2.2.2.2.1, x1.2.2.2.2.2.2.2.2.1, ())
 else
  some (Sum.inr (x1.2.2.1, x1.2.2.2.1, x1.2.2.2.2.2.2.2.1, x1.2.2.2.2.2.2.2.2.1, ()))

abbrev amount_Shares_x27 : Type := Int × (List D_amount_share) × Int × Int × Int × Int × (List D_api_Decimal) × Unit
abbrev amount_Shares_r27 : Type := (((List D_api_Decimal) × Int × Unit) ⊕ ((List D_api_Decimal) × Unit))
def amount_Shares_b27  (x1 : amount_Shares_x27) (again : amount_Shares_x27 → Option amount_Shares_r27) : Option amount_Shares_r27 :=
 bif decide (x1.2.2.2.1 < x1.2.2.1) then
  chk (decide (0 ≤ x1.2.2.2.1) && decide (x1.2.2.2.1 < (List.length x1.2.1 : Int))) <|
  Option.bind (x1.2.1[x1.2.2.2.1.toNat]?) fun y2 =>
  joinB (β := (((List D_api_Decimal) × Int × Unit) ⊕ ((List D_api_Decimal) × Unit))) (γ := (Int × (List D_amount_share) × Int × Int × Int × Int × Int × Int × Bool × (List Int) × (List D_api_Decimal) × Unit)) (
   bif decide (x1.2.2.2.1 < x1.1) then
    some (Sum.inr (x1.1, x1.2.1, x1.2.2.1, x1.2.2.2.1, x1.2.2.2.2.1, x1.2.2.2.2.2.1, y2.1, w64 (y2.2.1 + 1), y2.2.2.1, y2.2.2.2, x1.2.2.2.2.2.2.1, ()))
   else
    some (Sum.inr (x1.1, x1.2.1, x1.2.2.1, x1.2.2.2.1, x1.2.2.2.2.1, x1.2.2.2.2.2.1, y2.1, y2.2.1, y2.2.2.1, y2.2.2.2, x1.2.2.2.2.2.2.1, ()))) fun v3 =>
  joinB (β := (((List D_api_Decimal) × Int × Unit) ⊕ ((List D_api_Decimal) × Unit))) (γ := (Int × (List D_amount_share) × Int × Int × Int × Int × Int × Int × Bool × (List Int) × (List D_api_Decimal) × Unit)) (
   bif decide (v3.2.2.2.2.1 < 0) then
    some (Sum.inr (v3.1, v3.2.1, v3.2.2.1, v3.2.2.2.1, v3.2.2.2.2.1, v3.2.2.2.2.2.1, v3.2.2.2.2.2.2.1, w64 (0 - v3.2.2.2.2.2.2.2.1), v3.2.2.2.2.2.2.2.2.1, v3.2.2.2.2.2.2.2.2.2.1, v3.2.2.2.2.2.2.2.2.2.2.1, ()))
   else
    some (Sum.inr (v3.1, v3.2.1, v3.2.2.1, v3.2.2.2.1, v3.2.2.2.2.1, v3.2.2.2.2.2.1, v3.2.2.2.2.2.2.1, v3.2.2.2.2.2.2.2.1, v3.2.2.2.2.2.2.2.2.1, v3.2.2.2.2.2.2.2.2.2.1, v3.2.2.2.2.2.2.2.2.2.2.1, ()))) fun v4 =>
  chk (decide (0 ≤ v4.2.2.2.2.2.2.1) && decide (v4.2.2.2.2.2.2.1 < (List.length v4.2.2.2.2.2.2.2.2.2.2.1 : Int))) <|
  Option.bind (v4.2.2.2.2.2.2.2.2.2.2.1[v4.2.2.2.2.2.2.1.toNat]?) fun _ =>
  again (v4.1, v4.2.1, v4.2.2.1, w64 (v4.2.2.2.1 + 1), v4.2.2.2.2.1, v4.2.2.2.2.2.1, List.set v4.2.2.2.2.2.2.2.2.2.2.1 v4.2.2.2.2.2.2.1.toNat (v4.2.2.2.2.2.2.2.1, v4.2.2.2.2.2.1), ())
 else
  some (Sum.inr (x1.2.2.2.2.2.2.1, ()))

def amount_Shares (a0 : D_api_Decimal) (a1 : List Int) : Option ((List D_api_Decimal) × Int × Unit) :=
 Option.bind (amount_CheckDecimal a0) fun r1 =>
 bif r1.1 != 0 then
  some ([], r1.1, ())
 else
  Option.bind (amount_weightsFault a1) fun r2 =>
  bif r2.1 != 0 then
   some ([], r2.1, ())
  else
   joinB (β := ((List D_api_Decimal) × Int × Unit)) (γ := ((List Int) × Int × Int × Int × Unit)) (
    iter (X := amount_Shares_x9) (β := amount_Shares_r9) (List.length a1 + (Int.natAbs (0 : Int) + (List.length a1 + (Int.natAbs ((List.length a1 : Int)) + (Int.natAbs (0 : Int) + (Int.natAbs a0.1 + (Int.natAbs a0.2 + 2))))))) (a1, 0, a1, (List.length a1 : Int), 0, a0.1, a0.2, ()) (amount_Shares_b9)) fun v5 =>
   joinB (β := ((List D_api_Decimal) × Int × Unit)) (γ := (Int × (List D_amount_share) × Int × Int × Unit)) (
    iter (X := amount_Shares_x17) (β := amount_Shares_r17) (Int.natAbs v5.2.1 + (Int.natAbs (if (w64 (0 - v5.2.2.1)) > v5.2.2.1 then (w64 (0 - v5.2.2.1)) else v5.2.2.1) + (Int.natAbs (if (w64 (0 - v5.2.2.1)) > v5.2.2.1 then (w64 (0 - v5.2.2.1)) else v5.2.2.1) + (List.length ([] : List D_amount_share) + (List.length v5.1 + (Int.natAbs ((List.length v5.1 : Int)) + (Int.natAbs (0 : Int) + (Int.natAbs v5.2.2.1 + (Int.natAbs v5.2.2.2.1 + 2))))))))) (v5.2.1, if (w64 (0 - v5.2.2.1)) > v5.2.2.1 then (w64 (0 - v5.2.2.1)) else v5.2.2.1, if (w64 (0 - v5.2.2.1)) > v5.2.2.1 then (w64 (0 - v5.2.2.1)) else v5.2.2.1, [], v5.1, (List.length v5.1 : Int), 0, v5.2.2.1, v5.2.2.2.1, ()) (amount_Shares_b17)) fun v14 =>
   Option.bind (slices_SortStableFunc_amount_share v14.2.1 ()) fun r15 =>
   chk (decide (0 ≤ ((List.length r15.1 : Int))) && decide (((List.length r15.1 : Int)) ≤ ((List.length r15.1 : Int))) && decide ((16 : Int) * ((List.length r15.1 : Int)) ≤ 281474976710656) && decide (((List.length r15.1 : Int)) ≤ 9223372036854775807)) <|
   joinB (β := ((List D_api_Decimal) × Int × Unit)) (γ := ((List D_api_Decimal) × Unit)) (
    iter (X := amount_Shares_x27) (β := amount_Shares_r27) (Int.natAbs v14.1 + (List.length r15.1 + (Int.natAbs ((List.length r15.1 : Int)) + (Int.natAbs (0 : Int) + (Int.natAbs v14.2.2.1 + (Int.natAbs v14.2.2.2.1 + (List.length ((List.replicate (Int.toNat ((List.length r15.1 : Int))) (0, 0) : List (D_api_Decimal)) : List D_api_Decimal) + 2))))))) (v14.1, r15.1, (List.length r15.1 : Int), 0, v14.2.2.1, v14.2.2.2.1, (List.replicate (Int.toNat ((List.length r15.1 : Int))) (0, 0) : List (D_api_Decimal)), ()) (amount_Shares_b27)) fun v21 =>
   some (v21.1, 0, ())

abbrev bill_sheet_divide_x4 : Type := (List Int) × Bool × (List D_whole_Int) × Int × Int × Bool × (List Int) × (List UInt8) × (List UInt8) × Int × Int × Int × Bool × (List D_api_Rate) × (List D_api_BillLine) × (List D_api_Extra) × (List D_whole_Int) × (List D_whole_Int) × (List D_whole_Int) × (List D_bill_share) × (List D_whole_Int) × (List Bool) × (List D_whole_Int) × Unit
abbrev bill_sheet_divide_r4 : Type := ((Int × (D_api_Invoice × (List D_whole_Int) × (List D_whole_Int) × (List D_whole_Int) × (List D_bill_share) × (List D_whole_Int) × (List Bool) × (List D_whole_Int) × Unit) × Unit) ⊕ ((List Int) × Bool × Bool × (List Int) × (List UInt8) × (List UInt8) × Int × Int × Int × Bool × (List D_api_Rate) × (List D_api_BillLine) × (List D_api_Extra) × (List D_whole_Int) × (List D_whole_Int) × (List D_whole_Int) × (List D_bill_share) × (List D_whole_Int) × (List Bool) × (List D_whole_Int) × Unit))
def bill_sheet_divide_b4  (x1 : bill_sheet_divide_x4) (again : bill_sheet_divide_x4 → Option bill_sheet_divide_r4) : Option bill_sheet_divide_r4 :=
 bif decide (x1.2.2.2.2.1 < x1.2.2.2.1) then
  Option.bind (idx x1.2.2.1 x1.2.2.2.2.1) fun y2 =>
  Option.bind (whole_Int_Abs y2) fun r3 =>
  Option.bind (whole_Int_Int r3.1 1000000000000000) fun r4 =>
  chk (decide (((List.length x1.1) + 1) * 8 ≤ 140737488355328) && decide ((List.length x1.1) + 1 ≤ maxLen)) <|
  bif x1.2.1 then
   again (x1.1 ++ [r4.1], true, x1.2.2.1, x1.2.2.2.1, w64 (x1.2.2.2.2.1 + 1), x1.2.2.2.2.2.1, x1.2.2.2.2.2.2.1, x1.2.2.2.2.2.2.2.1, x1.2.2.2.2.2.2.2.2.1, x1.2.2.2.2.2.2.2.2.2.1, x1.2.2.2.2.2.2.2.2.2.2.1, x1.2.2.2.2.2.2.2.2.2.2.2.1, x1.2.2.2.2.2.2.2.2.2.2.2.2.1, x1.2.2.2.2.2.2.2.2.2.2.2.2.2.1, x1.2.2.2.2.2.2.2.2.2.2.2.2.2.2.1, x1.2.2.2.2.2.2.2.2.2.2.2.2.2.2.2.1, x1.2.2.2.2.2.2.2.2.2.2.2.2.2.2.2.2.1, x1.2.2.2.2.2.2.2.2.2.2.2.2.2.2.2.2.2.1, x1.2.2.2.2.2.2.2.2.2.2.2.2.2.2.2.2.2.2.1, x1.2.2.2.2.2.2.2.2.2.2.2.2.2.2.2.2.2.2.2.1, x1.2.2.2.2.2.2.2.2.2.2.2.2.2.2.2.2.2.2.2.2.1, x1.2.2.2.2.2.2.2.2.2.2.2.2.2.2.2.2.2.2.2.2.2.1, x1.2.2.2.2.2.2.2.2.2.2.2.2.2.2.2.2.2.2.2.2.2.2.1, ())
  else
   again (x1.1 ++ [r4.1], decide (r4.1 > 0), x1.2.2.1, x1.2.2.2.1, w64 (x1.2.2.2.2.1 + 1), x1.2.2.2.2.2.1, x1.2.2.2.2.2.2.1, x1.2.2.2.2.2.2.2.1, x1.2.2.2.2.2.2.2.2.1, x1.2.2.2.2.2.2.2.2.2.1, x1.2.2.2.2.2.2.2.2.2.2.1, x1.2.2.2.2.2.2.2.2.2.2.2.1, x1.2.2.2.2.2.2.2.2.2.2.2.2.1, x1.2.2.2.2.2.2.2.2.2.2.2.2.2.1, x1.2.2.2.2.2.2.2.2.2.2.2.2.2.2.1, x1.2.2.2.2.2.2.2.2.2.2.2.2.2.2.2.1, x1.2.2.2.2.2.2.2.2.2.2.2.2.2.2.2.2.1, x1.2.2.2.2.2.2.2.2.2.2.2.2.2.2.2.2.2.1, x1.2.2.2.2.2.2.2.2.2.2.2.2.2.2.2.2.2.2.1, x1.2.2.2.2.2.2.2.2.2.2.2.2.2.2.2.2.2.2.2.1, x1.2.2.2.2.2.2.2.2.2.2.2.2.2.2.2.2.2.2.2.2.1, x1.2.2.2.2.2.2.2.2.2.2.2.2.2.2.2.2.2.2.2.2.2.1, x1.2.2.2.2.2.2.2.2.2.2.2.2.2.2.2.2.2.2.2.2.2.2.1, ())
 else
  some (Sum.inr (x1.1, x1.2.1, x1.2.2.2.2.2.1, x1.2.2.2.2.2.2.1, x1.2.2.2.2.2.2.2.1, x1.2.2.2.2.2.2.2.2.1, x1.2.2.2.2.2.2.2.2.2.1, x1.2.2.2.2.2.2.2.2.2.2.1, x1.2.2.2.2.2.2.2.2.2.2.2.1, x1.2.2.2.2.2.2.2.2.2.2.2.2.1, x1.2.2.2.2.2.2.2.2.2.2.2.2.2.1, x1.2.2.2.2.2.2.2.2.2.2.2.2.2.2.1, x1.2.2.2.2.2.2.2.2.2.2.2.2.2.2.2.1, x1.2.2.2.2.2.2.2.2.2.2.2.2.2.2.2.2.1, x1.2.2.2.2.2.2.2.2.2.2.2.2.2.2.2.2.2.1, x1.2.2.2.2.2.2.2.2.2.2.2.2.2.2.2.2.2.2.1, x1.2.2.2.2.2.2.2.2.2.2.2.2.2.2.2.2.2.2.2.1, x1.2.2.2.2.2.2.2.2.2.2.2.2.2.2.2.2.2.2.2.2.1, x1.2.2.2.2.2.2.2.2.2.2.2.2.2.2.2.2.2.2.2.2.2.1, x1.2.2.2.2.2.2.2.2.2.2.2.2.2.2.2.2.2.2.2.2.2.2.1, ()))

abbrev bill_sheet_divide_x21 : Type := (List D_api_Decimal) × Int × Int × (List UInt8) × (List UInt8) × Int × Int × Int × Bool × (List D_api_Rate) × (List D_api_BillLine) × (List D_api_Extra) × (List D_whole_Int) × (List D_whole_Int) × (List D_whole_Int) × (List D_bill_share) × (List D_whole_Int) × (List Bool) × (List D_whole_Int) × Unit
abbrev bill_sheet_divide_r21 : Type := ((Int × (D_api_Invoice × (List D_whole_Int) × (List D_whole_Int) × (List D_whole_Int) × (List D_bill_share) × (List D_whole_Int) × (List Bool) × (List D_whole_Int) × Unit) × Unit) ⊕ ((List UInt8) × (List UInt8) × Int × Int × Int × Bool × (List D_api_Rate) × (List D_api_BillLine) × (List D_api_Extra) × (List D_whole_Int) × (List D_whole_Int) × (List D_whole_Int) × (List D_bill_share) × (List D_whole_Int) × (List Bool) × (List D_whole_Int) × Unit))
def bill_sheet_divide_b21  (x1 : bill_sheet_divide_x21) (again : bill_sheet_divide_x21 → Option bill_sheet_divide_r21) : Option bill_sheet_divide_r21 :=
 bif decide (x1.2.2.1 < x1.2.1) then
  Option.bind (idx x1.1 x1.2.2.1) fun y2 =>
  bif y2.1 != 0 then
   Option.bind (whole_Of y2.1) fun r3 =>
   Option.bind (bill_sheet_bring ((x1.2.2.2.1, x1.2.2.2.2.1, x1.2.2.2.2.2.1, x1.2.2.2.2.2.2.1, x1.2.2.2.2.2.2.2.1, x1.2.2.2.2.2.2.2.2.1, x1.2.2.2.2.2.2.2.2.2.1, x1.2.2.2.2.2.2.2.2.2.2.1, x1.2.2.2.2.2.2.2.2.2.2.2.1), x1.2.2.2.2.2.2.2.2.2.2.2.2.1, x1.2.2.2.2.2.2.2.2.2.2.2.2.2.1, x1.2.2.2.2.2.2.2.2.2.2.2.2.2.2.1, x1.2.2.2.2.2.2.2.2.2.2.2.2.2.2.2.1, x1.2.2.2.2.2.2.2.2.2.2.2.2.2.2.2.2.1, x1.2.2.2.2.2.2.2.2.2.2.2.2.2.2.2.2.2.1, x1.2.2.2.2.2.2.2.2.2.2.2.2.2.2.2.2.2.2.1, ()) x1.2.2.1 r3.1) fun r4 =>
   chk (decide (0 ≤ x1.2.2.1) && decide (x1.2.2.1 < (List.length r4.1.2.2.2.2.2.2.1 : Int))) <|
   Option.bind (r4.1.2.2.2.2.2.2.1[x1.2.2.1.toNat]?) fun _ =>
   again (x1.1, x1.2.1, w64 (x1.2.2.1 + 1), r4.1.1.1, r4.1.1.2.1, r4.1.1.2.2.1, r4.1.1.2.2.2.1, r4.1.1.2.2.2.2.1, r4.1.1.2.2.2.2.2.1, r4.1.1.2.2.2.2.2.2.1, r4.1.1.2.2.2.2.2.2.2.1, r4.1.1.2.2.2.2.2.2.2.2, r4.1.2.1, r4.1.2.2.1, r4.1.2.2.2.1, r4.1.2.2.2.2.1, r4.1.2.2.2.2.2.1, List.set r4.1.2.2.2.2.2.2.1 x1.2.2.1.toNat true, r4.1.2.2.2.2.2.2.2.1, ())
  else
   again (x1.1, x1.2.1, w64 (x1.2.2.1 + 1), x1.2.2.2.1, x1.2.2.2.2.1, x1.2.2.2.2.2.1, x1.2.2.2.2.2.2.1, x1.2.2.2.2.2.2.2.1, x1.2.2.2.2.2.2.2.2.1, x1.2.2.2.2.2.2.2.2.2.1, x1.2.2.2.2.2.2.2.2.2.2.1, x1.2.2.2.2.2.2.2.2.2.2.2.1, x1.2.2.2.2.2.2.2.2.2.2.2.2.1, x1.2.2.2.2.2.2.2.2.2.2.2.2.2.1, x1.2.2.2.2.2.2.2.2.2.2.2.2.2.2.1, x1.2.2.2.2.2.2.2.2.2.2.2.2.2.2.2.1, x1.2.2.2.2.2.2.2.2.2.2.2.2.2.2.2.2.1, x1.2.2.2.2.2.2.2.2.2.2.2.2.2.2.2.2.2.1, x1.2.2.2.2.2.2.2.2.2.2.2.2.2.2.2.2.2.2.1, ())
 else
  some (Sum.inr (x1.2.2.2.1, x1.2.2.2.2.1, x1.2.2.2.2.2.1, x1.2.2.2.2.2.2.1, x1.2.2.2.2.2.2.2.1, x1.2.2.2.2.2.2.2.2.1, x1.2.2.2.2.2.2.2.2.2.1, x1.2.2.2.2.2.2.2.2.2.2.1, x1.2.2.2.2.2.2.2.2.2.2.2.1, x1.2.2.2.2.2.2.2.2.2.2.2.2.1, x1.2.2.2.2.2.2.2.2.2.2.2.2.2.1, x1.2.2.2.2.2.2.2.2.2.2.2.2.2.2.1, x1.2.2.2.2.2.2.2.2.2.2.2.2.2.2.2.1, x1.2.2.2.2.2.2.2.2.2.2.2.2.2.2.2.2.1, x1.2.2.2.2.2.2.2.2.2.2.2.2.2.2.2.2.2.1, x1.2.2.2.2.2.2.2.2.2.2.2.2.2.2.2.2.2.2.1, ()))

def bill_sheet_divide (a0 : D_api_Invoice × (List D_whole_Int) × (List D_whole_Int) × (List D_whole_Int) × (List D_bill_share) × (List D_whole_Int) × (List Bool) × (List D_whole_Int) × Unit) (a1 : D_whole_Int) : Option (Int × (D_api_Invoice × (List D_whole_Int) × (List D_whole_Int) × (List D_whole_Int) × (List D_bill_share) × (List D_whole_Int) × (List Bool) × (List D_whole_Int) × Unit) × Unit) :=
 joinB (β := (Int × (D_api_Invoice × (List D_whole_Int) × (List D_whole_Int) × (List D_whole_Int) × (List D_bill_share) × (List D_whole_Int) × (List Bool) × (List D_whole_Int) × Unit) × Unit)) (γ := ((List Int) × Bool × Bool × (List Int) × (List UInt8) × (List UInt8) × Int × Int × Int × Bool × (List D_api_Rate) × (List D_api_BillLine) × (List D_api_Extra) × (List D_whole_Int) × (List D_whole_Int) × (List D_whole_Int) × (List D_bill_share) × (List D_whole_Int) × (List Bool) × (List D_whole_Int) × Unit)) (
  iter (X := bill_sheet_divide_x4) (β := bill_sheet_divide_r4) (List.length ([] : List Int) + (List.length a0.2.2.1 + (Int.natAbs ((List.length a0.2.2.1 : Int)) + (Int.natAbs (0 : Int) + (List.length a1.2 + (List.length a0.1.1 + (List.length a0.1.2.1 + (Int.natAbs a0.1.2.2.1 + (Int.natAbs a0.1.2.2.2.1 + (Int.natAbs a0.1.2.2.2.2.1 + (List.length a0.1.2.2.2.2.2.2.1 + (List.length a0.1.2.2.2.2.2.2.2.1 + (List.length a0.1.2.2.2.2.2.2.2.2 + (List.length a0.2.2.1 + (List.length a0.2.1 + (List.length a0.2.2.2.1 + (List.length a0.2.2.2.2.1 + (List.length a0.2.2.2.2.2.1 + (List.length a0.2.2.2.2.2.2.1 + (List.length a0.2.2.2.2.2.2.2.1 + 2)))))))))))))))))))) ([], false, a0.2.2.1, (List.length a0.2.2.1 : Int), 0, a1.1, a1.2, a0.1.1, a0.1.2.1, a0.1.2.2.1, a0.1.2.2.2.1, a0.1.2.2.2.2.1, a0.1.2.2.2.2.2.1, a0.1.2.2.2.2.2.2.1, a0.1.2.2.2.2.2.2.2.1, a0.1.2.2.2.2.2.2.2.2, a0.2.2.1, a0.2.1, a0.2.2.2.1, a0.2.2.2.2.1, a0.2.2.2.2.2.1, a0.2.2.2.2.2.2.1, a0.2.2.2.2.2.2.2.1, ()) (bill_sheet_divide_b4)) fun v5 =>
 bif !v5.2.1 then
  Option.bind (bill_sheet_bring ((v5.2.2.2.2.1, v5.2.2.2.2.2.1, v5.2.2.2.2.2.2.1, v5.2.2.2.2.2.2.2.1, v5.2.2.2.2.2.2.2.2.1, v5.2.2.2.2.2.2.2.2.2.1, v5.2.2.2.2.2.2.2.2.2.2.1, v5.2.2.2.2.2.2.2.2.2.2.2.1, v5.2.2.2.2.2.2.2.2.2.2.2.2.1), v5.2.2.2.2.2.2.2.2.2.2.2.2.2.2.1, v5.2.2.2.2.2.2.2.2.2.2.2.2.2.1, v5.2.2.2.2.2.2.2.2.2.2.2.2.2.2.2.1, v5.2.2.2.2.2.2.2.2.2.2.2.2.2.2.2.2.1, v5.2.2.2.2.2.2.2.2.2.2.2.2.2.2.2.2.2.1, v5.2.2.2.2.2.2.2.2.2.2.2.2.2.2.2.2.2.2.1, v5.2.2.2.2.2.2.2.2.2.2.2.2.2.2.2.2.2.2.2.1, ()) 0 (v5.2.2.1, v5.2.2.2.1)) fun r6 =>
  chk (decide (0 ≤ (0 : Int)) && decide ((0 : Int) < (List.length r6.1.2.2.2.2.2.2.1 : Int))) <|
  Option.bind (r6.1.2.2.2.2.2.2.1[0]?) fun y7 =>
  bif y7 then
   chk (decide (0 ≤ (0 : Int)) && decide ((0 : Int) < (List.length r6.1.2.2.2.2.2.2.1 : Int))) <|
   Option.bind (r6.1.2.2.2.2.2.2.1[0]?) fun _ =>
   some (0, (r6.1.1, r6.1.2.1, r6.1.2.2.1, r6.1.2.2.2.1, r6.1.2.2.2.2.1, r6.1.2.2.2.2.2.1, List.set r6.1.2.2.2.2.2.2.1 0 true, r6.1.2.2.2.2.2.2.2.1, ()), ())
  else
   Option.bind (whole_Int_Sign (v5.2.2.1, v5.2.2.2.1)) fun r9 =>
   chk (decide (0 ≤ (0 : Int)) && decide ((0 : Int) < (List.length r6.1.2.2.2.2.2.2.1 : Int))) <|
   Option.bind (r6.1.2.2.2.2.2.2.1[0]?) fun _ =>
   some (0, (r6.1.1, r6.1.2.1, r6.1.2.2.1, r6.1.2.2.2.1, r6.1.2.2.2.2.1, r6.1.2.2.2.2.2.1, List.set r6.1.2.2.2.2.2.2.1 0 (r9.1 != 0), r6.1.2.2.2.2.2.2.2.1, ()), ())
 else
  Option.bind (slices_ContainsFunc_int v5.1 ()) fun r11 =>
  bif r11.1 then
   some (2, ((v5.2.2.2.2.1, v5.2.2.2.2.2.1, v5.2.2.2.2.2.2.1, v5.2.2.2.2.2.2.2.1, v5.2.2.2.2.2.2.2.2.1, v5.2.2.2.2.2.2.2.2.2.1, v5.2.2.2.2.2.2.2.2.2.2.1, v5.2.2.2.2.2.2.2.2.2.2.2.1, v5.2.2.2.2.2.2.2.2.2.2.2.2.1), v5.2.2.2.2.2.2.2.2.2.2.2.2.2.2.1, v5.2.2.2.2.2.2.2.2.2.2.2.2.2.1, v5.2.2.2.2.2.2.2.2.2.2.2.2.2.2.2.1, v5.2.2.2.2.2.2.2.2.2.2.2.2.2.2.2.2.1, v5.2.2.2.2.2.2.2.2.2.2.2.2.2.2.2.2.2.1, v5.2.2.2.2.2.2.2.2.2.2.2.2.2.2.2.2.2.2.1, v5.2.2.2.2.2.2.2.2.2.2.2.2.2.2.2.2.2.2.2.1, ()), ())
  else
   Option.bind (amount_Made (v5.2.2.1, v5.2.2.2.1) v5.2.2.2.2.2.2.2.1) fun r12 =>
   Option.bind (amount_Shares r12.1 v5.1) fun r13 =>
   bif r13.2.1 != 0 then
    some (r13.2.1, ((v5.2.2.2.2.1, v5.2.2.2.2.2.1, v5.2.2.2.2.2.2.1, v5.2.2.2.2.2.2.2.1, v5.2.2.2.2.2.2.2.2.1, v5.2.2.2.2.2.2.2.2.2.1, v5.2.2.2.2.2.2.2.2.2.2.1, v5.2.2.2.2.2.2.2.2.2.2.2.1, v5.2.2.2.2.2.2.2.2.2.2.2.2.1), v5.2.2.2.2.2.2.2.2.2.2.2.2.2.2.1, v5.2.2.2.2.2.2.2.2.2.2.2.2.2.1, v5.2.2.2.2.2.2.2.2.2.2.2.2.2.2.2.1, v5.2.2.2.2.2.2.2.2.2.2.2.2.2.2.2.2.1, v5.2.2.2.2.2.2.2.2.2.2.2.2.2.2.2.2.2.1, v5.2.2.2.2.2.2.2.2.2.2.2.2.2.2.2.2.2.2.1, v5.2.2.2.2.2.2.2.2.2.2.2.2.2.2.2.2.2.2.2.1, ()), ())
   else
    joinB (β := (Int × (D_api_Invoice × (List D_whole_Int) × (List D_whole_Int) × (List D_whole_Int) × (List D_bill_share) × (List D_whole_Int) × (List Bool) × (List D_whole_Int) × Unit) × Unit)) (γ := ((List UInt8) × (List UInt8) × Int × Int × Int × Bool × (List D_api_Rate) × (List D_api_BillLine) × (List D_api_Extra) × (List D_whole_Int) × (List D_whole_Int) × (List D_whole_Int) × (List D_bill_share) × (List D_whole_Int) × (List Bool) × (List D_whole_Int) × Unit)) (
     iter (X := bill_sheet_divide_x21) (β := bill_sheet_divide_r21) (List.length r13.1 + (Int.natAbs ((List.length r13.1 : Int)) + (Int.natAbs (0 : Int) + (List.length v5.2.2.2.2.1 + (List.length v5.2.2.2.2.2.1 + (Int.natAbs v5.2.2.2.2.2.2.1 + (Int.natAbs v5.2.2.2.2.2.2.2.1 + (Int.natAbs v5.2.2.2.2.2.2.2.2.1 + (List.length v5.2.2.2.2.2.2.2.2.2.2.1 + (List.length v5.2.2.2.2.2.2.2.2.2.2.2.1 + (List.length v5.2.2.2.2.2.2.2.2.2.2.2.2.1 + (List.length v5.2.2.2.2.2.2.2.2.2.2.2.2.2.2.1 + (List.length v5.2.2.2.2.2.2.2.2.2.2.2.2.2.1 + (List.length v5.2.2.2.2.2.2.2.2.2.2.2.2.2.2.2.1 + (List.length v5.2.2.2.2.2.2.2.2.2.2.2.2.2.2.2.2.1 + (List.length v5.2.2.2.2.2.2.2.2.2.2.2.2.2.2.2.2.2.1 + (List.length v5.2.2.2.2.2.2.2.2.2.2.2.2.2.2.2.2.2.2.1 + (List.length v5.2.2.2.2.2.2.2.2.2.2.2.2.2.2.2.2.2.2.2.1 + 2)))))))))))))))))) (r13.1, (List.length r13.1 : Int), 0, v5.2.2.2.2.1, v5.2.2.2.2.2.1, v5.2.2.2.2.2.2.1, v5.2.2.2.2.2.2.2.1, v5.2.2.2.2.2.2.2.2.1, v5.2.2.2.2.2.2.2.2.2.1, v5.2.2.2.2.2.2.2.2.2.2.1, v5.2.2.2.2.2.2.2.2.2.2.2.1, v5.2.2.2.2.2.2.2.2.2.2.2.2.1, v5.2.2.2.2.2.2.2.2.2.2.2.2.2.2.1, v5.2.2.2.2.2.2.2.2.2.2.2.2.2.1, v5.2.2.2.2.2.2.2.2.2.2.2.2.2.2.2.1, v5.2.2.2.2.2.2.2.2.2.2.2.2.2.2.2.2.1, v5.2.2.2.2.2.2.2.2.2.2.2.2.2.2.2.2.2.1, v5.2.2.2.2.2.2.2.2.2.2.2.2.2.2.2.2.2.2.1, v5.2.2.2.2.2.2.2.2.2.2.2.2.2.2.2.2.2.2.2.1, ()) (bill_sheet_divide_b21)) fun v19 =>
    some (0, ((v19.1, v19.2.1, v19.2.2.1, v19.2.2.2.1, v19.2.2.2.2.1, v19.2.2.2.2.2.1, v19.2.2.2.2.2.2.1, v19.2.2.2.2.2.2.2.1, v19.2.2.2.2.2.2.2.2.1), v19.2.2.2.2.2.2.2.2.2.1, v19.2.2.2.2.2.2.2.2.2.2.1, v19.2.2.2.2.2.2.2.2.2.2.2.1, v19.2.2.2.2.2.2.2.2.2.2.2.2.1, v19.2.2.2.2.2.2.2.2.2.2.2.2.2.1, v19.2.2.2.2.2.2.2.2.2.2.2.2.2.2.1, v19.2.2.2.2.2.2.2.2.2.2.2.2.2.2.2.1, ()), ())

abbrev bill_sheet_extra_x6 : Type := Int × Bool × (List D_whole_Int) × Int × Int × Bool × Int × Int × (List UInt8) × Bool × (List Int) × (List UInt8) × (List UInt8) × Int × Int × Int × Bool × (List D_api_Rate) × (List D_api_BillLine) × (List D_api_Extra) × (List D_whole_Int) × (List D_whole_Int) × (List D_whole_Int) × (List D_bill_share) × (List D_whole_Int) × (List Bool) × (List D_whole_Int) × Unit
abbrev bill_sheet_extra_r6 : Type := (((Int × (D_api_Invoice × (List D_whole_Int) × (List D_whole_Int) × (List D_whole_Int) × (List D_bill_share) × (List D_whole_Int) × (List Bool) × (List D_whole_Int) × Unit) × Unit) ⊕ (Int × Bool × Bool × Int × Int × (List UInt8) × Bool × (List Int) × (List UInt8) × (List UInt8) × Int × Int × Int × Bool × (List D_api_Rate) × (List D_api_BillLine) × (List D_api_Extra) × (List D_whole_Int) × (List D_whole_Int) × (List D_whole_Int) × (List D_bill_share) × (List D_whole_Int) × (List Bool) × (List D_whole_Int) × Unit)) ⊕ (Int × Bool × Bool × Int × Int × (List UInt8) × Bool × (List Int) × (List UInt8) × (List UInt8) × Int × Int × Int × Bool × (List D_api_Rate) × (List D_api_BillLine) × (List D_api_Extra) × (List D_whole_Int) × (List D_whole_Int) × (List D_whole_Int) × (List D_bill_share) × (List D_whole_Int) × (List Bool) × (List D_whole_Int) × Unit))
def bill_sheet_extra_b6  (x1 : bill_sheet_extra_x6) (again : bill_sheet_extra_x6 → Option bill_sheet_extra_r6) : Option bill_sheet_extra_r6 :=
 bif decide (x1.2.2.2.2.1 < x1.2.2.2.1) then
  Option.bind (idx x1.2.2.1 x1.2.2.2.2.1) fun y2 =>
  Option.bind (whole_Int_Plus (x1.2.2.2.2.2.2.2.2.2.1, x1.2.2.2.2.2.2.2.2.2.2.1) y2) fun r3 =>
  again (x1.1, x1.2.1, x1.2.2.1, x1.2.2.2.1, w64 (x1.2.2.2.2.1 + 1), x1.2.2.2.2.2.1, x1.2.2.2.2.2.2.1, x1.2.2.2.2.2.2.2.1, x1.2.2.2.2.2.2.2.2.1, r3.1.1, r3.1.2, x1.2.2.2.2.2.2.2.2.2.2.2.1, x1.2.2.2.2.2.2.2.2.2.2.2.2.1, x1.2.2.2.2.2.2.2.2.2.2.2.2.2.1, x1.2.2.2.2.2.2.2.2.2.2.2.2.2.2.1, x1.2.2.2.2.2.2.2.2.2.2.2.2.2.2.2.1, x1.2.2.2.2.2.2.2.2.2.2.2.2.2.2.2.2.1, x1.2.2.2.2.2.2.2.2.2.2.2.2.2.2.2.2.2.1, x1.2.2.2.2.2.2.2.2.2.2.2.2.2.2.2.2.2.2.1, x1.2.2.2.2.2.2.2.2.2.2.2.2.2.2.2.2.2.2.2.1, x1.2.2.2.2.2.2.2.2.2.2.2.2.2.2.2.2.2.2.2.2.1, x1.2.2.2.2.2.2.2.2.2.2.2.2.2.2.2.2.2.2.2.2.2.1, x1.2.2.2.2.2.2.2.2.2.2.2.2.2.2.2.2.2.2.2.2.2.2.1, x1.2.2.2.2.2.2.2.2.2.2.2.2.2.2.2.2.2.2.2.2.2.2.2.1, x1.2.2.2.2.2.2.2.2.2.2.2.2.2.2.2.2.2.2.2.2.2.2.2.2.1, x1.2.2.2.2.2.2.2.2.2.2.2.2.2.2.2.2.2.2.2.2.2.2.2.2.2.1, x1.2.2.2.2.2.2.2.2.2.2.2.2.2.2.2.2.2.2.2.2.2.2.2.2.2.2.1, ())
 else
  some (Sum.inr (x1.1, x1.2.1, x1.2.2.2.2.2.1, x1.2.2.2.2.2.2.1, x1.2.2.2.2.2.2.2.1, x1.2.2.2.2.2.2.2.2.1, x1.2.2.2.2.2.2.2.2.2.1, x1.2.2.2.2.2.2.2.2.2.2.1, x1.2.2.2.2.2.2.2.2.2.2.2.1, x1.2.2.2.2.2.2.2.2.2.2.2.2.1, x1.2.2.2.2.2.2.2.2.2.2.2.2.2.1, x1.2.2.2.2.2.2.2.2.2.2.2.2.2.2.1, x1.2.2.2.2.2.2.2.2.2.2.2.2.2.2.2.1, x1.2.2.2.2.2.2.2.2.2.2.2.2.2.2.2.2.1, x1.2.2.2.2.2.2.2.2.2.2.2.2.2.2.2.2.2.1, x1.2.2.2.2.2.2.2.2.2.2.2.2.2.2.2.2.2.2.1, x1.2.2.2.2.2.2.2.2.2.2.2.2.2.2.2.2.2.2.2.1, x1.2.2.2.2.2.2.2.2.2.2.2.2.2.2.2.2.2.2.2.2.1, x1.2.2.2.2.2.2.2.2.2.2.2.2.2.2.2.2.2.2.2.2.2.1, x1.2.2.2.2.2.2.2.2.2.2.2.2.2.2.2.2.2.2.2.2.2.2.1, x1.2.2.2.2.2.2.2.2.2.2.2.2.2.2.2.2.2.2.2.2.2.2.2.1, x1.2.2.2.2.2.2.2.2.2.2.2.2.2.2.2.2.2.2.2.2.2.2.2.2.1, x1.2.2.2.2.2.2.2.2.2.2.2.2.2.2.2.2.2.2.2.2.2.2.2.2.2.1, x1.2.2.2.2.2.2.2.2.2.2.2.2.2.2.2.2.2.2.2.2.2.2.2.2.2.2.1, ()))

def bill_sheet_extra (a0 : D_api_Invoice × (List D_whole_Int) × (List D_whole_Int) × (List D_whole_Int) × (List D_bill_share) × (List D_whole_Int) × (List Bool) × (List D_whole_Int) × Unit) (a1 : D_api_Extra) : Option (Int × (D_api_Invoice × (List D_whole_Int) × (List D_whole_Int) × (List D_whole_Int) × (List D_bill_share) × (List D_whole_Int) × (List Bool) × (List D_whole_Int) × Unit) × Unit) :=
 Option.bind (whole_Of 0) fun r1 =>
 Option.bind (bill_rateAt a0.1.2.2.2.2.2.2.1 a1.2.2) fun r2 =>
 joinB (β := (Int × (D_api_Invoice × (List D_whole_Int) × (List D_whole_Int) × (List D_whole_Int) × (List D_bill_share) × (List D_whole_Int) × (List Bool) × (List D_whole_Int) × Unit) × Unit)) (γ := (Int × Bool × Bool × Int × Int × (List UInt8) × Bool × (List Int) × (List UInt8) × (List UInt8) × Int × Int × Int × Bool × (List D_api_Rate) × (List D_api_BillLine) × (List D_api_Extra) × (List D_whole_Int) × (List D_whole_Int) × (List D_whole_Int) × (List D_bill_share) × (List D_whole_Int) × (List Bool) × (List D_whole_Int) × Unit)) (
  bif r2.2.1 then
   Option.bind (idx a0.2.2.1 r2.1) fun y3 =>
   some (Sum.inr (r2.1, r2.2.1, a1.1, a1.2.1.1, a1.2.1.2, a1.2.2, y3.1, y3.2, a0.1.1, a0.1.2.1, a0.1.2.2.1, a0.1.2.2.2.1, a0.1.2.2.2.2.1, a0.1.2.2.2.2.2.1, a0.1.2.2.2.2.2.2.1, a0.1.2.2.2.2.2.2.2.1, a0.1.2.2.2.2.2.2.2.2, a0.2.2.1, a0.2.1, a0.2.2.2.1, a0.2.2.2.2.1, a0.2.2.2.2.2.1, a0.2.2.2.2.2.2.1, a0.2.2.2.2.2.2.2.1, ()))
  else
   joinB (β := ((Int × (D_api_Invoice × (List D_whole_Int) × (List D_whole_Int) × (List D_whole_Int) × (List D_bill_share) × (List D_whole_Int) × (List Bool) × (List D_whole_Int) × Unit) × Unit) ⊕ (Int × Bool × Bool × Int × Int × (List UInt8) × Bool × (List Int) × (List UInt8) × (List UInt8) × Int × Int × Int × Bool × (List D_api_Rate) × (List D_api_BillLine) × (List D_api_Extra) × (List D_whole_Int) × (List D_whole_Int) × (List D_whole_Int) × (List D_bill_share) × (List D_whole_Int) × (List Bool) × (List D_whole_Int) × Unit))) (γ := (Int × Bool × Bool × Int × Int × (List UInt8) × Bool × (List Int) × (List UInt8) × (List UInt8) × Int × Int × Int × Bool × (List D_api_Rate) × (List D_api_BillLine) × (List D_api_Extra) × (List D_whole_Int) × (List D_whole_Int) × (List D_whole_Int) × (List D_bill_share) × (List D_whole_Int) × (List Bool) × (List D_whole_Int) × Unit)) (
    iter (X := bill_sheet_extra_x6) (β := bill_sheet_extra_r6) (Int.natAbs r2.1 + (List.length a0.2.2.1 + (Int.natAbs ((List.length a0.2.2.1 : Int)) + (Int.natAbs (0 : Int) + (Int.natAbs a1.2.1.1 + (Int.natAbs a1.2.1.2 + (List.length a1.2.2 + (List.length r1.1.2 + (List.length a0.1.1 + (List.length a0.1.2.1 + (Int.natAbs a0.1.2.2.1 + (Int.natAbs a0.1.2.2.2.1 + (Int.natAbs a0.1.2.2.2.2.1 + (List.length a0.1.2.2.2.2.2.2.1 + (List.length a0.1.2.2.2.2.2.2.2.1 + (List.length a0.1.2.2.2.2.2.2.2.2 + (List.length a0.2.2.1 + (List.length a0.2.1 + (List.length a0.2.2.2.1 + (List.length a0.2.2.2.2.1 + (List.length a0.2.2.2.2.2.1 + (List.length a0.2.2.2.2.2.2.1 + (List.length a0.2.2.2.2.2.2.2.1 + 2))))))))))))))))))))))) (r2.1, r2.2.1, a0.2.2.1, (List.length a0.2.2.1 : Int), 0, a1.1, a1.2.1.1, a1.2.1.2, a1.2.2, r1.1.1, r1.1.2, a0.1.1, a0.1.2.1, a0.1.2.2.1, a0.1.2.2.2.1, a0.1.2.2.2.2.1, a0.1.2.2.2.2.2.1, a0.1.2.2.2.2.2.2.1, a0.1.2.2.2.2.2.2.2.1, a0.1.2.2.2.2.2.2.2.2, a0.2.2.1, a0.2.1, a0.2.2.2.1, a0.2.2.2.2.1, a0.2.2.2.2.2.1, a0.2.2.2.2.2.2.1, a0.2.2.2.2.2.2.2.1, ()) (bill_sheet_extra_b6)) fun v7 =>
   some (Sum.inr (v7.1, v7.2.1, v7.2.2.1, v7.2.2.2.1, v7.2.2.2.2.1, v7.2.2.2.2.2.1, v7.2.2.2.2.2.2.1, v7.2.2.2.2.2.2.2.1, v7.2.2.2.2.2.2.2.2.1, v7.2.2.2.2.2.2.2.2.2.1, v7.2.2.2.2.2.2.2.2.2.2.1, v7.2.2.2.2.2.2.2.2.2.2.2.1, v7.2.2.2.2.2.2.2.2.2.2.2.2.1, v7.2.2.2.2.2.2.2.2.2.2.2.2.2.1, v7.2.2.2.2.2.2.2.2.2.2.2.2.2.2.1, v7.2.2.2.2.2.2.2.2.2.2.2.2.2.2.2.1, v7.2.2.2.2.2.2.2.2.2.2.2.2.2.2.2.2.1, v7.2.2.2.2.2.2.2.2.2.2.2.2.2.2.2.2.2.1, v7.2.2.2.2.2.2.2.2.2.2.2.2.2.2.2.2.2.2.1, v7.2.2.2.2.2.2.2.2.2.2.2.2.2.2.2.2.2.2.2.1, v7.2.2.2.2.2.2.2.2.2.2.2.2.2.2.2.2.2.2.2.2.1, v7.2.2.2.2.2.2.2.2.2.2.2.2.2.2.2.2.2.2.2.2.2.1, v7.2.2.2.2.2.2.2.2.2.2.2.2.2.2.2.2.2.2.2.2.2.2.1, v7.2.2.2.2.2.2.2.2.2.2.2.2.2.2.2.2.2.2.2.2.2.2.2.1, ()))) fun v8 =>
 Option.bind (amount_Scaled (v8.2.2.2.1, v8.2.2.2.2.1) (if v8.2.2.2.2.1 > v8.2.2.2.2.2.2.2.2.2.2.2.1 then v8.2.2.2.2.1 else v8.2.2.2.2.2.2.2.2.2.2.2.1)) fun r9 =>
 joinB (β := (Int × (D_api_Invoice × (List D_whole_Int) × (List D_whole_Int) × (List D_whole_Int) × (List D_bill_share) × (List D_whole_Int) × (List Bool) × (List D_whole_Int) × Unit) × Unit)) (γ := (Int × Bool × Bool × (List Int) × (List UInt8) × (List UInt8) × Int × Int × Int × Bool × (List D_api_Rate) × (List D_api_BillLine) × (List D_api_Extra) × (List D_whole_Int) × (List D_whole_Int) × (List D_whole_Int) × (List D_bill_share) × (List D_whole_Int) × (List Bool) × (List D_whole_Int) × Unit)) (
  bif v8.2.2.1 then
   Option.bind (bill_part (v8.2.2.2.2.2.2.2.2.1, v8.2.2.2.2.2.2.2.2.2.1, v8.2.2.2.2.2.2.2.2.2.2.1, v8.2.2.2.2.2.2.2.2.2.2.2.1, v8.2.2.2.2.2.2.2.2.2.2.2.2.1, v8.2.2.2.2.2.2.2.2.2.2.2.2.2.1, v8.2.2.2.2.2.2.2.2.2.2.2.2.2.2.1, v8.2.2.2.2.2.2.2.2.2.2.2.2.2.2.2.1, v8.2.2.2.2.2.2.2.2.2.2.2.2.2.2.2.2.1) (v8.2.2.2.2.2.2.1, v8.2.2.2.2.2.2.2.1) (v8.2.2.2.1, v8.2.2.2.2.1)) fun r10 =>
   some (Sum.inr (v8.1, v8.2.1, r10.1.1, r10.1.2, v8.2.2.2.2.2.2.2.2.1, v8.2.2.2.2.2.2.2.2.2.1, v8.2.2.2.2.2.2.2.2.2.2.1, v8.2.2.2.2.2.2.2.2.2.2.2.1, v8.2.2.2.2.2.2.2.2.2.2.2.2.1, v8.2.2.2.2.2.2.2.2.2.2.2.2.2.1, v8.2.2.2.2.2.2.2.2.2.2.2.2.2.2.1, v8.2.2.2.2.2.2.2.2.2.2.2.2.2.2.2.1, v8.2.2.2.2.2.2.2.2.2.2.2.2.2.2.2.2.1, v8.2.2.2.2.2.2.2.2.2.2.2.2.2.2.2.2.2.1, v8.2.2.2.2.2.2.2.2.2.2.2.2.2.2.2.2.2.2.1, v8.2.2.2.2.2.2.2.2.2.2.2.2.2.2.2.2.2.2.2.1, v8.2.2.2.2.2.2.2.2.2.2.2.2.2.2.2.2.2.2.2.2.1, v8.2.2.2.2.2.2.2.2.2.2.2.2.2.2.2.2.2.2.2.2.2.1, v8.2.2.2.2.2.2.2.2.2.2.2.2.2.2.2.2.2.2.2.2.2.2.1, v8.2.2.2.2.2.2.2.2.2.2.2.2.2.2.2.2.2.2.2.2.2.2.2.1, ()))
  else
   some (Sum.inr (v8.1, v8.2.1, r9.1.1, r9.1.2, v8.2.2.2.2.2.2.2.2.1, v8.2.2.2.2.2.2.2.2.2.1, v8.2.2.2.2.2.2.2.2.2.2.1, v8.2.2.2.2.2.2.2.2.2.2.2.1, v8.2.2.2.2.2.2.2.2.2.2.2.2.1, v8.2.2.2.2.2.2.2.2.2.2.2.2.2.1, v8.2.2.2.2.2.2.2.2.2.2.2.2.2.2.1, v8.2.2.2.2.2.2.2.2.2.2.2.2.2.2.2.1, v8.2.2.2.2.2.2.2.2.2.2.2.2.2.2.2.2.1, v8.2.2.2.2.2.2.2.2.2.2.2.2.2.2.2.2.2.1, v8.2.2.2.2.2.2.2.2.2.2.2.2.2.2.2.2.2.2.1, v8.2.2.2.2.2.2.2.2.2.2.2.2.2.2.2.2.2.2.2.1, v8.2.2.2.2.2.2.2.2.2.2.2.2.2.2.2.2.2.2.2.2.1, v8.2.2.2.2.2.2.2.2.2.2.2.2.2.2.2.2.2.2.2.2.2.1, v8.2.2.2.2.2.2.2.2.2.2.2.2.2.2.2.2.2.2.2.2.2.2.1, v8.2.2.2.2.2.2.2.2.2.2.2.2.2.2.2.2.2.2.2.2.2.2.2.1, ()))) fun v11 =>
 Option.bind (bill_fits (v11.2.2.1, v11.2.2.2.1)) fun r12 =>
 bif !r12.1 then
  some (1, ((v11.2.2.2.2.1, v11.2.2.2.2.2.1, v11.2.2.2.2.2.2.1, v11.2.2.2.2.2.2.2.1, v11.2.2.2.2.2.2.2.2.1, v11.2.2.2.2.2.2.2.2.2.1, v11.2.2.2.2.2.2.2.2.2.2.1, v11.2.2.2.2.2.2.2.2.2.2.2.1, v11.2.2.2.2.2.2.2.2.2.2.2.2.1), v11.2.2.2.2.2.2.2.2.2.2.2.2.2.2.1, v11.2.2.2.2.2.2.2.2.2.2.2.2.2.1, v11.2.2.2.2.2.2.2.2.2.2.2.2.2.2.2.1, v11.2.2.2.2.2.2.2.2.2.2.2.2.2.2.2.2.1, v11.2.2.2.2.2.2.2.2.2.2.2.2.2.2.2.2.2.1, v11.2.2.2.2.2.2.2.2.2.2.2.2.2.2.2.2.2.2.1, v11.2.2.2.2.2.2.2.2.2.2.2.2.2.2.2.2.2.2.2.1, ()), ())
 else
  chk (decide (((List.length v11.2.2.2.2.2.2.2.2.2.2.2.2.2.2.2.2.2.1) + 1) * 32 ≤ 140737488355328) && decide ((List.length v11.2.2.2.2.2.2.2.2.2.2.2.2.2.2.2.2.2.1) + 1 ≤ maxLen)) <|
  bif v11.2.1 then
   Option.bind (bill_sheet_bring ((v11.2.2.2.2.1, v11.2.2.2.2.2.1, v11.2.2.2.2.2.2.1, v11.2.2.2.2.2.2.2.1, v11.2.2.2.2.2.2.2.2.1, v11.2.2.2.2.2.2.2.2.2.1, v11.2.2.2.2.2.2.2.2.2.2.1, v11.2.2.2.2.2.2.2.2.2.2.2.1, v11.2.2.2.2.2.2.2.2.2.2.2.2.1), v11.2.2.2.2.2.2.2.2.2.2.2.2.2.2.1, v11.2.2.2.2.2.2.2.2.2.2.2.2.2.1, v11.2.2.2.2.2.2.2.2.2.2.2.2.2.2.2.1, v11.2.2.2.2.2.2.2.2.2.2.2.2.2.2.2.2.1, v11.2.2.2.2.2.2.2.2.2.2.2.2.2.2.2.2.2.1 ++ [(v11.2.2.1, v11.2.2.2.1)], v11.2.2.2.2.2.2.2.2.2.2.2.2.2.2.2.2.2.2.1, v11.2.2.2.2.2.2.2.2.2.2.2.2.2.2.2.2.2.2.2.1, ()) v11.1 (v11.2.2.1, v11.2.2.2.1)) fun r13 =>
   chk (decide (0 ≤ v11.1) && decide (v11.1 < (List.length r13.1.2.2.2.2.2.2.1 : Int))) <|
   Option.bind (r13.1.2.2.2.2.2.2.1[v11.1.toNat]?) fun _ =>
   Option.bind (slices_ContainsFunc_whole_Int_b r13.1.2.2.2.1 ()) fun r15 =>
   bif r15.1 then
    some (1, (r13.1.1, r13.1.2.1, r13.1.2.2.1, r13.1.2.2.2.1, r13.1.2.2.2.2.1, r13.1.2.2.2.2.2.1, List.set r13.1.2.2.2.2.2.2.1 v11.1.toNat true, r13.1.2.2.2.2.2.2.2.1, ()), ())
   else
    some (0, (r13.1.1, r13.1.2.1, r13.1.2.2.1, r13.1.2.2.2.1, r13.1.2.2.2.2.1, r13.1.2.2.2.2.2.1, List.set r13.1.2.2.2.2.2.2.1 v11.1.toNat true, r13.1.2.2.2.2.2.2.2.1, ()), ())
  else
   Option.bind (bill_sheet_divide ((v11.2.2.2.2.1, v11.2.2.2.2.2.1, v11.2.2.2.2.2.2.1, v11.2.2.2.2.2.2.2.1, v11.2.2.2.2.2.2.2.2.1, v11.2.2.2.2.2.2.2.2.2.1, v11.2.2.2.2.2.2.2.2.2.2.1, v11.2.2.2.2.2.2.2.2.2.2.2.1, v11.2.2.2.2.2.2.2.2.2.2.2.2.1), v11.2.2.2.2.2.2.2.2.2.2.2.2.2.2.1, v11.2.2.2.2.2.2.2.2.2.2.2.2.2.1, v11.2.2.2.2.2.2.2.2.2.2.2.2.2.2.2.1, v11.2.2.2.2.2.2.2.2.2.2.2.2.2.2.2.2.1, v11.2.2.2.2.2.2.2.2.2.2.2.2.2.2.2.2.2.1 ++ [(v11.2.2.1, v11.2.2.2.1)], v11.2.2.2.2.2.2.2.2.2.2.2.2.2.2.2.2.2.2.1, v11.2.2.2.2.2.2.2.2.2.2.2.2.2.2.2.2.2.2.2.1, ()) (v11.2.2.1, v11.2.2.2.1)) fun r16 =>
   bif r16.1 != 0 then
    some (r16.1, (r16.2.1.1, r16.2.1.2.1, r16.2.1.2.2.1, r16.2.1.2.2.2.1, r16.2.1.2.2.2.2.1, r16.2.1.2.2.2.2.2.1, r16.2.1.2.2.2.2.2.2.1, r16.2.1.2.2.2.2.2.2.2.1, ()), ())
   else
    Option.bind (slices_ContainsFunc_whole_Int_b r16.2.1.2.2.2.1 ()) fun r17 =>
    bif r17.1 then
     some (1, (r16.2.1.1, r16.2.1.2.1, r16.2.1.2.2.1, r16.2.1.2.2.2.1, r16.2.1.2.2.2.2.1, r16.2.1.2.2.2.2.2.1, r16.2.1.2.2.2.2.2.2.1, r16.2.1.2.2.2.2.2.2.2.1, ()), ())
    else
     some (0, (r16.2.1.1, r16.2.1.2.1, r16.2.1.2.2.1, r16.2.1.2.2.2.1, r16.2.1.2.2.2.2.1, r16.2.1.2.2.2.2.2.1, r16.2.1.2.2.2.2.2.2.1, r16.2.1.2.2.2.2.2.2.2.1, ()), ())

abbrev bill_sheet_tax_x3 : Type := (List D_api_Rate) × Int × Int × (List UInt8) × (List UInt8) × Int × Int × Int × Bool × (List D_api_Rate) × (List D_api_BillLine) × (List D_api_Extra) × (List D_whole_Int) × (List D_whole_Int) × (List D_whole_Int) × (List D_whole_Int) × (List D_bill_share) × (List D_whole_Int) × (List Bool) × Unit
abbrev bill_sheet_tax_r3 : Type := ((Int × (D_api_Invoice × (List D_whole_Int) × (List D_whole_Int) × (List D_whole_Int) × (List D_bill_share) × (List D_whole_Int) × (List Bool) × (List D_whole_Int) × Unit) × Unit) ⊕ ((List UInt8) × (List UInt8) × Int × Int × Int × Bool × (List D_api_Rate) × (List D_api_BillLine) × (List D_api_Extra) × (List D_whole_Int) × (List D_whole_Int) × (List D_whole_Int) × (List D_whole_Int) × (List D_bill_share) × (List D_whole_Int) × (List Bool) × Unit))
def bill_sheet_tax_b3  (x1 : bill_sheet_tax_x3) (again : bill_sheet_tax_x3 → Option bill_sheet_tax_r3) : Option bill_sheet_tax_r3 :=
 bif decide (x1.2.2.1 < x1.2.1) then
  Option.bind (idx x1.1 x1.2.2.1) fun y2 =>
  bif !x1.2.2.2.2.2.2.2.2.1 then
   chk (decide (0 ≤ x1.2.2.1) && decide (x1.2.2.1 < (List.length x1.2.2.2.2.2.2.2.2.2.2.2.2.2.2.2.1 : Int))) <|
   Option.bind (x1.2.2.2.2.2.2.2.2.2.2.2.2.2.2.2.1[x1.2.2.1.toNat]?) fun y3 =>
   Option.bind (bill_part (x1.2.2.2.1, x1.2.2.2.2.1, x1.2.2.2.2.2.1, x1.2.2.2.2.2.2.1, x1.2.2.2.2.2.2.2.1, x1.2.2.2.2.2.2.2.2.1, x1.2.2.2.2.2.2.2.2.2.1, x1.2.2.2.2.2.2.2.2.2.2.1, x1.2.2.2.2.2.2.2.2.2.2.2.1) y3 y2.2) fun r4 =>
   chk (decide (0 ≤ x1.2.2.1) && decide (x1.2.2.1 < (List.length x1.2.2.2.2.2.2.2.2.2.2.2.2.2.1 : Int))) <|
   Option.bind (x1.2.2.2.2.2.2.2.2.2.2.2.2.2.1[x1.2.2.1.toNat]?) fun _ =>
   again (x1.1, x1.2.1, w64 (x1.2.2.1 + 1), x1.2.2.2.1, x1.2.2.2.2.1, x1.2.2.2.2.2.1, x1.2.2.2.2.2.2.1, x1.2.2.2.2.2.2.2.1, x1.2.2.2.2.2.2.2.2.1, x1.2.2.2.2.2.2.2.2.2.1, x1.2.2.2.2.2.2.2.2.2.2.1, x1.2.2.2.2.2.2.2.2.2.2.2.1, x1.2.2.2.2.2.2.2.2.2.2.2.2.1, List.set x1.2.2.2.2.2.2.2.2.2.2.2.2.2.1 x1.2.2.1.toNat r4.1, x1.2.2.2.2.2.2.2.2.2.2.2.2.2.2.1, x1.2.2.2.2.2.2.2.2.2.2.2.2.2.2.2.1, x1.2.2.2.2.2.2.2.2.2.2.2.2.2.2.2.2.1, x1.2.2.2.2.2.2.2.2.2.2.2.2.2.2.2.2.2.1, x1.2.2.2.2.2.2.2.2.2.2.2.2.2.2.2.2.2.2.1, ())
  else
   again (x1.1, x1.2.1, w64 (x1.2.2.1 + 1), x1.2.2.2.1, x1.2.2.2.2.1, x1.2.2.2.2.2.1, x1.2.2.2.2.2.2.1, x1.2.2.2.2.2.2.2.1, x1.2.2.2.2.2.2.2.2.1, x1.2.2.2.2.2.2.2.2.2.1, x1.2.2.2.2.2.2.2.2.2.2.1, x1.2.2.2.2.2.2.2.2.2.2.2.1, x1.2.2.2.2.2.2.2.2.2.2.2.2.1, x1.2.2.2.2.2.2.2.2.2.2.2.2.2.1, x1.2.2.2.2.2.2.2.2.2.2.2.2.2.2.1, x1.2.2.2.2.2.2.2.2.2.2.2.2.2.2.2.1, x1.2.2.2.2.2.2.2.2.2.2.2.2.2.2.2.2.1, x1.2.2.2.2.2.2.2.2.2.2.2.2.2.2.2.2.2.1, x1.2.2.2.2.2.2.2.2.2.2.2.2.2.2.2.2.2.2.1, ())
 else
  some (Sum.inr (x1.2.2.2.1, x1.2.2.2.2.1, x1.2.2.2.2.2.1, x1.2.2.2.2.2.2.1, x1.2.2.2.2.2.2.2.1, x1.2.2.2.2.2.2.2.2.1, x1.2.2.2.2.2.2.2.2.2.1, x1.2.2.2.2.2.2.2.2.2.2.1, x1.2.2.2.2.2.2.2.2.2.2.2.1, x1.2.2.2.2.2.2.2.2.2.2.2.2.1, x1.2.2.2.2.2.2.2.2.2.2.2.2.2.1, x1.2.2.2.2.2.2.2.2.2.2.2.2.2.2.1, x1.2.2.2.2.2.2.2.2.2.2.2.2.2.2.2.1, x1.2.2.2.2.2.2.2.2.2.2.2.2.2.2.2.2.1, x1.2.2.2.2.2.2.2.2.2.2.2.2.2.2.2.2.2.1, x1.2.2.2.2.2.2.2.2.2.2.2.2.2.2.2.2.2.2.1, ()))

abbrev bill_sheet_tax_x9 : Type := Int × Int × (List UInt8) × (List UInt8) × Int × Int × Int × Bool × (List D_api_Rate) × (List D_api_BillLine) × (List D_api_Extra) × (List D_whole_Int) × (List D_whole_Int) × (List D_whole_Int) × (List D_whole_Int) × (List D_bill_share) × (List D_whole_Int) × (List Bool) × Unit
abbrev bill_sheet_tax_r9 : Type := ((Int × (D_api_Invoice × (List D_whole_Int) × (List D_whole_Int) × (List D_whole_Int) × (List D_bill_share) × (List D_whole_Int) × (List Bool) × (List D_whole_Int) × Unit) × Unit) ⊕ ((List UInt8) × (List UInt8) × Int × Int × Int × Bool × (List D_api_Rate) × (List D_api_BillLine) × (List D_api_Extra) × (List D_whole_Int) × (List D_whole_Int) × (List D_whole_Int) × (List D_whole_Int) × (List D_bill_share) × (List D_whole_Int) × (List Bool) × Unit))
def bill_sheet_tax_b9  (x1 : bill_sheet_tax_x9) (again : bill_sheet_tax_x9 → Option bill_sheet_tax_r9) : Option bill_sheet_tax_r9 :=
 bif decide (x1.2.1 < x1.1) then
  chk (decide (0 ≤ x1.2.1) && decide (x1.2.1 < (List.length x1.2.2.2.2.2.2.2.2.2.2.2.2.2.2.2.1 : Int))) <|
  Option.bind (x1.2.2.2.2.2.2.2.2.2.2.2.2.2.2.2.1[x1.2.1.toNat]?) fun y2 =>
  bif x1.2.2.2.2.2.2.2.1 then
   chk (decide (0 ≤ y2.1) && decide (y2.1 < (List.length x1.2.2.2.2.2.2.2.2.2.2.2.2.1 : Int))) <|
   Option.bind (x1.2.2.2.2.2.2.2.2.2.2.2.2.1[y2.1.toNat]?) fun y3 =>
   Option.bind (idx x1.2.2.2.2.2.2.2.2.1 y2.1) fun y4 =>
   Option.bind (bill_part (x1.2.2.1, x1.2.2.2.1, x1.2.2.2.2.1, x1.2.2.2.2.2.1, x1.2.2.2.2.2.2.1, x1.2.2.2.2.2.2.2.1, x1.2.2.2.2.2.2.2.2.1, x1.2.2.2.2.2.2.2.2.2.1, x1.2.2.2.2.2.2.2.2.2.2.1) y2.2 y4.2) fun r5 =>
   Option.bind (whole_Int_Plus y3 r5.1) fun r6 =>
   chk (decide (0 ≤ y2.1) && decide (y2.1 < (List.length x1.2.2.2.2.2.2.2.2.2.2.2.2.1 : Int))) <|
   Option.bind (x1.2.2.2.2.2.2.2.2.2.2.2.2.1[y2.1.toNat]?) fun _ =>
   again (x1.1, w64 (x1.2.1 + 1), x1.2.2.1, x1.2.2.2.1, x1.2.2.2.2.1, x1.2.2.2.2.2.1, x1.2.2.2.2.2.2.1, x1.2.2.2.2.2.2.2.1, x1.2.2.2.2.2.2.2.2.1, x1.2.2.2.2.2.2.2.2.2.1, x1.2.2.2.2.2.2.2.2.2.2.1, x1.2.2.2.2.2.2.2.2.2.2.2.1, List.set x1.2.2.2.2.2.2.2.2.2.2.2.2.1 y2.1.toNat r6.1, x1.2.2.2.2.2.2.2.2.2.2.2.2.2.1, x1.2.2.2.2.2.2.2.2.2.2.2.2.2.2.1, x1.2.2.2.2.2.2.2.2.2.2.2.2.2.2.2.1, x1.2.2.2.2.2.2.2.2.2.2.2.2.2.2.2.2.1, x1.2.2.2.2.2.2.2.2.2.2.2.2.2.2.2.2.2.1, ())
  else
   again (x1.1, w64 (x1.2.1 + 1), x1.2.2.1, x1.2.2.2.1, x1.2.2.2.2.1, x1.2.2.2.2.2.1, x1.2.2.2.2.2.2.1, x1.2.2.2.2.2.2.2.1, x1.2.2.2.2.2.2.2.2.1, x1.2.2.2.2.2.2.2.2.2.1, x1.2.2.2.2.2.2.2.2.2.2.1, x1.2.2.2.2.2.2.2.2.2.2.2.1, x1.2.2.2.2.2.2.2.2.2.2.2.2.1, x1.2.2.2.2.2.2.2.2.2.2.2.2.2.1, x1.2.2.2.2.2.2.2.2.2.2.2.2.2.2.1, x1.2.2.2.2.2.2.2.2.2.2.2.2.2.2.2.1, x1.2.2.2.2.2.2.2.2.2.2.2.2.2.2.2.2.1, x1.2.2.2.2.2.2.2.2.2.2.2.2.2.2.2.2.2.1, ())
 else
  some (Sum.inr (x1.2.2.1, x1.2.2.2.1, x1.2.2.2.2.1, x1.2.2.2.2.2.1, x1.2.2.2.2.2.2.1, x1.2.2.2.2.2.2.2.1, x1.2.2.2.2.2.2.2.2.1, x1.2.2.2.2.2.2.2.2.2.1, x1.2.2.2.2.2.2.2.2.2.2.1, x1.2.2.2.2.2.2.2.2.2.2.2.1, x1.2.2.2.2.2.2.2.2.2.2.2.2.1, x1.2.2.2.2.2.2.2.2.2.2.2.2.2.1, x1.2.2.2.2.2.2.2.2.2.2.2.2.2.2.1, x1.2.2.2.2.2.2.2.2.2.2.2.2.2.2.2.1, x1.2.2.2.2.2.2.2.2.2.2.2.2.2.2.2.2.1, x1.2.2.2.2.2.2.2.2.2.2.2.2.2.2.2.2.2.1, ()))

def bill_sheet_tax (a0 : D_api_Invoice × (List D_whole_Int) × (List D_whole_Int) × (List D_whole_Int) × (List D_bill_share) × (List D_whole_Int) × (List Bool) × (List D_whole_Int) × Unit) : Option (Int × (D_api_Invoice × (List D_whole_Int) × (List D_whole_Int) × (List D_whole_Int) × (List D_bill_share) × (List D_whole_Int) × (List Bool) × (List D_whole_Int) × Unit) × Unit) :=
 chk (decide (0 ≤ ((List.length a0.2.2.2.1 : Int))) && decide (((List.length a0.2.2.2.1 : Int)) ≤ ((List.length a0.2.2.2.1 : Int))) && decide ((32 : Int) * ((List.length a0.2.2.2.1 : Int)) ≤ 281474976710656) && decide (((List.length a0.2.2.2.1 : Int)) ≤ 9223372036854775807)) <|
 joinB (β := (Int × (D_api_Invoice × (List D_whole_Int) × (List D_whole_Int) × (List D_whole_Int) × (List D_bill_share) × (List D_whole_Int) × (List Bool) × (List D_whole_Int) × Unit) × Unit)) (γ := ((List UInt8) × (List UInt8) × Int × Int × Int × Bool × (List D_api_Rate) × (List D_api_BillLine) × (List D_api_Extra) × (List D_whole_Int) × (List D_whole_Int) × (List D_whole_Int) × (List D_whole_Int) × (List D_bill_share) × (List D_whole_Int) × (List Bool) × Unit)) (
  iter (X := bill_sheet_tax_x3) (β := bill_sheet_tax_r3) (List.length a0.1.2.2.2.2.2.2.1 + (Int.natAbs ((List.length a0.1.2.2.2.2.2.2.1 : Int)) + (Int.natAbs (0 : Int) + (List.length a0.1.1 + (List.length a0.1.2.1 + (Int.natAbs a0.1.2.2.1 + (Int.natAbs a0.1.2.2.2.1 + (Int.natAbs a0.1.2.2.2.2.1 + (List.length a0.1.2.2.2.2.2.2.1 + (List.length a0.1.2.2.2.2.2.2.2.1 + (List.length a0.1.2.2.2.2.2.2.2.2 + (List.length a0.2.2.1 + (List.length ((List.replicate (Int.toNat ((List.length a0.2.2.2.1 : Int))) (false, []) : List (D_whole_Int)) : List D_whole_Int) + (List.length a0.2.1 + (List.length a0.2.2.2.1 + (List.length a0.2.2.2.2.1 + (List.length a0.2.2.2.2.2.1 + (List.length a0.2.2.2.2.2.2.1 + 2)))))))))))))))))) (a0.1.2.2.2.2.2.2.1, (List.length a0.1.2.2.2.2.2.2.1 : Int), 0, a0.1.1, a0.1.2.1, a0.1.2.2.1, a0.1.2.2.2.1, a0.1.2.2.2.2.1, a0.1.2.2.2.2.2.1, a0.1.2.2.2.2.2.2.1, a0.1.2.2.2.2.2.2.2.1, a0.1.2.2.2.2.2.2.2.2, a0.2.2.1, (List.replicate (Int.toNat ((List.length a0.2.2.2.1 : Int))) (false, []) : List (D_whole_Int)), a0.2.1, a0.2.2.2.1, a0.2.2.2.2.1, a0.2.2.2.2.2.1, a0.2.2.2.2.2.2.1, ()) (bill_sheet_tax_b3)) fun v6 =>
 joinB (β := (Int × (D_api_Invoice × (List D_whole_Int) × (List D_whole_Int) × (List D_whole_Int) × (List D_bill_share) × (List D_whole_Int) × (List Bool) × (List D_whole_Int) × Unit) × Unit)) (γ := ((List UInt8) × (List UInt8) × Int × Int × Int × Bool × (List D_api_Rate) × (List D_api_BillLine) × (List D_api_Extra) × (List D_whole_Int) × (List D_whole_Int) × (List D_whole_Int) × (List D_whole_Int) × (List D_bill_share) × (List D_whole_Int) × (List Bool) × Unit)) (
  iter (X := bill_sheet_tax_x9) (β := bill_sheet_tax_r9) (Int.natAbs ((List.length v6.2.2.2.2.2.2.2.2.2.2.2.2.2.1 : Int)) + (Int.natAbs (0 : Int) + (List.length v6.1 + (List.length v6.2.1 + (Int.natAbs v6.2.2.1 + (Int.natAbs v6.2.2.2.1 + (Int.natAbs v6.2.2.2.2.1 + (List.length v6.2.2.2.2.2.2.1 + (List.length v6.2.2.2.2.2.2.2.1 + (List.length v6.2.2.2.2.2.2.2.2.1 + (List.length v6.2.2.2.2.2.2.2.2.2.1 + (List.length v6.2.2.2.2.2.2.2.2.2.2.1 + (List.length v6.2.2.2.2.2.2.2.2.2.2.2.1 + (List.length v6.2.2.2.2.2.2.2.2.2.2.2.2.1 + (List.length v6.2.2.2.2.2.2.2.2.2.2.2.2.2.1 + (List.length v6.2.2.2.2.2.2.2.2.2.2.2.2.2.2.1 + (List.length v6.2.2.2.2.2.2.2.2.2.2.2.2.2.2.2.1 + 2))))))))))))))))) ((List.length v6.2.2.2.2.2.2.2.2.2.2.2.2.2.1 : Int), 0, v6.1, v6.2.1, v6.2.2.1, v6.2.2.2.1, v6.2.2.2.2.1, v6.2.2.2.2.2.1, v6.2.2.2.2.2.2.1, v6.2.2.2.2.2.2.2.1, v6.2.2.2.2.2.2.2.2.1, v6.2.2.2.2.2.2.2.2.2.1, v6.2.2.2.2.2.2.2.2.2.2.1, v6.2.2.2.2.2.2.2.2.2.2.2.1, v6.2.2.2.2.2.2.2.2.2.2.2.2.1, v6.2.2.2.2.2.2.2.2.2.2.2.2.2.1, v6.2.2.2.2.2.2.2.2.2.2.2.2.2.2.1, v6.2.2.2.2.2.2.2.2.2.2.2.2.2.2.2.1, ()) (bill_sheet_tax_b9)) fun v14 =>
 Option.bind (slices_ContainsFunc_whole_Int_c v14.2.2.2.2.2.2.2.2.2.2.1 ()) fun r15 =>
 bif r15.1 then
  some (1, ((v14.1, v14.2.1, v14.2.2.1, v14.2.2.2.1, v14.2.2.2.2.1, v14.2.2.2.2.2.1, v14.2.2.2.2.2.2.1, v14.2.2.2.2.2.2.2.1, v14.2.2.2.2.2.2.2.2.1), v14.2.2.2.2.2.2.2.2.2.2.2.1, v14.2.2.2.2.2.2.2.2.2.1, v14.2.2.2.2.2.2.2.2.2.2.2.2.1, v14.2.2.2.2.2.2.2.2.2.2.2.2.2.1, v14.2.2.2.2.2.2.2.2.2.2.2.2.2.2.1, v14.2.2.2.2.2.2.2.2.2.2.2.2.2.2.2.1, v14.2.2.2.2.2.2.2.2.2.2.1, ()), ())
 else
  some (0, ((v14.1, v14.2.1, v14.2.2.1, v14.2.2.2.1, v14.2.2.2.2.1, v14.2.2.2.2.2.1, v14.2.2.2.2.2.2.1, v14.2.2.2.2.2.2.2.1, v14.2.2.2.2.2.2.2.2.1), v14.2.2.2.2.2.2.2.2.2.2.2.1, v14.2.2.2.2.2.2.2.2.2.1, v14.2.2.2.2.2.2.2.2.2.2.2.2.1, v14.2.2.2.2.2.2.2.2.2.2.2.2.2.1, v14.2.2.2.2.2.2.2.2.2.2.2.2.2.2.1, v14.2.2.2.2.2.2.2.2.2.2.2.2.2.2.2.1, v14.2.2.2.2.2.2.2.2.2.2.1, ()), ())

abbrev bill_workedOut_x9 : Type := (List D_api_Extra) × Int × Int × (List UInt8) × (List UInt8) × Int × Int × Int × Bool × (List D_api_Rate) × (List D_api_BillLine) × (List D_api_Extra) × (List D_whole_Int) × (List D_whole_Int) × (List D_whole_Int) × (List D_bill_share) × (List D_whole_Int) × (List Bool) × (List D_whole_Int) × (List D_bill_sheet) × Unit
abbrev bill_workedOut_r9 : Type := (((Option Nat) × Int × (List D_bill_sheet) × Unit) ⊕ ((List UInt8) × (List UInt8) × Int × Int × Int × Bool × (List D_api_Rate) × (List D_api_BillLine) × (List D_api_Extra) × (List D_whole_Int) × (List D_whole_Int) × (List D_whole_Int) × (List D_bill_share) × (List D_whole_Int) × (List Bool) × (List D_whole_Int) × (List D_bill_sheet) × Unit))
noncomputable def bill_workedOut_b9  (x1 : bill_workedOut_x9) (again : bill_workedOut_x9 → Option bill_workedOut_r9) : Option bill_workedOut_r9 :=
 bif decide (x1.2.2.1 < x1.2.1) then
  Option.bind (idx x1.1 x1.2.2.1) fun y2 =>
  Option.bind (bill_sheet_extra ((x1.2.2.2.1, x1.2.2.2.2.1, x1.2.2.2.2.2.1, x1.2.2.2.2.2.2.1, x1.2.2.2.2.2.2.2.1, x1.2.2.2.2.2.2.2.2.1, x1.2.2.2.2.2.2.2.2.2.1, x1.2.2.2.2.2.2.2.2.2.2.1, x1.2.2.2.2.2.2.2.2.2.2.2.1), x1.2.2.2.2.2.2.2.2.2.2.2.2.1, x1.2.2.2.2.2.2.2.2.2.2.2.2.2.1, x1.2.2.2.2.2.2.2.2.2.2.2.2.2.2.1, x1.2.2.2.2.2.2.2.2.2.2.2.2.2.2.2.1, x1.2.2.2.2.2.2.2.2.2.2.2.2.2.2.2.2.1, x1.2.2.2.2.2.2.2.2.2.2.2.2.2.2.2.2.2.1, x1.2.2.2.2.2.2.2.2.2.2.2.2.2.2.2.2.2.2.1, ()) y2) fun r3 =>
  bif r3.1 != 0 then
   some (Sum.inl (none, r3.1, x1.2.2.2.2.2.2.2.2.2.2.2.2.2.2.2.2.2.2.2.1, ()))
  else
   again (x1.1, x1.2.1, w64 (x1.2.2.1 + 1), r3.2.1.1.1, r3.2.1.1.2.1, r3.2.1.1.2.2.1, r3.2.1.1.2.2.2.1, r3.2.1.1.2.2.2.2.1, r3.2.1.1.2.2.2.2.2.1, r3.2.1.1.2.2.2.2.2.2.1, r3.2.1.1.2.2.2.2.2.2.2.1, r3.2.1.1.2.2.2.2.2.2.2.2, r3.2.1.2.1, r3.2.1.2.2.1, r3.2.1.2.2.2.1, r3.2.1.2.2.2.2.1, r3.2.1.2.2.2.2.2.1, r3.2.1.2.2.2.2.2.2.1, r3.2.1.2.2.2.2.2.2.2.1, x1.2.2.2.2.2.2.2.2.2.2.2.2.2.2.2.2.2.2.2.1, ())
 else
  some (Sum.inr (x1.2.2.2.1, x1.2.2.2.2.1, x1.2.2.2.2.2.1, x1.2.2.2.2.2.2.1, x1.2.2.2.2.2.2.2.1, x1.2.2.2.2.2.2.2.2.1, x1.2.2.2.2.2.2.2.2.2.1, x1.2.2.2.2.2.2.2.2.2.2.1, x1.2.2.2.2.2.2.2.2.2.2.2.1, x1.2.2.2.2.2.2.2.2.2.2.2.2.1, x1.2.2.2.2.2.2.2.2.2.2.2.2.2.1, x1.2.2.2.2.2.2.2.2.2.2.2.2.2.2.1, x1.2.2.2.2.2.2.2.2.2.2.2.2.2.2.2.1, x1.2.2.2.2.2.2.2.2.2.2.2.2.2.2.2.2.1, x1.2.2.2.2.2.2.2.2.2.2.2.2.2.2.2.2.2.1, x1.2.2.2.2.2.2.2.2.2.2.2.2.2.2.2.2.2.2.1, x1.2.2.2.2.2.2.2.2.2.2.2.2.2.2.2.2.2.2.2.1, ()))

noncomputable def bill_workedOut (a0 : D_api_Invoice) (a1 : List D_bill_sheet) : Option ((Option Nat) × Int × (List D_bill_sheet) × Unit) :=
 Option.bind (bill_CheckInvoice a0) fun r1 =>
 bif r1.1 != 0 then
  some (none, r1.1, a1, ())
 else
  Option.bind (bill_sheet_byLines (a0, [], [], [], [], [], [], [], ())) fun r2 =>
  bif r2.1 != 0 then
   some (none, r2.1, a1, ())
  else
   joinB (β := ((Option Nat) × Int × (List D_bill_sheet) × Unit)) (γ := ((List UInt8) × (List UInt8) × Int × Int × Int × Bool × (List D_api_Rate) × (List D_api_BillLine) × (List D_api_Extra) × (List D_whole_Int) × (List D_whole_Int) × (List D_whole_Int) × (List D_bill_share) × (List D_whole_Int) × (List Bool) × (List D_whole_Int) × (List D_bill_sheet) × Unit)) (
    iter (X := bill_workedOut_x9) (β := bill_workedOut_r9) (List.length a0.2.2.2.2.2.2.2.2 + (Int.natAbs ((List.length a0.2.2.2.2.2.2.2.2 : Int)) + (Int.natAbs (0 : Int) + (List.length r2.2.1.1.1 + (List.length r2.2.1.1.2.1 + (Int.natAbs r2.2.1.1.2.2.1 + (Int.natAbs r2.2.1.1.2.2.2.1 + (Int.natAbs r2.2.1.1.2.2.2.2.1 + (List.length r2.2.1.1.2.2.2.2.2.2.1 + (List.length r2.2.1.1.2.2.2.2.2.2.2.1 + (List.length r2.2.1.1.2.2.2.2.2.2.2.2 + (List.length r2.2.1.2.1 + (List.length r2.2.1.2.2.1 + (List.length r2.2.1.2.2.2.1 + (List.length r2.2.1.2.2.2.2.1 + (List.length r2.2.1.2.2.2.2.2.1 + (List.length r2.2.1.2.2.2.2.2.2.1 + (List.length r2.2.1.2.2.2.2.2.2.2.1 + (List.length a1 + 2))))))))))))))))))) (a0.2.2.2.2.2.2.2.2, (List.length a0.2.2.2.2.2.2.2.2 : Int), 0, r2.2.1.1.1, r2.2.1.1.2.1, r2.2.1.1.2.2.1, r2.2.1.1.2.2.2.1, r2.2.1.1.2.2.2.2.1, r2.2.1.1.2.2.2.2.2.1, r2.2.1.1.2.2.2.2.2.2.1, r2.2.1.1.2.2.2.2.2.2.2.1, r2.2.1.1.2.2.2.2.2.2.2.2, r2.2.1.2.1, r2.2.1.2.2.1, r2.2.1.2.2.2.1, r2.2.1.2.2.2.2.1, r2.2.1.2.2.2.2.2.1, r2.2.1.2.2.2.2.2.2.1, r2.2.1.2.2.2.2.2.2.2.1, a1, ()) (bill_workedOut_b9)) fun v6 =>
   Option.bind (bill_sheet_tax ((v6.1, v6.2.1, v6.2.2.1, v6.2.2.2.1, v6.2.2.2.2.1, v6.2.2.2.2.2.1, v6.2.2.2.2.2.2.1, v6.2.2.2.2.2.2.2.1, v6.2.2.2.2.2.2.2.2.1), v6.2.2.2.2.2.2.2.2.2.1, v6.2.2.2.2.2.2.2.2.2.2.1, v6.2.2.2.2.2.2.2.2.2.2.2.1, v6.2.2.2.2.2.2.2.2.2.2.2.2.1, v6.2.2.2.2.2.2.2.2.2.2.2.2.2.1, v6.2.2.2.2.2.2.2.2.2.2.2.2.2.2.1, v6.2.2.2.2.2.2.2.2.2.2.2.2.2.2.2.1, ())) fun r7 =>
   bif r7.1 != 0 then
    some (none, r7.1, v6.2.2.2.2.2.2.2.2.2.2.2.2.2.2.2.2.1, ())
   else
    some (some (List.length v6.2.2.2.2.2.2.2.2.2.2.2.2.2.2.2.2.1), 0, v6.2.2.2.2.2.2.2.2.2.2.2.2.2.2.2.2.1 ++ [(r7.2.1.1, r7.2.1.2.1, r7.2.1.2.2.1, r7.2.1.2.2.2.1, r7.2.1.2.2.2.2.1, r7.2.1.2.2.2.2.2.1, r7.2.1.2.2.2.2.2.2.1, r7.2.1.2.2.2.2.2.2.2.1)], ())

abbrev bill_sum_x3 : Type := (List D_whole_Int) × Int × Int × Bool × (List Int) × Bool × (List Int) × Unit
abbrev bill_sum_r3 : Type := ((D_whole_Int × Unit) ⊕ (Bool × (List Int) × Bool × (List Int) × Unit))
def bill_sum_b3  (x1 : bill_sum_x3) (again : bill_sum_x3 → Option bill_sum_r3) : Option bill_sum_r3 :=
 bif decide (x1.2.2.1 < x1.2.1) then
  Option.bind (idx x1.1 x1.2.2.1) fun y2 =>
  Option.bind (whole_Int_Plus (x1.2.2.2.2.2.1, x1.2.2.2.2.2.2.1) y2) fun r3 =>
  again (x1.1, x1.2.1, w64 (x1.2.2.1 + 1), x1.2.2.2.1, x1.2.2.2.2.1, r3.1.1, r3.1.2, ())
 else
  some (Sum.inr (x1.2.2.2.1, x1.2.2.2.2.1, x1.2.2.2.2.2.1, x1.2.2.2.2.2.2.1, ()))

def bill_sum (a0 : List D_whole_Int) : Option (D_whole_Int × Unit) :=
 Option.bind (whole_Of 0) fun r1 =>
 joinB (β := (D_whole_Int × Unit)) (γ := (Bool × (List Int) × Bool × (List Int) × Unit)) (
  iter (X := bill_sum_x3) (β := bill_sum_r3) (List.length a0 + (Int.natAbs ((List.length a0 : Int)) + (Int.natAbs (0 : Int) + (List.length ([] : List Int) + (List.length r1.1.2 + 2))))) (a0, (List.length a0 : Int), 0, false, [], r1.1.1, r1.1.2, ()) (bill_sum_b3)) fun v5 =>
 some ((v5.2.2.1, v5.2.2.2.1), ())

def bill_sheet_told (a0 : Option Nat) (a1 : D_whole_Int) (a2 : List D_bill_sheet) : Option (D_api_Decimal × Unit) :=
 Option.bind (a0) fun h1 =>
 Option.bind (a2[h1]?) fun y2 =>
 Option.bind (amount_Made a1 y2.1.2.2.2.1) fun r3 =>
 some (r3.1, ())

def bill_sheet_totals (a0 : Option Nat) (a1 : List D_bill_sheet) : Option (D_api_Totals × Int × Unit) :=
 Option.bind (a0) fun h1 =>
 Option.bind (a1[h1]?) fun y2 =>
 Option.bind (bill_sum y2.2.1) fun r3 =>
 Option.bind (a0) fun h4 =>
 Option.bind (a1[h4]?) fun y5 =>
 Option.bind (bill_sum y5.2.2.2.2.2.1) fun r6 =>
 Option.bind (a0) fun h7 =>
 Option.bind (a1[h7]?) fun y8 =>
 Option.bind (bill_sum y8.2.2.2.2.2.2.2) fun r9 =>
 Option.bind (whole_Int_Plus r3.1 r6.1) fun r10 =>
 Option.bind (whole_Int_Plus r10.1 r9.1) fun r11 =>
 Option.bind (slices_ContainsFunc_whole_Int_d [r3.1, r6.1, r10.1, r9.1, r11.1] ()) fun r12 =>
 bif r12.1 then
  some (((0, 0), (0, 0), (0, 0), (0, 0), 0, 0), 1, ())
 else
  Option.bind (bill_sheet_told a0 r3.1 a1) fun r13 =>
  Option.bind (bill_sheet_told a0 r6.1 a1) fun r14 =>
  Option.bind (bill_sheet_told a0 r10.1 a1) fun r15 =>
  Option.bind (bill_sheet_told a0 r9.1 a1) fun r16 =>
  Option.bind (bill_sheet_told a0 r11.1 a1) fun r17 =>
  some ((r13.1, r14.1, r15.1, r16.1, r17.1), 0, ())

abbrev bill_sheet_sums_x3 : Type := (Option Nat) × (List D_api_TaxSum) × (List D_api_Rate) × Int × Int × (List D_bill_sheet) × Unit
abbrev bill_sheet_sums_r3 : Type := (((List D_api_TaxSum) × Unit) ⊕ ((List D_api_TaxSum) × (List D_bill_sheet) × Unit))
def bill_sheet_sums_b3  (x1 : bill_sheet_sums_x3) (again : bill_sheet_sums_x3 → Option bill_sheet_sums_r3) : Option bill_sheet_sums_r3 :=
 bif decide (x1.2.2.2.2.1 < x1.2.2.2.1) then
  Option.bind (idx x1.2.2.1 x1.2.2.2.2.1) fun y2 =>
  Option.bind (x1.1) fun h3 =>
  Option.bind (x1.2.2.2.2.2.1[h3]?) fun y4 =>
  Option.bind (idx y4.2.2.2.2.2.2.1 x1.2.2.2.2.1) fun y5 =>
  bif y5 then
   Option.bind (x1.1) fun h6 =>
   Option.bind (x1.2.2.2.2.2.1[h6]?) fun y7 =>
   Option.bind (idx y7.2.2.2.1 x1.2.2.2.2.1) fun y8 =>
   Option.bind (bill_sheet_told x1.1 y8 x1.2.2.2.2.2.1) fun r9 =>
   Option.bind (x1.1) fun h10 =>
   Option.bind (x1.2.2.2.2.2.1[h10]?) fun y11 =>
   Option.bind (idx y11.2.2.2.2.2.2.2 x1.2.2.2.2.1) fun y12 =>
   Option.bind (bill_sheet_told x1.1 y12 x1.2.2.2.2.2.1) fun r13 =>
   chk (decide (((List.length x1.2.1) + 1) * 48 ≤ 140737488355328) && decide ((List.length x1.2.1) + 1 ≤ maxLen)) <|
   again (x1.1, x1.2.1 ++ [(y2.1, r9.1, r13.1)], x1.2.2.1, x1.2.2.2.1, w64 (x1.2.2.2.2.1 + 1), x1.2.2.2.2.2.1, ())
  else
   again (x1.1, x1.2.1, x1.2.2.1, x1.2.2.2.1, w64 (x1.2.2.2.2.1 + 1), x1.2.2.2.2.2.1, ())
 else
  some (Sum.inr (x1.2.1, x1.2.2.2.2.2.1, ()))

def bill_sheet_sums (a0 : Option Nat) (a1 : List D_bill_sheet) : Option ((List D_api_TaxSum) × Unit) :=
 Option.bind (a0) fun h1 =>
 Option.bind (a1[h1]?) fun y2 =>
 joinB (β := ((List D_api_TaxSum) × Unit)) (γ := ((List D_api_TaxSum) × (List D_bill_sheet) × Unit)) (
  iter (X := bill_sheet_sums_x3) (β := bill_sheet_sums_r3) (List.length ([] : List D_api_TaxSum) + (List.length y2.1.2.2.2.2.2.2.1 + (Int.natAbs ((List.length y2.1.2.2.2.2.2.2.1 : Int)) + (Int.natAbs (0 : Int) + 2)))) (a0, [], y2.1.2.2.2.2.2.2.1, (List.length y2.1.2.2.2.2.2.2.1 : Int), 0, a1, ()) (bill_sheet_sums_b3)) fun v16 =>
 some (v16.1, ())

noncomputable def bill_Taxes (a0 : D_api_Invoice) : Option ((List D_api_TaxSum) × Int × Unit) :=
 Option.bind (bill_workedOut a0 []) fun r1 =>
 bif r1.2.1 != 0 then
  some ([], r1.2.1, ())
 else
  Option.bind (bill_sheet_totals r1.1 r1.2.2.1) fun r2 =>
  bif r2.2.1 != 0 then
   some ([], r2.2.1, ())
  else
   Option.bind (bill_sheet_sums r1.1 r1.2.2.1) fun r3 =>
   some (r3.1, 0, ())

noncomputable def bill_Totals (a0 : D_api_Invoice) : Option (D_api_Totals × Int × Unit) :=
 Option.bind (bill_workedOut a0 []) fun r1 =>
 bif r1.2.1 != 0 then
  some (((0, 0), (0, 0), (0, 0), (0, 0), 0, 0), r1.2.1, ())
 else
  Option.bind (bill_sheet_totals r1.1 r1.2.2.1) fun r2 =>
  some (r2.1, r2.2.1, ())

abbrev l11_BillTotalsAddUp_x9 : Type := Int × Int × Int × (List D_api_TaxSum) × Int × Int × (List UInt8) × (List UInt8) × Int × Int × Int × Bool × (List D_api_Rate) × (List D_api_BillLine) × (List D_api_Extra) × Int × Int × Int × Int × Int × Int × Int × Int × Int × Int × Unit
abbrev l11_BillTotalsAddUp_r9 : Type := ((Bool × Unit) ⊕ (Int × Int × Int × (List UInt8) × (List UInt8) × Int × Int × Int × Bool × (List D_api_Rate) × (List D_api_BillLine) × (List D_api_Extra) × Int × Int × Int × Int × Int × Int × Int × Int × Int × Int × Unit))
noncomputable def l11_BillTotalsAddUp_b9  (x1 : l11_BillTotalsAddUp_x9) (again : l11_BillTotalsAddUp_x9 → Option l11_BillTotalsAddUp_r9) : Option l11_BillTotalsAddUp_r9 :=
 bif decide (x1.2.2.2.2.2.1 < x1.2.2.2.2.1) then
  Option.bind (idx x1.2.2.2.1 x1.2.2.2.2.2.1) fun y2 =>
  again (w64 (x1.1 + y2.2.1.1), w64 (x1.2.1 + y2.2.2.1), x1.2.2.1, x1.2.2.2.1, x1.2.2.2.2.1, w64 (x1.2.2.2.2.2.1 + 1), x1.2.2.2.2.2.2.1, x1.2.2.2.2.2.2.2.1, x1.2.2.2.2.2.2.2.2.1, x1.2.2.2.2.2.2.2.2.2.1, x1.2.2.2.2.2.2.2.2.2.2.1, x1.2.2.2.2.2.2.2.2.2.2.2.1, x1.2.2.2.2.2.2.2.2.2.2.2.2.1, x1.2.2.2.2.2.2.2.2.2.2.2.2.2.1, x1.2.2.2.2.2.2.2.2.2.2.2.2.2.2.1, x1.2.2.2.2.2.2.2.2.2.2.2.2.2.2.2.1, x1.2.2.2.2.2.2.2.2.2.2.2.2.2.2.2.2.1, x1.2.2.2.2.2.2.2.2.2.2.2.2.2.2.2.2.2.1, x1.2.2.2.2.2.2.2.2.2.2.2.2.2.2.2.2.2.2.1, x1.2.2.2.2.2.2.2.2.2.2.2.2.2.2.2.2.2.2.2.1, x1.2.2.2.2.2.2.2.2.2.2.2.2.2.2.2.2.2.2.2.2.1, x1.2.2.2.2.2.2.2.2.2.2.2.2.2.2.2.2.2.2.2.2.2.1, x1.2.2.2.2.2.2.2.2.2.2.2.2.2.2.2.2.2.2.2.2.2.2.1, x1.2.2.2.2.2.2.2.2.2.2.2.2.2.2.2.2.2.2.2.2.2.2.2.1, x1.2.2.2.2.2.2.2.2.2.2.2.2.2.2.2.2.2.2.2.2.2.2.2.2.1, ())
 else
  some (Sum.inr (x1.1, x1.2.1, x1.2.2.1, x1.2.2.2.2.2.2.1, x1.2.2.2.2.2.2.2.1, x1.2.2.2.2.2.2.2.2.1, x1.2.2.2.2.2.2.2.2.2.1, x1.2.2.2.2.2.2.2.2.2.2.1, x1.2.2.2.2.2.2.2.2.2.2.2.1, x1.2.2.2.2.2.2.2.2.2.2.2.2.1, x1.2.2.2.2.2.2.2.2.2.2.2.2.2.1, x1.2.2.2.2.2.2.2.2.2.2.2.2.2.2.1, x1.2.2.2.2.2.2.2.2.2.2.2.2.2.2.2.1, x1.2.2.2.2.2.2.2.2.2.2.2.2.2.2.2.2.1, x1.2.2.2.2.2.2.2.2.2.2.2.2.2.2.2.2.2.1, x1.2.2.2.2.2.2.2.2.2.2.2.2.2.2.2.2.2.2.1, x1.2.2.2.2.2.2.2.2.2.2.2.2.2.2.2.2.2.2.2.1, x1.2.2.2.2.2.2.2.2.2.2.2.2.2.2.2.2.2.2.2.2.1, x1.2.2.2.2.2.2.2.2.2.2.2.2.2.2.2.2.2.2.2.2.2.1, x1.2.2.2.2.2.2.2.2.2.2.2.2.2.2.2.2.2.2.2.2.2.2.1, x1.2.2.2.2.2.2.2.2.2.2.2.2.2.2.2.2.2.2.2.2.2.2.2.1, x1.2.2.2.2.2.2.2.2.2.2.2.2.2.2.2.2.2.2.2.2.2.2.2.2.1, ()))

abbrev l11_BillTotalsAddUp_x14 : Type := Int × Int × Int × Int × Int × (List UInt8) × (List UInt8) × Int × Int × Int × Bool × (List D_api_Rate) × (List D_api_BillLine) × (List D_api_Extra) × Int × Int × Int × Int × Int × Int × Int × Int × Int × Int × Unit
abbrev l11_BillTotalsAddUp_r14 : Type := ((Bool × Unit) ⊕ (Int × Int × Int × Int × Int × Int × Int × Int × Int × Int × Int × Int × Int × Unit))
noncomputable def l11_BillTotalsAddUp_b14  (x1 : l11_BillTotalsAddUp_x14) (again : l11_BillTotalsAddUp_x14 → Option l11_BillTotalsAddUp_r14) : Option l11_BillTotalsAddUp_r14 :=
 bif decide (x1.2.2.2.2.1 < x1.2.2.2.1) then
  Option.bind (bill_Net (x1.2.2.2.2.2.1, x1.2.2.2.2.2.2.1, x1.2.2.2.2.2.2.2.1, x1.2.2.2.2.2.2.2.2.1, x1.2.2.2.2.2.2.2.2.2.1, x1.2.2.2.2.2.2.2.2.2.2.1, x1.2.2.2.2.2.2.2.2.2.2.2.1, x1.2.2.2.2.2.2.2.2.2.2.2.2.1, x1.2.2.2.2.2.2.2.2.2.2.2.2.2.1) x1.2.2.2.2.1) fun r2 =>
  bif r2.2.1 != 0 then
   some (Sum.inl (false, ()))
  else
   again (x1.1, x1.2.1, w64 (x1.2.2.1 + r2.1.1), x1.2.2.2.1, w64 (x1.2.2.2.2.1 + 1), x1.2.2.2.2.2.1, x1.2.2.2.2.2.2.1, x1.2.2.2.2.2.2.2.1, x1.2.2.2.2.2.2.2.2.1, x1.2.2.2.2.2.2.2.2.2.1, x1.2.2.2.2.2.2.2.2.2.2.1, x1.2.2.2.2.2.2.2.2.2.2.2.1, x1.2.2.2.2.2.2.2.2.2.2.2.2.1, x1.2.2.2.2.2.2.2.2.2.2.2.2.2.1, x1.2.2.2.2.2.2.2.2.2.2.2.2.2.2.1, x1.2.2.2.2.2.2.2.2.2.2.2.2.2.2.2.1, x1.2.2.2.2.2.2.2.2.2.2.2.2.2.2.2.2.1, x1.2.2.2.2.2.2.2.2.2.2.2.2.2.2.2.2.2.1, x1.2.2.2.2.2.2.2.2.2.2.2.2.2.2.2.2.2.2.1, x1.2.2.2.2.2.2.2.2.2.2.2.2.2.2.2.2.2.2.2.1, x1.2.2.2.2.2.2.2.2.2.2.2.2.2.2.2.2.2.2.2.2.1, x1.2.2.2.2.2.2.2.2.2.2.2.2.2.2.2.2.2.2.2.2.2.1, x1.2.2.2.2.2.2.2.2.2.2.2.2.2.2.2.2.2.2.2.2.2.2.1, x1.2.2.2.2.2.2.2.2.2.2.2.2.2.2.2.2.2.2.2.2.2.2.2.1, ())
 else
  some (Sum.inr (x1.1, x1.2.1, x1.2.2.1, x1.2.2.2.2.2.2.2.2.2.2.2.2.2.2.1, x1.2.2.2.2.2.2.2.2.2.2.2.2.2.2.2.1, x1.2.2.2.2.2.2.2.2.2.2.2.2.2.2.2.2.1, x1.2.2.2.2.2.2.2.2.2.2.2.2.2.2.2.2.2.1, x1.2.2.2.2.2.2.2.2.2.2.2.2.2.2.2.2.2.2.1, x1.2.2.2.2.2.2.2.2.2.2.2.2.2.2.2.2.2.2.2.1, x1.2.2.2.2.2.2.2.2.2.2.2.2.2.2.2.2.2.2.2.2.1, x1.2.2.2.2.2.2.2.2.2.2.2.2.2.2.2.2.2.2.2.2.2.1, x1.2.2.2.2.2.2.2.2.2.2.2.2.2.2.2.2.2.2.2.2.2.2.1, x1.2.2.2.2.2.2.2.2.2.2.2.2.2.2.2.2.2.2.2.2.2.2.2.1, ()))

noncomputable def l11_BillTotalsAddUp (a0 : D_api_Invoice) : Option (Bool × Unit) :=
 Option.bind (bill_Totals a0) fun r1 =>
 bif r1.2.1 != 0 then
  bif r1.1.2.2.2.2.1 == 0 then
   Option.bind (l11_awake) fun r2 =>
   some (r2.1, ())
  else
   some (false, ())
 else
  Option.bind (bill_Taxes a0) fun r3 =>
  bif r3.2.1 != 0 then
   some (false, ())
  else
   Option.bind (l11_awake) fun r4 =>
   bif !r4.1 then
    some (false, ())
   else
    joinB (β := (Bool × Unit)) (γ := (Int × Int × Int × (List UInt8) × (List UInt8) × Int × Int × Int × Bool × (List D_api_Rate) × (List D_api_BillLine) × (List D_api_Extra) × Int × Int × Int × Int × Int × Int × Int × Int × Int × Int × Unit)) (
     iter (X := l11_BillTotalsAddUp_x9) (β := l11_BillTotalsAddUp_r9) (Int.natAbs (0 : Int) + (Int.natAbs (0 : Int) + (Int.natAbs (0 : Int) + (List.length r3.1 + (Int.natAbs ((List.length r3.1 : Int)) + (Int.natAbs (0 : Int) + (List.length a0.1 + (List.length a0.2.1 + (Int.natAbs a0.2.2.1 + (Int.natAbs a0.2.2.2.1 + (Int.natAbs a0.2.2.2.2.1 + (List.length a0.2.2.2.2.2.2.1 + (List.length a0.2.2.2.2.2.2.2.1 + (List.length a0.2.2.2.2.2.2.2.2 + (Int.natAbs r1.1.1.1 + (Int.natAbs r1.1.1.2 + (Int.natAbs r1.1.2.1.1 + (Int.natAbs r1.1.2.1.2 + (Int.natAbs r1.1.2.2.1.1 + (Int.natAbs r1.1.2.2.1.2 + (Int.natAbs r1.1.2.2.2.1.1 + (Int.natAbs r1.1.2.2.2.1.2 + (Int.natAbs r1.1.2.2.2.2.1 + (Int.natAbs r1.1.2.2.2.2.2 + 2)))))))))))))))))))))))) (0, 0, 0, r3.1, (List.length r3.1 : Int), 0, a0.1, a0.2.1, a0.2.2.1, a0.2.2.2.1, a0.2.2.2.2.1, a0.2.2.2.2.2.1, a0.2.2.2.2.2.2.1, a0.2.2.2.2.2.2.2.1, a0.2.2.2.2.2.2.2.2, r1.1.1.1, r1.1.1.2, r1.1.2.1.1, r1.1.2.1.2, r1.1.2.2.1.1, r1.1.2.2.1.2, r1.1.2.2.2.1.1, r1.1.2.2.2.1.2, r1.1.2.2.2.2.1, r1.1.2.2.2.2.2, ()) (l11_BillTotalsAddUp_b9)) fun v7 =>
    joinB (β := (Bool × Unit)) (γ := (Int × Int × Int × Int × Int × Int × Int × Int × Int × Int × Int × Int × Int × Unit)) (
     iter (X := l11_BillTotalsAddUp_x14) (β := l11_BillTotalsAddUp_r14) (Int.natAbs v7.1 + (Int.natAbs v7.2.1 + (Int.natAbs v7.2.2.1 + (Int.natAbs ((List.length v7.2.2.2.2.2.2.2.2.2.2.1 : Int)) + (Int.natAbs (0 : Int) + (List.length v7.2.2.2.1 + (List.length v7.2.2.2.2.1 + (Int.natAbs v7.2.2.2.2.2.1 + (Int.natAbs v7.2.2.2.2.2.2.1 + (Int.natAbs v7.2.2.2.2.2.2.2.1 + (List.length v7.2.2.2.2.2.2.2.2.2.1 + (List.length v7.2.2.2.2.2.2.2.2.2.2.1 + (List.length v7.2.2.2.2.2.2.2.2.2.2.2.1 + (Int.natAbs v7.2.2.2.2.2.2.2.2.2.2.2.2.1 + (Int.natAbs v7.2.2.2.2.2.2.2.2.2.2.2.2.2.1 + (Int.natAbs v7.2.2.2.2.2.2.2.2.2.2.2.2.2.2.1 + (Int.natAbs v7.2.2.2.2.2.2.2.2.2.2.2.2.2.2.2.1 + (Int.natAbs v7.2.2.2.2.2.2.2.2.2.2.2.2.2.2.2.2.1 + (Int.natAbs v7.2.2.2.2.2.2.2.2.2.2.2.2.2.2.2.2.2.1 + (Int.natAbs v7.2.2.2.2.2.2.2.2.2.2.2.2.2.2.2.2.2.2.1 + (Int.natAbs v7.2.2.2.2.2.2.2.2.2.2.2.2.2.2.2.2.2.2.2.1 + (Int.natAbs v7.2.2.2.2.2.2.2.2.2.2.2.2.2.2.2.2.2.2.2.2.1 + (Int.natAbs v7.2.2.2.2.2.2.2.2.2.2.2.2.2.2.2.2.2.2.2.2.2.1 + 2))))))))))))))))))))))) (v7.1, v7.2.1, v7.2.2.1, (List.length v7.2.2.2.2.2.2.2.2.2.2.1 : Int), 0, v7.2.2.2.1, v7.2.2.2.2.1, v7.2.2.2.2.2.1, v7.2.2.2.2.2.2.1, v7.2.2.2.2.2.2.2.1, v7.2.2.2.2.2.2.2.2.1, v7.2.2.2.2.2.2.2.2.2.1, v7.2.2.2.2.2.2.2.2.2.2.1, v7.2.2.2.2.2.2.2.2.2.2.2.1, v7.2.2.2.2.2.2.2.2.2.2.2.2.1, v7.2.2.2.2.2.2.2.2.2.2.2.2.2.1, v7.2.2.2.2.2.2.2.2.2.2.2.2.2.2.1, v7.2.2.2.2.2.2.2.2.2.2.2.2.2.2.2.1, v7.2.2.2.2.2.2.2.2.2.2.2.2.2.2.2.2.1, v7.2.2.2.2.2.2.2.2.2.2.2.2.2.2.2.2.2.1, v7.2.2.2.2.2.2.2.2.2.2.2.2.2.2.2.2.2.2.1, v7.2.2.2.2.2.2.2.2.2.2.2.2.2.2.2.2.2.2.2.1, v7.2.2.2.2.2.2.2.2.2.2.2.2.2.2.2.2.2.2.2.2.1, v7.2.2.2.2.2.2.2.2.2.2.2.2.2.2.2.2.2.2.2.2.2.1, ()) (l11_BillTotalsAddUp_b14)) fun v10 =>
    bif v10.1 == v10.2.2.2.2.2.2.2.1 then
     bif v10.2.1 == v10.2.2.2.2.2.2.2.2.2.1 then
      bif v10.2.2.1 == v10.2.2.2.1 then
       bif v10.2.2.2.2.2.2.2.1 == (w64 (v10.2.2.1 + v10.2.2.2.2.2.1)) then
        some (v10.2.2.2.2.2.2.2.2.2.2.2.1 == (w64 (v10.1 + v10.2.1)), ())
       else
        some (false, ())
      else
       some (false, ())
     else
      some (false, ())
    else
     some (false, ())

end Go.Md
