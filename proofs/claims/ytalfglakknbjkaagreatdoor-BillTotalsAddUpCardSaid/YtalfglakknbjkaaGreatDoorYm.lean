/-
 The plain models of the functions that the law reaches, first part. No condition.
-/
import Derived.Test.YtalfglakknbjkaaGreatDoorYd
import Derived.Lib.SlTrimSet
set_option linter.all false
namespace Go.Md
open Go.Dn

def strings_Trim (s c : List UInt8) : Option (List UInt8 × Unit) :=
 bif decide (s.length ≤ 9223372036854775807) && (decide (c.length < 4294967281) && c.all fun b => decide (b.toNat < 128)) then some (Lib.trimS s c, ()) else none

abbrev t_api_Decimal : Ty := (.st (.pair tI tI))
abbrev D_api_Decimal : Type := Int × Int

abbrev t_api_Payment : Ty := (.st (.pair tI (.pair t_api_Decimal (.slice .str))))
abbrev D_api_Payment : Type := Int × D_api_Decimal × (List (List UInt8))

abbrev t_api_Paid : Ty := (.st (.pair .str (.pair t_api_Decimal (.pair t_api_Decimal tI))))
abbrev D_api_Paid : Type := (List UInt8) × D_api_Decimal × D_api_Decimal × Int

abbrev D_interchangeref1_Num : Type := Bool × (List Int)

abbrev t_api_Debt : Ty := (.st (.pair .str (.pair tI (.pair t_api_Decimal (.pair tI (.pair tI tI))))))
abbrev D_api_Debt : Type := (List UInt8) × Int × D_api_Decimal × Int × Int × Int

abbrev t_bill_debt : Ty := (.st (.pair t_api_Debt (.pair tI (.pair tI (.pair tI tI)))))
abbrev D_bill_debt : Type := D_api_Debt × Int × Int × Int × Int

abbrev t_whole_Int : Ty := (.st (.pair .bool (.slice (.int .u32))))
abbrev D_whole_Int : Type := Bool × (List Int)

def kit_IsName (a0 : List UInt8) : Option (Bool × Unit) :=
 bif decide (((List.length a0 : Int)) < 1) then
  some (false, ())
 else
  bif decide (((List.length a0 : Int)) > 40) then
   some (false, ())
  else
   Option.bind (sidx a0 0) fun c1 =>
   bif decide ((c1.toNat : Int) < 97) then
    some (false, ())
   else
    Option.bind (sidx a0 0) fun c2 =>
    bif decide ((c2.toNat : Int) > 122) then
     some (false, ())
    else
     Option.bind (strings_Trim a0 [97, 98, 99, 100, 101, 102, 103, 104, 105, 106, 107, 108, 109, 110, 111, 112, 113, 114, 115, 116, 117, 118, 119, 120, 121, 122, 48, 49, 50, 51, 52, 53, 54, 55, 56, 57, 45]) fun r3 =>
     some (r3.1 == [], ())

def bill_CheckDebts_1 (a0 : D_api_Debt) (a1 : D_api_Debt) : Option (Bool × Unit) :=
 some (a0.1 == a1.1, ())

abbrev slices_IndexFunc_api_Debt_x2 : Type := (List D_api_Debt) × D_api_Debt × Int × Int × Unit
abbrev slices_IndexFunc_api_Debt_r2 : Type := ((Int × Unit) ⊕ Unit)
def slices_IndexFunc_api_Debt_b2  (x1 : slices_IndexFunc_api_Debt_x2) (again : slices_IndexFunc_api_Debt_x2 → Option slices_IndexFunc_api_Debt_r2) : Option slices_IndexFunc_api_Debt_r2 :=
 bif decide (x1.2.2.2.1 < x1.2.2.1) then
  Option.bind (idx x1.1 x1.2.2.2.1) fun y2 =>
  Option.bind (bill_CheckDebts_1 y2 x1.2.1) fun r3 =>
  bif r3.1 then
   some (Sum.inl (x1.2.2.2.1, ()))
  else
   again (x1.1, x1.2.1, x1.2.2.1, w64 (x1.2.2.2.1 + 1), ())
 else
  some (Sum.inr ())

def slices_IndexFunc_api_Debt (a0 : List D_api_Debt) (a1 : D_api_Debt) : Option (Int × Unit) :=
 joinB (β := (Int × Unit)) (γ := Unit) (
  iter (X := slices_IndexFunc_api_Debt_x2) (β := slices_IndexFunc_api_Debt_r2) (List.length a0 + (Int.natAbs ((List.length a0 : Int)) + (Int.natAbs (0 : Int) + 2))) (a0, a1, (List.length a0 : Int), 0, ()) (slices_IndexFunc_api_Debt_b2)) fun _ =>
 some ((-1), ())

def slices_ContainsFunc_api_Debt (a0 : List D_api_Debt) (a1 : D_api_Debt) : Option (Bool × Unit) :=
 Option.bind (slices_IndexFunc_api_Debt a0 a1) fun r1 =>
 some (decide (r1.1 ≥ 0), ())

def kit_Outside (a0 : Int) (a1 : Int) (a2 : Int) : Option (Bool × Unit) :=
 bif decide (a0 < a1) then
  some (true, ())
 else
  some (decide (a0 > a2), ())

def kit_IsDay (a0 : Int) : Option (Bool × Unit) :=
 Option.bind (kit_Outside a0 1 3652059) fun r1 =>
 some (!r1.1, ())

def amount_CheckDecimal (a0 : D_api_Decimal) : Option (Int × Unit) :=
 Option.bind (kit_Outside a0.1 (-1000000000000000) 1000000000000000) fun r1 =>
 bif r1.1 then
  some (1, ())
 else
  Option.bind (kit_Outside a0.2 0 9) fun r2 =>
  bif r2.1 then
   some (1, ())
  else
   some (0, ())

abbrev bill_power_x3 : Type := Int × Int × Int × Unit
abbrev bill_power_r3 : Type := ((Int × Unit) ⊕ (Int × Unit))
def bill_power_b3  (x1 : bill_power_x3) (again : bill_power_x3 → Option bill_power_r3) : Option bill_power_r3 :=
 bif decide (x1.2.2.1 < x1.2.1) then
  again (w64 (x1.1 * 10), x1.2.1, w64 (x1.2.2.1 + 1), ())
 else
  some (Sum.inr (x1.1, ()))

def bill_power (a0 : Int) : Option (Int × Unit) :=
 joinB (β := (Int × Unit)) (γ := (Int × Unit)) (
  iter (X := bill_power_x3) (β := bill_power_r3) (Int.natAbs (1 : Int) + (Int.natAbs a0 + (Int.natAbs (0 : Int) + 2))) (1, a0, 0, ()) (bill_power_b3)) fun v2 =>
 some (v2.1, ())

def bill_between (a0 : D_api_Decimal) (a1 : Int) : Option (Bool × Unit) :=
 Option.bind (bill_power a0.2) fun r1 =>
 Option.bind (kit_Outside a0.1 (w64 (0 - (w64 (a1 * r1.1)))) (w64 (a1 * r1.1))) fun r2 =>
 some (!r2.1, ())

def bill_moneyFault (a0 : D_api_Decimal) : Option (Int × Unit) :=
 Option.bind (amount_CheckDecimal a0) fun r1 =>
 bif r1.1 != 0 then
  some (r1.1, ())
 else
  bif decide (a0.1 ≤ 0) then
   some (1, ())
  else
   bif decide (a0.2 > 4) then
    some (1, ())
   else
    Option.bind (bill_between a0 1000000000) fun r2 =>
    bif !r2.1 then
     some (1, ())
    else
     some (0, ())

abbrev bill_CheckDebts_x4 : Type := (List D_api_Debt) × (List D_api_Debt) × Int × Int × Unit
abbrev bill_CheckDebts_r4 : Type := ((Int × Unit) ⊕ Unit)
def bill_CheckDebts_b4  (x1 : bill_CheckDebts_x4) (again : bill_CheckDebts_x4 → Option bill_CheckDebts_r4) : Option bill_CheckDebts_r4 :=
 bif decide (x1.2.2.2.1 < x1.2.2.1) then
  Option.bind (idx x1.2.1 x1.2.2.2.1) fun y2 =>
  Option.bind (kit_IsName y2.1) fun r3 =>
  bif !r3.1 then
   some (Sum.inl (5, ()))
  else
   chk (decide (0 ≤ (0 : Int)) && decide ((0 : Int) ≤ x1.2.2.2.1) && decide (x1.2.2.2.1 ≤ (List.length x1.1 : Int))) <|
   Option.bind (slices_ContainsFunc_api_Debt (List.drop 0 (List.take (Int.toNat x1.2.2.2.1) x1.1)) y2) fun r4 =>
   bif r4.1 then
    some (Sum.inl (7, ()))
   else
    Option.bind (kit_IsDay y2.2.1) fun r5 =>
    bif !r5.1 then
     some (Sum.inl (1, ()))
    else
     bif decide (x1.2.2.2.1 > 0) then
      Option.bind (idx x1.1 (w64 (x1.2.2.2.1 - 1))) fun y6 =>
      bif decide (y2.2.1 < y6.2.1) then
       some (Sum.inl (8, ()))
      else
       Option.bind (bill_moneyFault y2.2.2.1) fun r7 =>
       bif r7.1 != 0 then
        some (Sum.inl (r7.1, ()))
       else
        Option.bind (kit_Outside y2.2.2.2.1 0 10000) fun r8 =>
        bif r8.1 then
         some (Sum.inl (1, ()))
        else
         Option.bind (kit_Outside y2.2.2.2.2.1 0 y2.2.2.2.1) fun r9 =>
         bif r9.1 then
          some (Sum.inl (1, ()))
         else
          Option.bind (kit_Outside y2.2.2.2.2.2 0 1000) fun r10 =>
          bif r10.1 then
           some (Sum.inl (1, ()))
          else
           again (x1.1, x1.2.1, x1.2.2.1, w64 (x1.2.2.2.1 + 1), ())
     else
      Option.bind (bill_moneyFault y2.2.2.1) fun r11 =>
      bif r11.1 != 0 then
       some (Sum.inl (r11.1, ()))
      else
       Option.bind (kit_Outside y2.2.2.2.1 0 10000) fun r12 =>
       bif r12.1 then
        some (Sum.inl (1, ()))
       else
        Option.bind (kit_Outside y2.2.2.2.2.1 0 y2.2.2.2.1) fun r13 =>
        bif r13.1 then
         some (Sum.inl (1, ()))
        else
         Option.bind (kit_Outside y2.2.2.2.2.2 0 1000) fun r14 =>
         bif r14.1 then
          some (Sum.inl (1, ()))
         else
          again (x1.1, x1.2.1, x1.2.2.1, w64 (x1.2.2.2.1 + 1), ())
 else
  some (Sum.inr ())

def bill_CheckDebts (a0 : List D_api_Debt) : Option (Int × Unit) :=
 bif decide (((List.length a0 : Int)) > 200) then
  some (2, ())
 else
  joinB (β := (Int × Unit)) (γ := Unit) (
   iter (X := bill_CheckDebts_x4) (β := bill_CheckDebts_r4) (List.length a0 + (List.length a0 + (Int.natAbs ((List.length a0 : Int)) + (Int.natAbs (0 : Int) + 2)))) (a0, a0, (List.length a0 : Int), 0, ()) (bill_CheckDebts_b4)) fun _ =>
  some (0, ())

abbrev slices_Index_string_x2 : Type := (List (List UInt8)) × (List UInt8) × Int × Int × Unit
abbrev slices_Index_string_r2 : Type := ((Int × Unit) ⊕ Unit)
def slices_Index_string_b2  (x1 : slices_Index_string_x2) (again : slices_Index_string_x2 → Option slices_Index_string_r2) : Option slices_Index_string_r2 :=
 bif decide (x1.2.2.2.1 < x1.2.2.1) then
  Option.bind (idx x1.1 x1.2.2.2.1) fun y2 =>
  bif x1.2.1 == y2 then
   some (Sum.inl (x1.2.2.2.1, ()))
  else
   again (x1.1, x1.2.1, x1.2.2.1, w64 (x1.2.2.2.1 + 1), ())
 else
  some (Sum.inr ())

def slices_Index_string (a0 : List (List UInt8)) (a1 : List UInt8) : Option (Int × Unit) :=
 joinB (β := (Int × Unit)) (γ := Unit) (
  iter (X := slices_Index_string_x2) (β := slices_Index_string_r2) (List.length a0 + (List.length a1 + (Int.natAbs ((List.length a0 : Int)) + (Int.natAbs (0 : Int) + 2)))) (a0, a1, (List.length a0 : Int), 0, ()) (slices_Index_string_b2)) fun _ =>
 some ((-1), ())

def slices_Contains_string (a0 : List (List UInt8)) (a1 : List UInt8) : Option (Bool × Unit) :=
 Option.bind (slices_Index_string a0 a1) fun r1 =>
 some (decide (r1.1 ≥ 0), ())

abbrev bill_CheckPayments_x16 : Type := (List D_api_Payment) × (List D_api_Payment) × Int × Int × (List (List UInt8)) × Int × Int × Int × Int × Int × (List (List UInt8)) × Unit
abbrev bill_CheckPayments_r16 : Type := (((Int × Unit) ⊕ Unit) ⊕ ((List D_api_Payment) × (List D_api_Payment) × Int × Int × Unit))
def bill_CheckPayments_b16  (x1 : bill_CheckPayments_x16) (again : bill_CheckPayments_x16 → Option bill_CheckPayments_r16) : Option bill_CheckPayments_r16 :=
 bif decide (x1.2.2.2.2.2.2.1 < x1.2.2.2.2.2.1) then
  Option.bind (idx x1.2.2.2.2.1 x1.2.2.2.2.2.2.1) fun y2 =>
  Option.bind (kit_IsName y2) fun r3 =>
  bif !r3.1 then
   inlM <|
    some (Sum.inl (5, ()))
  else
   chk (decide (0 ≤ (0 : Int)) && decide ((0 : Int) ≤ x1.2.2.2.2.2.2.1) && decide (x1.2.2.2.2.2.2.1 ≤ (List.length x1.2.2.2.2.2.2.2.2.2.2.1 : Int))) <|
   Option.bind (slices_Contains_string (List.drop 0 (List.take (Int.toNat x1.2.2.2.2.2.2.1) x1.2.2.2.2.2.2.2.2.2.2.1)) y2) fun r4 =>
   bif r4.1 then
    inlM <|
     some (Sum.inl (7, ()))
   else
    again (x1.1, x1.2.1, x1.2.2.1, x1.2.2.2.1, x1.2.2.2.2.1, x1.2.2.2.2.2.1, w64 (x1.2.2.2.2.2.2.1 + 1), x1.2.2.2.2.2.2.2.1, x1.2.2.2.2.2.2.2.2.1, x1.2.2.2.2.2.2.2.2.2.1, x1.2.2.2.2.2.2.2.2.2.2.1, ())
 else
  some (Sum.inr (x1.1, x1.2.1, x1.2.2.1, x1.2.2.2.1, ()))

abbrev bill_CheckPayments_x4 : Type := (List D_api_Payment) × (List D_api_Payment) × Int × Int × Unit
abbrev bill_CheckPayments_r4 : Type := ((Int × Unit) ⊕ Unit)
def bill_CheckPayments_b4  (x1 : bill_CheckPayments_x4) (again : bill_CheckPayments_x4 → Option bill_CheckPayments_r4) : Option bill_CheckPayments_r4 :=
 bif decide (x1.2.2.2.1 < x1.2.2.1) then
  Option.bind (idx x1.2.1 x1.2.2.2.1) fun y2 =>
  Option.bind (kit_IsDay y2.1) fun r3 =>
  bif !r3.1 then
   some (Sum.inl (1, ()))
  else
   bif decide (x1.2.2.2.1 > 0) then
    Option.bind (idx x1.1 (w64 (x1.2.2.2.1 - 1))) fun y4 =>
    bif decide (y2.1 < y4.1) then
     some (Sum.inl (8, ()))
    else
     Option.bind (bill_moneyFault y2.2.1) fun r5 =>
     bif r5.1 != 0 then
      some (Sum.inl (r5.1, ()))
     else
      bif decide (((List.length y2.2.2 : Int)) > 100) then
       some (Sum.inl (2, ()))
      else
       joinB (β := ((Int × Unit) ⊕ Unit)) (γ := ((List D_api_Payment) × (List D_api_Payment) × Int × Int × Unit)) (
        iter (X := bill_CheckPayments_x16) (β := bill_CheckPayments_r16) (List.length x1.1 + (List.length x1.2.1 + (Int.natAbs x1.2.2.1 + (Int.natAbs x1.2.2.2.1 + (List.length y2.2.2 + (Int.natAbs ((List.length y2.2.2 : Int)) + (Int.natAbs (0 : Int) + (Int.natAbs y2.1 + (Int.natAbs y2.2.1.1 + (Int.natAbs y2.2.1.2 + (List.length y2.2.2 + 2))))))))))) (x1.1, x1.2.1, x1.2.2.1, x1.2.2.2.1, y2.2.2, (List.length y2.2.2 : Int), 0, y2.1, y2.2.1.1, y2.2.1.2, y2.2.2, ()) (bill_CheckPayments_b16)) fun v6 =>
       again (v6.1, v6.2.1, v6.2.2.1, w64 (v6.2.2.2.1 + 1), ())
   else
    Option.bind (bill_moneyFault y2.2.1) fun r7 =>
    bif r7.1 != 0 then
     some (Sum.inl (r7.1, ()))
    else
     bif decide (((List.length y2.2.2 : Int)) > 100) then
      some (Sum.inl (2, ()))
     else
      joinB (β := ((Int × Unit) ⊕ Unit)) (γ := ((List D_api_Payment) × (List D_api_Payment) × Int × Int × Unit)) (
       iter (X := bill_CheckPayments_x16) (β := bill_CheckPayments_r16) (List.length x1.1 + (List.length x1.2.1 + (Int.natAbs x1.2.2.1 + (Int.natAbs x1.2.2.2.1 + (List.length y2.2.2 + (Int.natAbs ((List.length y2.2.2 : Int)) + (Int.natAbs (0 : Int) + (Int.natAbs y2.1 + (Int.natAbs y2.2.1.1 + (Int.natAbs y2.2.1.2 + (List.length y2.2.2 + 2))))))))))) (x1.1, x1.2.1, x1.2.2.1, x1.2.2.2.1, y2.2.2, (List.length y2.2.2 : Int), 0, y2.1, y2.2.1.1, y2.2.1.2, y2.2.2, ()) (bill_CheckPayments_b16)) fun v8 =>
      again (v8.1, v8.2.1, v8.2.2.1, w64 (v8.2.2.2.1 + 1), ())
 else
  some (Sum.inr ())

def bill_CheckPayments (a0 : List D_api_Payment) : Option (Int × Unit) :=
 bif decide (((List.length a0 : Int)) > 500) then
  some (2, ())
 else
  joinB (β := (Int × Unit)) (γ := Unit) (
   iter (X := bill_CheckPayments_x4) (β := bill_CheckPayments_r4) (List.length a0 + (List.length a0 + (Int.natAbs ((List.length a0 : Int)) + (Int.natAbs (0 : Int) + 2)))) (a0, a0, (List.length a0 : Int), 0, ()) (bill_CheckPayments_b4)) fun _ =>
  some (0, ())

def bill_bothFault (a0 : List D_api_Debt) (a1 : List D_api_Payment) : Option (Int × Unit) :=
 Option.bind (bill_CheckDebts a0) fun r1 =>
 bif r1.1 != 0 then
  some (r1.1, ())
 else
  Option.bind (bill_CheckPayments a1) fun r2 =>
  some (r2.1, ())

def bill_cents (a0 : D_api_Decimal) : Option (Int × Unit) :=
 Option.bind (bill_power (w64 (4 - a0.2))) fun r1 =>
 some (w64 (a0.1 * r1.1), ())

noncomputable def slices_Clone_bill_debtP (a0 : List (Option Nat)) : Option ((List (Option Nat)) × Unit) :=
 bif List.isEmpty a0 then
  both (
   some ([], ())) (
   chk (decide ((0 + (List.length a0)) * 8 ≤ 140737488355328) && decide (0 + (List.length a0) ≤ maxLen)) <|
   some (a0, ()))
 else
  chk (decide ((0 + (List.length a0)) * 8 ≤ 140737488355328) && decide (0 + (List.length a0) ≤ maxLen)) <|
  some (a0, ())

def bill_debt_last (a0 : Option Nat) (a1 : List D_bill_debt) : Option (Int × Unit) :=
 Option.bind (a0) fun h1 =>
 Option.bind (a1[h1]?) fun y2 =>
 Option.bind (a0) fun h3 =>
 Option.bind (a1[h3]?) fun y4 =>
 some (w64 (y2.1.2.1 + y4.1.2.2.2.1), ())

def bill_payments_1 (a0 : Option Nat) (a1 : Option Nat) (a2 : List D_bill_debt) : Option (Int × Unit) :=
 Option.bind (bill_debt_last a0 a2) fun r1 =>
 Option.bind (bill_debt_last a1 a2) fun r2 =>
 some (w64 (r1.1 - r2.1), ())

abbrev slices_insertionSortCmpFunc_bill_debtP_x4 : Type := Int × Int × Unit × Int × Int × (List (Option Nat)) × (List D_bill_debt) × Unit
abbrev slices_insertionSortCmpFunc_bill_debtP_r4 : Type := ((((List (Option Nat)) × Unit) ⊕ ((List (Option Nat)) × (List D_bill_debt) × Unit)) ⊕ (Int × Int × Unit × Int × (List (Option Nat)) × (List D_bill_debt) × Unit))
def slices_insertionSortCmpFunc_bill_debtP_b4  (x1 : slices_insertionSortCmpFunc_bill_debtP_x4) (again : slices_insertionSortCmpFunc_bill_debtP_x4 → Option slices_insertionSortCmpFunc_bill_debtP_r4) : Option slices_insertionSortCmpFunc_bill_debtP_r4 :=
 bif decide (x1.2.2.2.2.1 > x1.1) then
  chk (decide (0 ≤ x1.2.2.2.2.1) && decide (x1.2.2.2.2.1 < (List.length x1.2.2.2.2.2.1 : Int))) <|
  Option.bind (x1.2.2.2.2.2.1[x1.2.2.2.2.1.toNat]?) fun y2 =>
  chk (decide (0 ≤ (w64 (x1.2.2.2.2.1 - 1))) && decide ((w64 (x1.2.2.2.2.1 - 1)) < (List.length x1.2.2.2.2.2.1 : Int))) <|
  Option.bind (x1.2.2.2.2.2.1[(w64 (x1.2.2.2.2.1 - 1)).toNat]?) fun y3 =>
  Option.bind (bill_payments_1 y2 y3 x1.2.2.2.2.2.2.1) fun r4 =>
  bif decide (r4.1 < 0) then
   chk (decide (0 ≤ (w64 (x1.2.2.2.2.1 - 1))) && decide ((w64 (x1.2.2.2.2.1 - 1)) < (List.length x1.2.2.2.2.2.1 : Int))) <|
   Option.bind (x1.2.2.2.2.2.1[(w64 (x1.2.2.2.2.1 - 1)).toNat]?) fun y5 =>
   chk (decide (0 ≤ x1.2.2.2.2.1) && decide (x1.2.2.2.2.1 < (List.length x1.2.2.2.2.2.1 : Int))) <|
   Option.bind (x1.2.2.2.2.2.1[x1.2.2.2.2.1.toNat]?) fun y6 =>
   chk (decide (0 ≤ x1.2.2.2.2.1) && decide (x1.2.2.2.2.1 < (List.length x1.2.2.2.2.2.1 : Int))) <|
   Option.bind (x1.2.2.2.2.2.1[x1.2.2.2.2.1.toNat]?) fun _ =>
   chk (decide (0 ≤ (w64 (x1.2.2.2.2.1 - 1))) && decide ((w64 (x1.2.2.2.2.1 - 1)) < (List.length (List.set x1.2.2.2.2.2.1 x1.2.2.2.2.1.toNat y5) : Int))) <|
   Option.bind ((List.set x1.2.2.2.2.2.1 x1.2.2.2.2.1.toNat y5)[(w64 (x1.2.2.2.2.1 - 1)).toNat]?) fun _ =>
   again (x1.1, x1.2.1, x1.2.2.1, x1.2.2.2.1, w64 (x1.2.2.2.2.1 - 1), List.set (List.set x1.2.2.2.2.2.1 x1.2.2.2.2.1.toNat y5) (w64 (x1.2.2.2.2.1 - 1)).toNat y6, x1.2.2.2.2.2.2.1, ())
  else
   some (Sum.inr (x1.1, x1.2.1, x1.2.2.1, x1.2.2.2.1, x1.2.2.2.2.2.1, x1.2.2.2.2.2.2.1, ()))
 else
  some (Sum.inr (x1.1, x1.2.1, x1.2.2.1, x1.2.2.2.1, x1.2.2.2.2.2.1, x1.2.2.2.2.2.2.1, ()))

abbrev slices_insertionSortCmpFunc_bill_debtP_x1 : Type := Int × Int × Unit × Int × (List (Option Nat)) × (List D_bill_debt) × Unit
abbrev slices_insertionSortCmpFunc_bill_debtP_r1 : Type := (((List (Option Nat)) × Unit) ⊕ ((List (Option Nat)) × (List D_bill_debt) × Unit))
def slices_insertionSortCmpFunc_bill_debtP_b1  (x1 : slices_insertionSortCmpFunc_bill_debtP_x1) (again : slices_insertionSortCmpFunc_bill_debtP_x1 → Option slices_insertionSortCmpFunc_bill_debtP_r1) : Option slices_insertionSortCmpFunc_bill_debtP_r1 :=
 bif decide (x1.2.2.2.1 < x1.2.1) then
  joinB (β := (((List (Option Nat)) × Unit) ⊕ ((List (Option Nat)) × (List D_bill_debt) × Unit))) (γ := (Int × Int × Unit × Int × (List (Option Nat)) × (List D_bill_debt) × Unit)) (
   iter (X := slices_insertionSortCmpFunc_bill_debtP_x4) (β := slices_insertionSortCmpFunc_bill_debtP_r4) (Int.natAbs x1.1 + (Int.natAbs x1.2.1 + (Int.natAbs x1.2.2.2.1 + (Int.natAbs x1.2.2.2.1 + (List.length x1.2.2.2.2.1 + 2))))) (x1.1, x1.2.1, x1.2.2.1, x1.2.2.2.1, x1.2.2.2.1, x1.2.2.2.2.1, x1.2.2.2.2.2.1, ()) (slices_insertionSortCmpFunc_bill_debtP_b4)) fun v2 =>
  again (v2.1, v2.2.1, v2.2.2.1, w64 (v2.2.2.2.1 + 1), v2.2.2.2.2.1, v2.2.2.2.2.2.1, ())
 else
  some (Sum.inr (x1.2.2.2.2.1, x1.2.2.2.2.2.1, ()))

def slices_insertionSortCmpFunc_bill_debtP (a0 : List (Option Nat)) (a1 : Int) (a2 : Int) (a3 : Unit) (a4 : List D_bill_debt) : Option ((List (Option Nat)) × Unit) :=
 joinB (β := ((List (Option Nat)) × Unit)) (γ := ((List (Option Nat)) × (List D_bill_debt) × Unit)) (
  iter (X := slices_insertionSortCmpFunc_bill_debtP_x1) (β := slices_insertionSortCmpFunc_bill_debtP_r1) (Int.natAbs a1 + (Int.natAbs a2 + (Int.natAbs (w64 (a1 + 1)) + (List.length a0 + 2)))) (a1, a2, a3, w64 (a1 + 1), a0, a4, ()) (slices_insertionSortCmpFunc_bill_debtP_b1)) fun v11 =>
 some (v11.1, ())

abbrev slices_swapRangeCmpFunc_bill_debtP_x1 : Type := Int × Int × Int × Int × (List (Option Nat)) × (List D_bill_debt) × Unit
abbrev slices_swapRangeCmpFunc_bill_debtP_r1 : Type := (((List (Option Nat)) × Unit) ⊕ ((List (Option Nat)) × (List D_bill_debt) × Unit))
def slices_swapRangeCmpFunc_bill_debtP_b1  (x1 : slices_swapRangeCmpFunc_bill_debtP_x1) (again : slices_swapRangeCmpFunc_bill_debtP_x1 → Option slices_swapRangeCmpFunc_bill_debtP_r1) : Option slices_swapRangeCmpFunc_bill_debtP_r1 :=
 bif decide (x1.2.2.2.1 < x1.2.2.1) then
  chk (decide (0 ≤ (w64 (x1.2.1 + x1.2.2.2.1))) && decide ((w64 (x1.2.1 + x1.2.2.2.1)) < (List.length x1.2.2.2.2.1 : Int))) <|
  Option.bind (x1.2.2.2.2.1[(w64 (x1.2.1 + x1.2.2.2.1)).toNat]?) fun y2 =>
  chk (decide (0 ≤ (w64 (x1.1 + x1.2.2.2.1))) && decide ((w64 (x1.1 + x1.2.2.2.1)) < (List.length x1.2.2.2.2.1 : Int))) <|
  Option.bind (x1.2.2.2.2.1[(w64 (x1.1 + x1.2.2.2.1)).toNat]?) fun y3 =>
  chk (decide (0 ≤ (w64 (x1.1 + x1.2.2.2.1))) && decide ((w64 (x1.1 + x1.2.2.2.1)) < (List.length x1.2.2.2.2.1 : Int))) <|
  Option.bind (x1.2.2.2.2.1[(w64 (x1.1 + x1.2.2.2.1)).toNat]?) fun _ =>
  chk (decide (0 ≤ (w64 (x1.2.1 + x1.2.2.2.1))) && decide ((w64 (x1.2.1 + x1.2.2.2.1)) < (List.length (List.set x1.2.2.2.2.1 (w64 (x1.1 + x1.2.2.2.1)).toNat y2) : Int))) <|
  Option.bind ((List.set x1.2.2.2.2.1 (w64 (x1.1 + x1.2.2.2.1)).toNat y2)[(w64 (x1.2.1 + x1.2.2.2.1)).toNat]?) fun _ =>
  again (x1.1, x1.2.1, x1.2.2.1, w64 (x1.2.2.2.1 + 1), List.set (List.set x1.2.2.2.2.1 (w64 (x1.1 + x1.2.2.2.1)).toNat y2) (w64 (x1.2.1 + x1.2.2.2.1)).toNat y3, x1.2.2.2.2.2.1, ())
 else
  some (Sum.inr (x1.2.2.2.2.1, x1.2.2.2.2.2.1, ()))

def slices_swapRangeCmpFunc_bill_debtP (a0 : List (Option Nat)) (a1 : Int) (a2 : Int) (a3 : Int) (_a4 : Unit) (a5 : List D_bill_debt) : Option ((List (Option Nat)) × Unit) :=
 joinB (β := ((List (Option Nat)) × Unit)) (γ := ((List (Option Nat)) × (List D_bill_debt) × Unit)) (
  iter (X := slices_swapRangeCmpFunc_bill_debtP_x1) (β := slices_swapRangeCmpFunc_bill_debtP_r1) (Int.natAbs a1 + (Int.natAbs a2 + (Int.natAbs a3 + (Int.natAbs (0 : Int) + (List.length a0 + 2))))) (a1, a2, a3, 0, a0, a5, ()) (slices_swapRangeCmpFunc_bill_debtP_b1)) fun v6 =>
 some (v6.1, ())

abbrev slices_rotateCmpFunc_bill_debtP_x2 : Type := Int × Unit × Int × Int × (List (Option Nat)) × (List D_bill_debt) × Unit
abbrev slices_rotateCmpFunc_bill_debtP_r2 : Type := (((List (Option Nat)) × Unit) ⊕ (Int × Unit × Int × (List (Option Nat)) × (List D_bill_debt) × Unit))
def slices_rotateCmpFunc_bill_debtP_b2  (x1 : slices_rotateCmpFunc_bill_debtP_x2) (again : slices_rotateCmpFunc_bill_debtP_x2 → Option slices_rotateCmpFunc_bill_debtP_r2) : Option slices_rotateCmpFunc_bill_debtP_r2 :=
 bif x1.2.2.1 != x1.2.2.2.1 then
  bif decide (x1.2.2.1 > x1.2.2.2.1) then
   Option.bind (slices_swapRangeCmpFunc_bill_debtP x1.2.2.2.2.1 (w64 (x1.1 - x1.2.2.1)) x1.1 x1.2.2.2.1 x1.2.1 x1.2.2.2.2.2.1) fun r2 =>
   again (x1.1, x1.2.1, w64 (x1.2.2.1 - x1.2.2.2.1), x1.2.2.2.1, r2.1, x1.2.2.2.2.2.1, ())
  else
   Option.bind (slices_swapRangeCmpFunc_bill_debtP x1.2.2.2.2.1 (w64 (x1.1 - x1.2.2.1)) (w64 ((w64 (x1.1 + x1.2.2.2.1)) - x1.2.2.1)) x1.2.2.1 x1.2.1 x1.2.2.2.2.2.1) fun r3 =>
   again (x1.1, x1.2.1, x1.2.2.1, w64 (x1.2.2.2.1 - x1.2.2.1), r3.1, x1.2.2.2.2.2.1, ())
 else
  some (Sum.inr (x1.1, x1.2.1, x1.2.2.1, x1.2.2.2.2.1, x1.2.2.2.2.2.1, ()))

def slices_rotateCmpFunc_bill_debtP (a0 : List (Option Nat)) (a1 : Int) (a2 : Int) (a3 : Int) (a4 : Unit) (a5 : List D_bill_debt) : Option ((List (Option Nat)) × Unit) :=
 joinB (β := ((List (Option Nat)) × Unit)) (γ := (Int × Unit × Int × (List (Option Nat)) × (List D_bill_debt) × Unit)) (
  iter (X := slices_rotateCmpFunc_bill_debtP_x2) (β := slices_rotateCmpFunc_bill_debtP_r2) (Int.natAbs a2 + (Int.natAbs (w64 (a2 - a1)) + (Int.natAbs (w64 (a3 - a2)) + (List.length a0 + 2)))) (a2, a4, w64 (a2 - a1), w64 (a3 - a2), a0, a5, ()) (slices_rotateCmpFunc_bill_debtP_b2)) fun v4 =>
 Option.bind (slices_swapRangeCmpFunc_bill_debtP v4.2.2.2.1 (w64 (v4.1 - v4.2.2.1)) v4.1 v4.2.2.1 v4.2.1 v4.2.2.2.2.1) fun r5 =>
 some (r5.1, ())

abbrev slices_symMergeCmpFunc_bill_debtP_x3 : Type := Int × Unit × Int × Int × (List (Option Nat)) × (List D_bill_debt) × Unit
abbrev slices_symMergeCmpFunc_bill_debtP_r3 : Type := (((List (Option Nat)) × Unit) ⊕ (Int × Int × (List (Option Nat)) × (List D_bill_debt) × Unit))
def slices_symMergeCmpFunc_bill_debtP_b3  (x1 : slices_symMergeCmpFunc_bill_debtP_x3) (again : slices_symMergeCmpFunc_bill_debtP_x3 → Option slices_symMergeCmpFunc_bill_debtP_r3) : Option slices_symMergeCmpFunc_bill_debtP_r3 :=
 bif decide (x1.2.2.1 < x1.2.2.2.1) then
  let n2 : Int := w64 (Int.fdiv (wu64 (w64 (x1.2.2.1 + x1.2.2.2.1))) (2 ^ 1))
  chk (decide (0 ≤ n2) && decide (n2 < (List.length x1.2.2.2.2.1 : Int))) <|
  Option.bind (x1.2.2.2.2.1[n2.toNat]?) fun y3 =>
  chk (decide (0 ≤ x1.1) && decide (x1.1 < (List.length x1.2.2.2.2.1 : Int))) <|
  Option.bind (x1.2.2.2.2.1[x1.1.toNat]?) fun y4 =>
  Option.bind (bill_payments_1 y3 y4 x1.2.2.2.2.2.1) fun r5 =>
  bif decide (r5.1 < 0) then
   again (x1.1, x1.2.1, w64 (n2 + 1), x1.2.2.2.1, x1.2.2.2.2.1, x1.2.2.2.2.2.1, ())
  else
   again (x1.1, x1.2.1, x1.2.2.1, n2, x1.2.2.2.2.1, x1.2.2.2.2.2.1, ())
 else
  some (Sum.inr (x1.1, x1.2.2.1, x1.2.2.2.2.1, x1.2.2.2.2.2.1, ()))

abbrev slices_symMergeCmpFunc_bill_debtP_x9 : Type := Int × Int × (List (Option Nat)) × (List D_bill_debt) × Unit
abbrev slices_symMergeCmpFunc_bill_debtP_r9 : Type := (((List (Option Nat)) × Unit) ⊕ ((List (Option Nat)) × (List D_bill_debt) × Unit))
def slices_symMergeCmpFunc_bill_debtP_b9  (x1 : slices_symMergeCmpFunc_bill_debtP_x9) (again : slices_symMergeCmpFunc_bill_debtP_x9 → Option slices_symMergeCmpFunc_bill_debtP_r9) : Option slices_symMergeCmpFunc_bill_debtP_r9 :=
 bif decide (x1.2.1 < (w64 (x1.1 - 1))) then
  chk (decide (0 ≤ (w64 (x1.2.1 + 1))) && decide ((w64 (x1.2.1 + 1)) < (List.length x1.2.2.1 : Int))) <|
  Option.bind (x1.2.2.1[(w64 (x1.2.1 + 1)).toNat]?) fun y2 =>
  chk (decide (0 ≤ x1.2.1) && decide (x1.2.1 < (List.length x1.2.2.1 : Int))) <|
  Option.bind (x1.2.2.1[x1.2.1.toNat]?) fun y3 =>
  chk (decide (0 ≤ x1.2.1) && decide (x1.2.1 < (List.length x1.2.2.1 : Int))) <|
  Option.bind (x1.2.2.1[x1.2.1.toNat]?) fun _ =>
  chk (decide (0 ≤ (w64 (x1.2.1 + 1))) && decide ((w64 (x1.2.1 + 1)) < (List.length (List.set x1.2.2.1 x1.2.1.toNat y2) : Int))) <|
  Option.bind ((List.set x1.2.2.1 x1.2.1.toNat y2)[(w64 (x1.2.1 + 1)).toNat]?) fun _ =>
  again (x1.1, w64 (x1.2.1 + 1), List.set (List.set x1.2.2.1 x1.2.1.toNat y2) (w64 (x1.2.1 + 1)).toNat y3, x1.2.2.2.1, ())
 else
  some (Sum.inr (x1.2.2.1, x1.2.2.2.1, ()))

abbrev slices_symMergeCmpFunc_bill_debtP_x15 : Type := Int × Unit × Int × Int × (List (Option Nat)) × (List D_bill_debt) × Unit
abbrev slices_symMergeCmpFunc_bill_debtP_r15 : Type := (((List (Option Nat)) × Unit) ⊕ (Int × Int × (List (Option Nat)) × (List D_bill_debt) × Unit))
def slices_symMergeCmpFunc_bill_debtP_b15  (x1 : slices_symMergeCmpFunc_bill_debtP_x15) (again : slices_symMergeCmpFunc_bill_debtP_x15 → Option slices_symMergeCmpFunc_bill_debtP_r15) : Option slices_symMergeCmpFunc_bill_debtP_r15 :=
 bif decide (x1.2.2.1 < x1.2.2.2.1) then
  let n2 : Int := w64 (Int.fdiv (wu64 (w64 (x1.2.2.1 + x1.2.2.2.1))) (2 ^ 1))
  chk (decide (0 ≤ x1.1) && decide (x1.1 < (List.length x1.2.2.2.2.1 : Int))) <|
  Option.bind (x1.2.2.2.2.1[x1.1.toNat]?) fun y3 =>
  chk (decide (0 ≤ n2) && decide (n2 < (List.length x1.2.2.2.2.1 : Int))) <|
  Option.bind (x1.2.2.2.2.1[n2.toNat]?) fun y4 =>
  Option.bind (bill_payments_1 y3 y4 x1.2.2.2.2.2.1) fun r5 =>
  bif !(decide (r5.1 < 0)) then
   again (x1.1, x1.2.1, w64 (n2 + 1), x1.2.2.2.1, x1.2.2.2.2.1, x1.2.2.2.2.2.1, ())
  else
   again (x1.1, x1.2.1, x1.2.2.1, n2, x1.2.2.2.2.1, x1.2.2.2.2.2.1, ())
 else
  some (Sum.inr (x1.1, x1.2.2.1, x1.2.2.2.2.1, x1.2.2.2.2.2.1, ()))

abbrev slices_symMergeCmpFunc_bill_debtP_x21 : Type := Int × Int × (List (Option Nat)) × (List D_bill_debt) × Unit
abbrev slices_symMergeCmpFunc_bill_debtP_r21 : Type := (((List (Option Nat)) × Unit) ⊕ ((List (Option Nat)) × (List D_bill_debt) × Unit))
def slices_symMergeCmpFunc_bill_debtP_b21  (x1 : slices_symMergeCmpFunc_bill_debtP_x21) (again : slices_symMergeCmpFunc_bill_debtP_x21 → Option slices_symMergeCmpFunc_bill_debtP_r21) : Option slices_symMergeCmpFunc_bill_debtP_r21 :=
 bif decide (x1.2.1 > x1.1) then
  chk (decide (0 ≤ (w64 (x1.2.1 - 1))) && decide ((w64 (x1.2.1 - 1)) < (List.length x1.2.2.1 : Int))) <|
  Option.bind (x1.2.2.1[(w64 (x1.2.1 - 1)).toNat]?) fun y2 =>
  chk (decide (0 ≤ x1.2.1) && decide (x1.2.1 < (List.length x1.2.2.1 : Int))) <|
  Option.bind (x1.2.2.1[x1.2.1.toNat]?) fun y3 =>
  chk (decide (0 ≤ x1.2.1) && decide (x1.2.1 < (List.length x1.2.2.1 : Int))) <|
  Option.bind (x1.2.2.1[x1.2.1.toNat]?) fun _ =>
  chk (decide (0 ≤ (w64 (x1.2.1 - 1))) && decide ((w64 (x1.2.1 - 1)) < (List.length (List.set x1.2.2.1 x1.2.1.toNat y2) : Int))) <|
  Option.bind ((List.set x1.2.2.1 x1.2.1.toNat y2)[(w64 (x1.2.1 - 1)).toNat]?) fun _ =>
  again (x1.1, w64 (x1.2.1 - 1), List.set (List.set x1.2.2.1 x1.2.1.toNat y2) (w64 (x1.2.1 - 1)).toNat y3, x1.2.2.2.1, ())
 else
  some (Sum.inr (x1.2.2.1, x1.2.2.2.1, ()))

abbrev slices_symMergeCmpFunc_bill_debtP_x33 : Type := Int × Int × Int × Unit × Int × Int × Int × Int × Int × (List (Option Nat)) × (List D_bill_debt) × Unit
abbrev slices_symMergeCmpFunc_bill_debtP_r33 : Type := (((List (Option Nat)) × Unit) ⊕ (Int × Int × Int × Unit × Int × Int × Int × (List (Option Nat)) × (List D_bill_debt) × Unit))
def slices_symMergeCmpFunc_bill_debtP_b33  (x1 : slices_symMergeCmpFunc_bill_debtP_x33) (again : slices_symMergeCmpFunc_bill_debtP_x33 → Option slices_symMergeCmpFunc_bill_debtP_r33) : Option slices_symMergeCmpFunc_bill_debtP_r33 :=
 bif decide (x1.2.2.2.2.2.2.1 < x1.2.2.2.2.2.2.2.1) then
  let n2 : Int := w64 (Int.fdiv (wu64 (w64 (x1.2.2.2.2.2.2.1 + x1.2.2.2.2.2.2.2.1))) (2 ^ 1))
  chk (decide (0 ≤ (w64 (x1.2.2.2.2.2.2.2.2.1 - n2))) && decide ((w64 (x1.2.2.2.2.2.2.2.2.1 - n2)) < (List.length x1.2.2.2.2.2.2.2.2.2.1 : Int))) <|
  Option.bind (x1.2.2.2.2.2.2.2.2.2.1[(w64 (x1.2.2.2.2.2.2.2.2.1 - n2)).toNat]?) fun y3 =>
  chk (decide (0 ≤ n2) && decide (n2 < (List.length x1.2.2.2.2.2.2.2.2.2.1 : Int))) <|
  Option.bind (x1.2.2.2.2.2.2.2.2.2.1[n2.toNat]?) fun y4 =>
  Option.bind (bill_payments_1 y3 y4 x1.2.2.2.2.2.2.2.2.2.2.1) fun r5 =>
  bif !(decide (r5.1 < 0)) then
   again (x1.1, x1.2.1, x1.2.2.1, x1.2.2.2.1, x1.2.2.2.2.1, x1.2.2.2.2.2.1, w64 (n2 + 1), x1.2.2.2.2.2.2.2.1, x1.2.2.2.2.2.2.2.2.1, x1.2.2.2.2.2.2.2.2.2.1, x1.2.2.2.2.2.2.2.2.2.2.1, ())
  else
   again (x1.1, x1.2.1, x1.2.2.1, x1.2.2.2.1, x1.2.2.2.2.1, x1.2.2.2.2.2.1, x1.2.2.2.2.2.2.1, n2, x1.2.2.2.2.2.2.2.2.1, x1.2.2.2.2.2.2.2.2.2.1, x1.2.2.2.2.2.2.2.2.2.2.1, ())
 else
  some (Sum.inr (x1.1, x1.2.1, x1.2.2.1, x1.2.2.2.1, x1.2.2.2.2.1, x1.2.2.2.2.2.1, x1.2.2.2.2.2.2.1, x1.2.2.2.2.2.2.2.2.2.1, x1.2.2.2.2.2.2.2.2.2.2.1, ()))

def slices_symMergeCmpFunc_bill_debtP_F (self : ((List (Option Nat)) × Int × Int × Int × Unit × (List D_bill_debt) × Unit) → Option ((List (Option Nat)) × Unit)) (a0 : List (Option Nat)) (a1 : Int) (a2 : Int) (a3 : Int) (a4 : Unit) (a5 : List D_bill_debt) : Option ((List (Option Nat)) × Unit) :=
 bif (w64 (a2 - a1)) == 1 then
  joinB (β := ((List (Option Nat)) × Unit)) (γ := (Int × Int × (List (Option Nat)) × (List D_bill_debt) × Unit)) (
   iter (X := slices_symMergeCmpFunc_bill_debtP_x3) (β := slices_symMergeCmpFunc_bill_debtP_r3) (Int.natAbs a1 + (Int.natAbs a2 + (Int.natAbs a3 + (List.length a0 + 2)))) (a1, a4, a2, a3, a0, a5, ()) (slices_symMergeCmpFunc_bill_debtP_b3)) fun v6 =>
  joinB (β := ((List (Option Nat)) × Unit)) (γ := ((List (Option Nat)) × (List D_bill_debt) × Unit)) (
   iter (X := slices_symMergeCmpFunc_bill_debtP_x9) (β := slices_symMergeCmpFunc_bill_debtP_r9) (Int.natAbs v6.2.1 + (Int.natAbs v6.1 + (List.length v6.2.2.1 + 2))) (v6.2.1, v6.1, v6.2.2.1, v6.2.2.2.1, ()) (slices_symMergeCmpFunc_bill_debtP_b9)) fun v12 =>
  some (v12.1, ())
 else
  bif (w64 (a3 - a2)) == 1 then
   joinB (β := ((List (Option Nat)) × Unit)) (γ := (Int × Int × (List (Option Nat)) × (List D_bill_debt) × Unit)) (
    iter (X := slices_symMergeCmpFunc_bill_debtP_x15) (β := slices_symMergeCmpFunc_bill_debtP_r15) (Int.natAbs a2 + (Int.natAbs a1 + (Int.natAbs a2 + (List.length a0 + 2)))) (a2, a4, a1, a2, a0, a5, ()) (slices_symMergeCmpFunc_bill_debtP_b15)) fun v18 =>
   joinB (β := ((List (Option Nat)) × Unit)) (γ := ((List (Option Nat)) × (List D_bill_debt) × Unit)) (
    iter (X := slices_symMergeCmpFunc_bill_debtP_x21) (β := slices_symMergeCmpFunc_bill_debtP_r21) (Int.natAbs v18.2.1 + (Int.natAbs v18.1 + (List.length v18.2.2.1 + 2))) (v18.2.1, v18.1, v18.2.2.1, v18.2.2.2.1, ()) (slices_symMergeCmpFunc_bill_debtP_b21)) fun v24 =>
   some (v24.1, ())
  else
   let n25 : Int := w64 (Int.fdiv (wu64 (w64 (a1 + a3))) (2 ^ 1))
   joinB (β := ((List (Option Nat)) × Unit)) (γ := (Int × Int × Int × Unit × Int × Int × Int × Int × (List (Option Nat)) × (List D_bill_debt) × Unit)) (
    bif decide (a2 > n25) then
     some (Sum.inr (a1, a2, a3, a4, n25, w64 (n25 + a2), w64 ((w64 (n25 + a2)) - a3), n25, a0, a5, ()))
    else
     some (Sum.inr (a1, a2, a3, a4, n25, w64 (n25 + a2), a1, a2, a0, a5, ()))) fun v26 =>
   joinB (β := ((List (Option Nat)) × Unit)) (γ := (Int × Int × Int × Unit × Int × Int × Int × (List (Option Nat)) × (List D_bill_debt) × Unit)) (
    iter (X := slices_symMergeCmpFunc_bill_debtP_x33) (β := slices_symMergeCmpFunc_bill_debtP_r33) (Int.natAbs v26.1 + (Int.natAbs v26.2.1 + (Int.natAbs v26.2.2.1 + (Int.natAbs v26.2.2.2.2.1 + (Int.natAbs v26.2.2.2.2.2.1 + (Int.natAbs v26.2.2.2.2.2.2.1 + (Int.natAbs v26.2.2.2.2.2.2.2.1 + (Int.natAbs (w64 (v26.2.2.2.2.2.1 - 1)) + (List.length v26.2.2.2.2.2.2.2.2.1 + 2))))))))) (v26.1, v26.2.1, v26.2.2.1, v26.2.2.2.1, v26.2.2.2.2.1, v26.2.2.2.2.2.1, v26.2.2.2.2.2.2.1, v26.2.2.2.2.2.2.2.1, w64 (v26.2.2.2.2.2.1 - 1), v26.2.2.2.2.2.2.2.2.1, v26.2.2.2.2.2.2.2.2.2.1, ()) (slices_symMergeCmpFunc_bill_debtP_b33)) fun v32 =>
   bif decide (v32.2.2.2.2.2.2.1 < v32.2.1) then
    joinB (β := ((List (Option Nat)) × Unit)) (γ := (Int × Int × Unit × Int × Int × Int × (List (Option Nat)) × (List D_bill_debt) × Unit)) (
     bif decide (v32.2.1 < (w64 (v32.2.2.2.2.2.1 - v32.2.2.2.2.2.2.1))) then
      Option.bind (slices_rotateCmpFunc_bill_debtP v32.2.2.2.2.2.2.2.1 v32.2.2.2.2.2.2.1 v32.2.1 (w64 (v32.2.2.2.2.2.1 - v32.2.2.2.2.2.2.1)) v32.2.2.2.1 v32.2.2.2.2.2.2.2.2.1) fun r33 =>
      some (Sum.inr (v32.1, v32.2.2.1, v32.2.2.2.1, v32.2.2.2.2.1, v32.2.2.2.2.2.2.1, w64 (v32.2.2.2.2.2.1 - v32.2.2.2.2.2.2.1), r33.1, v32.2.2.2.2.2.2.2.2.1, ()))
     else
      some (Sum.inr (v32.1, v32.2.2.1, v32.2.2.2.1, v32.2.2.2.2.1, v32.2.2.2.2.2.2.1, w64 (v32.2.2.2.2.2.1 - v32.2.2.2.2.2.2.1), v32.2.2.2.2.2.2.2.1, v32.2.2.2.2.2.2.2.2.1, ()))) fun v34 =>
    bif decide (v34.1 < v34.2.2.2.2.1) then
     joinB (β := ((List (Option Nat)) × Unit)) (γ := (Int × Unit × Int × Int × (List (Option Nat)) × (List D_bill_debt) × Unit)) (
      bif decide (v34.2.2.2.2.1 < v34.2.2.2.1) then
       Option.bind (self (v34.2.2.2.2.2.2.1, v34.1, v34.2.2.2.2.1, v34.2.2.2.1, v34.2.2.1, v34.2.2.2.2.2.2.2.1, ())) fun r35 =>
       some (Sum.inr (v34.2.1, v34.2.2.1, v34.2.2.2.1, v34.2.2.2.2.2.1, r35.1, v34.2.2.2.2.2.2.2.1, ()))
      else
       some (Sum.inr (v34.2.1, v34.2.2.1, v34.2.2.2.1, v34.2.2.2.2.2.1, v34.2.2.2.2.2.2.1, v34.2.2.2.2.2.2.2.1, ()))) fun v36 =>
     bif decide (v36.2.2.1 < v36.2.2.2.1) then
      bif decide (v36.2.2.2.1 < v36.1) then
       Option.bind (self (v36.2.2.2.2.1, v36.2.2.1, v36.2.2.2.1, v36.1, v36.2.1, v36.2.2.2.2.2.1, ())) fun r37 =>
       some (r37.1, ())
      else
       some (v36.2.2.2.2.1, ())
     else
      some (v36.2.2.2.2.1, ())
    else
     bif decide (v34.2.2.2.1 < v34.2.2.2.2.2.1) then
      bif decide (v34.2.2.2.2.2.1 < v34.2.1) then
       Option.bind (self (v34.2.2.2.2.2.2.1, v34.2.2.2.1, v34.2.2.2.2.2.1, v34.2.1, v34.2.2.1, v34.2.2.2.2.2.2.2.1, ())) fun r38 =>
       some (r38.1, ())
      else
       some (v34.2.2.2.2.2.2.1, ())
     else
      some (v34.2.2.2.2.2.2.1, ())
   else
    bif decide (v32.1 < v32.2.2.2.2.2.2.1) then
     joinB (β := ((List (Option Nat)) × Unit)) (γ := (Int × Unit × Int × Int × (List (Option Nat)) × (List D_bill_debt) × Unit)) (
      bif decide (v32.2.2.2.2.2.2.1 < v32.2.2.2.2.1) then
       Option.bind (self (v32.2.2.2.2.2.2.2.1, v32.1, v32.2.2.2.2.2.2.1, v32.2.2.2.2.1, v32.2.2.2.1, v32.2.2.2.2.2.2.2.2.1, ())) fun r39 =>
       some (Sum.inr (v32.2.2.1, v32.2.2.2.1, v32.2.2.2.2.1, w64 (v32.2.2.2.2.2.1 - v32.2.2.2.2.2.2.1), r39.1, v32.2.2.2.2.2.2.2.2.1, ()))
      else
       some (Sum.inr (v32.2.2.1, v32.2.2.2.1, v32.2.2.2.2.1, w64 (v32.2.2.2.2.2.1 - v32.2.2.2.2.2.2.1), v32.2.2.2.2.2.2.2.1, v32.2.2.2.2.2.2.2.2.1, ()))) fun v40 =>
     bif decide (v40.2.2.1 < v40.2.2.2.1) then
      bif decide (v40.2.2.2.1 < v40.1) then
       Option.bind (self (v40.2.2.2.2.1, v40.2.2.1, v40.2.2.2.1, v40.1, v40.2.1, v40.2.2.2.2.2.1, ())) fun r41 =>
       some (r41.1, ())
      else
       some (v40.2.2.2.2.1, ())
     else
      some (v40.2.2.2.2.1, ())
    else
     bif decide (v32.2.2.2.2.1 < (w64 (v32.2.2.2.2.2.1 - v32.2.2.2.2.2.2.1))) then
      bif decide ((w64 (v32.2.2.2.2.2.1 - v32.2.2.2.2.2.2.1)) < v32.2.2.1) then
       Option.bind (self (v32.2.2.2.2.2.2.2.1, v32.2.2.2.2.1, w64 (v32.2.2.2.2.2.1 - v32.2.2.2.2.2.2.1), v32.2.2.1, v32.2.2.2.1, v32.2.2.2.2.2.2.2.2.1, ())) fun r42 =>
       some (r42.1, ())
      else
       some (v32.2.2.2.2.2.2.2.1, ())
     else
      some (v32.2.2.2.2.2.2.2.1, ())

def slices_symMergeCmpFunc_bill_debtP_fuel (a0 : List (Option Nat)) (a1 : Int) (a2 : Int) (a3 : Int) (_a4 : Unit) (_a5 : List D_bill_debt) : Nat := List.length a0 + (Int.natAbs a1 + (Int.natAbs a2 + (Int.natAbs a3 + 2)))

def slices_symMergeCmpFunc_bill_debtP (a0 : List (Option Nat)) (a1 : Int) (a2 : Int) (a3 : Int) (a4 : Unit) (a5 : List D_bill_debt) : Option ((List (Option Nat)) × Unit) :=
 recM (fun self x => slices_symMergeCmpFunc_bill_debtP_F self x.1 x.2.1 x.2.2.1 x.2.2.2.1 x.2.2.2.2.1 x.2.2.2.2.2.1) (slices_symMergeCmpFunc_bill_debtP_fuel a0 a1 a2 a3 a4 a5) (a0, a1, a2, a3, a4, a5, ())

abbrev slices_stableCmpFunc_bill_debtP_x2 : Type := Int × Unit × Int × Int × Int × (List (Option Nat)) × (List D_bill_debt) × Unit
abbrev slices_stableCmpFunc_bill_debtP_r2 : Type := (((List (Option Nat)) × Unit) ⊕ (Int × Unit × Int × Int × (List (Option Nat)) × (List D_bill_debt) × Unit))
def slices_stableCmpFunc_bill_debtP_b2  (x1 : slices_stableCmpFunc_bill_debtP_x2) (again : slices_stableCmpFunc_bill_debtP_x2 → Option slices_stableCmpFunc_bill_debtP_r2) : Option slices_stableCmpFunc_bill_debtP_r2 :=
 bif decide (x1.2.2.2.2.1 ≤ x1.1) then
  Option.bind (slices_insertionSortCmpFunc_bill_debtP x1.2.2.2.2.2.1 x1.2.2.2.1 x1.2.2.2.2.1 x1.2.1 x1.2.2.2.2.2.2.1) fun r2 =>
  again (x1.1, x1.2.1, x1.2.2.1, x1.2.2.2.2.1, w64 (x1.2.2.2.2.1 + x1.2.2.1), r2.1, x1.2.2.2.2.2.2.1, ())
 else
  some (Sum.inr (x1.1, x1.2.1, x1.2.2.1, x1.2.2.2.1, x1.2.2.2.2.2.1, x1.2.2.2.2.2.2.1, ()))

abbrev slices_stableCmpFunc_bill_debtP_x9 : Type := Int × Unit × Int × Int × Int × (List (Option Nat)) × (List D_bill_debt) × Unit
abbrev slices_stableCmpFunc_bill_debtP_r9 : Type := ((((List (Option Nat)) × Unit) ⊕ ((List (Option Nat)) × (List D_bill_debt) × Unit)) ⊕ (Int × Unit × Int × Int × (List (Option Nat)) × (List D_bill_debt) × Unit))
def slices_stableCmpFunc_bill_debtP_b9  (x1 : slices_stableCmpFunc_bill_debtP_x9) (again : slices_stableCmpFunc_bill_debtP_x9 → Option slices_stableCmpFunc_bill_debtP_r9) : Option slices_stableCmpFunc_bill_debtP_r9 :=
 bif decide (x1.2.2.2.2.1 ≤ x1.1) then
  Option.bind (slices_symMergeCmpFunc_bill_debtP x1.2.2.2.2.2.1 x1.2.2.2.1 (w64 (x1.2.2.2.1 + x1.2.2.1)) x1.2.2.2.2.1 x1.2.1 x1.2.2.2.2.2.2.1) fun r2 =>
  again (x1.1, x1.2.1, x1.2.2.1, x1.2.2.2.2.1, w64 (x1.2.2.2.2.1 + (w64 (2 * x1.2.2.1))), r2.1, x1.2.2.2.2.2.2.1, ())
 else
  some (Sum.inr (x1.1, x1.2.1, x1.2.2.1, x1.2.2.2.1, x1.2.2.2.2.2.1, x1.2.2.2.2.2.2.1, ()))

abbrev slices_stableCmpFunc_bill_debtP_x7 : Type := Int × Unit × Int × (List (Option Nat)) × (List D_bill_debt) × Unit
abbrev slices_stableCmpFunc_bill_debtP_r7 : Type := (((List (Option Nat)) × Unit) ⊕ ((List (Option Nat)) × (List D_bill_debt) × Unit))
def slices_stableCmpFunc_bill_debtP_b7  (x1 : slices_stableCmpFunc_bill_debtP_x7) (again : slices_stableCmpFunc_bill_debtP_x7 → Option slices_stableCmpFunc_bill_debtP_r7) : Option slices_stableCmpFunc_bill_debtP_r7 :=
 bif decide (x1.2.2.1 < x1.1) then
  joinB (β := (((List (Option Nat)) × Unit) ⊕ ((List (Option Nat)) × (List D_bill_debt) × Unit))) (γ := (Int × Unit × Int × Int × (List (Option Nat)) × (List D_bill_debt) × Unit)) (
   iter (X := slices_stableCmpFunc_bill_debtP_x9) (β := slices_stableCmpFunc_bill_debtP_r9) (Int.natAbs x1.1 + (Int.natAbs x1.2.2.1 + (Int.natAbs (0 : Int) + (Int.natAbs (w64 (2 * x1.2.2.1)) + (List.length x1.2.2.2.1 + 2))))) (x1.1, x1.2.1, x1.2.2.1, 0, w64 (2 * x1.2.2.1), x1.2.2.2.1, x1.2.2.2.2.1, ()) (slices_stableCmpFunc_bill_debtP_b9)) fun v2 =>
  bif decide ((w64 (v2.2.2.2.1 + v2.2.2.1)) < v2.1) then
   Option.bind (slices_symMergeCmpFunc_bill_debtP v2.2.2.2.2.1 v2.2.2.2.1 (w64 (v2.2.2.2.1 + v2.2.2.1)) v2.1 v2.2.1 v2.2.2.2.2.2.1) fun r3 =>
   again (v2.1, v2.2.1, w64 (v2.2.2.1 * 2), r3.1, v2.2.2.2.2.2.1, ())
  else
   again (v2.1, v2.2.1, w64 (v2.2.2.1 * 2), v2.2.2.2.2.1, v2.2.2.2.2.2.1, ())
 else
  some (Sum.inr (x1.2.2.2.1, x1.2.2.2.2.1, ()))

def slices_stableCmpFunc_bill_debtP (a0 : List (Option Nat)) (a1 : Int) (a2 : Unit) (a3 : List D_bill_debt) : Option ((List (Option Nat)) × Unit) :=
 joinB (β := ((List (Option Nat)) × Unit)) (γ := (Int × Unit × Int × Int × (List (Option Nat)) × (List D_bill_debt) × Unit)) (
  iter (X := slices_stableCmpFunc_bill_debtP_x2) (β := slices_stableCmpFunc_bill_debtP_r2) (Int.natAbs a1 + (Int.natAbs (20 : Int) + (Int.natAbs (0 : Int) + (Int.natAbs (20 : Int) + (List.length a0 + 2))))) (a1, a2, 20, 0, 20, a0, a3, ()) (slices_stableCmpFunc_bill_debtP_b2)) fun v3 =>
 Option.bind (slices_insertionSortCmpFunc_bill_debtP v3.2.2.2.2.1 v3.2.2.2.1 v3.1 v3.2.1 v3.2.2.2.2.2.1) fun r4 =>
 joinB (β := ((List (Option Nat)) × Unit)) (γ := ((List (Option Nat)) × (List D_bill_debt) × Unit)) (
  iter (X := slices_stableCmpFunc_bill_debtP_x7) (β := slices_stableCmpFunc_bill_debtP_r7) (Int.natAbs v3.1 + (Int.natAbs v3.2.2.1 + (List.length r4.1 + 2))) (v3.1, v3.2.1, v3.2.2.1, r4.1, v3.2.2.2.2.2.1, ()) (slices_stableCmpFunc_bill_debtP_b7)) fun v10 =>
 some (v10.1, ())

def slices_SortStableFunc_bill_debtP (a0 : List (Option Nat)) (a1 : Unit) (a2 : List D_bill_debt) : Option ((List (Option Nat)) × Unit) :=
 Option.bind (slices_stableCmpFunc_bill_debtP a0 ((List.length a0 : Int)) a1 a2) fun r1 =>
 some (r1.1, ())

def bill_debt_there (a0 : Option Nat) (a1 : Int) (a2 : List D_bill_debt) : Option (Bool × Unit) :=
 Option.bind (a0) fun h1 =>
 Option.bind (a2[h1]?) fun y2 =>
 bif decide (y2.1.2.1 ≤ a1) then
  Option.bind (a0) fun h3 =>
  Option.bind (a2[h3]?) fun y4 =>
  some (y4.2.2.2.2 == 0, ())
 else
  some (false, ())

def bill_debt_discount (a0 : Option Nat) (a1 : List D_bill_debt) : Option (Int × Unit) :=
 Option.bind (a0) fun h1 =>
 Option.bind (a1[h1]?) fun y2 =>
 Option.bind (a0) fun h3 =>
 Option.bind (a1[h3]?) fun y4 =>
 Option.bind (a0) fun h5 =>
 Option.bind (a1[h5]?) fun y6 =>
 Option.bind (bill_power (w64 (4 - y6.1.2.2.1.2))) fun r7 =>
 let n8 : Int := w64 ((w64 (Int.tdiv (w64 (y2.1.2.2.1.1 * y4.1.2.2.2.2.2)) 1000)) * r7.1)
 Option.bind (a0) fun h9 =>
 Option.bind (a1[h9]?) fun y10 =>
 some (if y10.2.1 < n8 then y10.2.1 else n8, ())

def bill_debt_pay (a0 : Option Nat) (a1 : Int) (a2 : Int) (a3 : List D_bill_debt) : Option (Int × (List D_bill_debt) × Unit) :=
 Option.bind (a0) fun h1 =>
 Option.bind (a3[h1]?) fun y2 =>
 Option.bind (a0) fun h3 =>
 Option.bind (a3[h3]?) fun y4 =>
 Option.bind (a0) fun h5 =>
 Option.bind (a3[h5]?) fun y6 =>
 Option.bind (a0) fun h7 =>
 Option.bind (a3[h7]?) fun y8 =>
 Option.bind (a0) fun h9 =>
 Option.bind ((List.set a3 h7 (y8.1, y8.2.1, w64 (y4.2.2.1 + (if y2.2.1 < a1 then y2.2.1 else a1)), y8.2.2.2))[h9]?) fun y10 =>
 Option.bind (a0) fun h11 =>
 Option.bind ((List.set (List.set a3 h7 (y8.1, y8.2.1, w64 (y4.2.2.1 + (if y2.2.1 < a1 then y2.2.1 else a1)), y8.2.2.2)) h9 (y10.1, w64 (y6.2.1 - (if y2.2.1 < a1 then y2.2.1 else a1)), y10.2.2))[h11]?) fun y12 =>
 bif y12.2.1 == 0 then
  Option.bind (a0) fun h13 =>
  Option.bind ((List.set (List.set a3 h7 (y8.1, y8.2.1, w64 (y4.2.2.1 + (if y2.2.1 < a1 then y2.2.1 else a1)), y8.2.2.2)) h9 (y10.1, w64 (y6.2.1 - (if y2.2.1 < a1 then y2.2.1 else a1)), y10.2.2))[h13]?) fun y14 =>
  some (w64 (a1 - (if y2.2.1 < a1 then y2.2.1 else a1)), List.set (List.set (List.set a3 h7 (y8.1, y8.2.1, w64 (y4.2.2.1 + (if y2.2.1 < a1 then y2.2.1 else a1)), y8.2.2.2)) h9 (y10.1, w64 (y6.2.1 - (if y2.2.1 < a1 then y2.2.1 else a1)), y10.2.2)) h13 (y14.1, y14.2.1, y14.2.2.1, y14.2.2.2.1, a2), ())
 else
  some (w64 (a1 - (if y2.2.1 < a1 then y2.2.1 else a1)), List.set (List.set a3 h7 (y8.1, y8.2.1, w64 (y4.2.2.1 + (if y2.2.1 < a1 then y2.2.1 else a1)), y8.2.2.2)) h9 (y10.1, w64 (y6.2.1 - (if y2.2.1 < a1 then y2.2.1 else a1)), y10.2.2), ())

def bill_debt_named (a0 : Option Nat) (a1 : Int) (a2 : Int) (a3 : List D_bill_debt) : Option (Int × (List D_bill_debt) × Unit) :=
 Option.bind (bill_debt_discount a0 a3) fun r1 =>
 Option.bind (a0) fun h2 =>
 Option.bind (a3[h2]?) fun y3 =>
 bif decide ((w64 (y3.2.1 - r1.1)) > a1) then
  Option.bind (bill_debt_pay a0 a1 a2 a3) fun r4 =>
  some (r4.1, r4.2.1, ())
 else
  Option.bind (a0) fun h5 =>
  Option.bind (a3[h5]?) fun y6 =>
  Option.bind (a0) fun h7 =>
  Option.bind (a3[h7]?) fun y8 =>
  bif decide (a2 > (w64 (y6.1.2.1 + y8.1.2.2.2.2.1))) then
   Option.bind (bill_debt_pay a0 a1 a2 a3) fun r9 =>
   some (r9.1, r9.2.1, ())
  else
   Option.bind (a0) fun h10 =>
   Option.bind (a3[h10]?) fun y11 =>
   Option.bind (a0) fun h12 =>
   Option.bind (a3[h12]?) fun y13 =>
   Option.bind (a0) fun h14 =>
   Option.bind (a3[h14]?) fun y15 =>
   Option.bind (a0) fun h16 =>
   Option.bind ((List.set a3 h14 (y15.1, y15.2.1, w64 (y13.2.2.1 + (w64 (y11.2.1 - r1.1))), y15.2.2.2))[h16]?) fun y17 =>
   Option.bind (a0) fun h18 =>
   Option.bind ((List.set (List.set a3 h14 (y15.1, y15.2.1, w64 (y13.2.2.1 + (w64 (y11.2.1 - r1.1))), y15.2.2.2)) h16 (y17.1, y17.2.1, y17.2.2.1, r1.1, y17.2.2.2.2))[h18]?) fun y19 =>
   Option.bind (a0) fun h20 =>
   Option.bind ((List.set (List.set (List.set a3 h14 (y15.1, y15.2.1, w64 (y13.2.2.1 + (w64 (y11.2.1 - r1.1))), y15.2.2.2)) h16 (y17.1, y17.2.1, y17.2.2.1, r1.1, y17.2.2.2.2)) h18 (y19.1, 0, y19.2.2))[h20]?) fun y21 =>
   some (w64 (a1 - (w64 (y11.2.1 - r1.1))), List.set (List.set (List.set (List.set a3 h14 (y15.1, y15.2.1, w64 (y13.2.2.1 + (w64 (y11.2.1 - r1.1))), y15.2.2.2)) h16 (y17.1, y17.2.1, y17.2.2.1, r1.1, y17.2.2.2.2)) h18 (y19.1, 0, y19.2.2)) h20 (y21.1, y21.2.1, y21.2.2.1, y21.2.2.2.1, a2), ())

abbrev bill_payments_x4 : Type := (List D_api_Payment) × Int × (List (Option Nat)) × (List D_api_Debt) × Int × Int × (List ((List UInt8) × (Option Nat))) × (List D_bill_debt) × Unit
abbrev bill_payments_r4 : Type := (((List (Option Nat)) × (List Int) × (List D_bill_debt) × Unit) ⊕ ((List D_api_Payment) × Int × (List (Option Nat)) × (List ((List UInt8) × (Option Nat))) × (List D_bill_debt) × Unit))
noncomputable def bill_payments_b4  (x1 : bill_payments_x4) (again : bill_payments_x4 → Option bill_payments_r4) : Option bill_payments_r4 :=
 bif decide (x1.2.2.2.2.2.1 < x1.2.2.2.2.1) then
  Option.bind (idx x1.2.2.2.1 x1.2.2.2.2.2.1) fun y2 =>
  Option.bind (bill_cents y2.2.2.1) fun r3 =>
  chk (decide (((List.length x1.2.2.1) + 1) * 8 ≤ 140737488355328) && decide ((List.length x1.2.2.1) + 1 ≤ maxLen)) <|
  again (x1.1, x1.2.1, x1.2.2.1 ++ [(some (List.length x1.2.2.2.2.2.2.2.1))], x1.2.2.2.1, x1.2.2.2.2.1, w64 (x1.2.2.2.2.2.1 + 1), mset (k := .str) (v := .hnd) x1.2.2.2.2.2.2.1 y2.1 (some (List.length x1.2.2.2.2.2.2.2.1)), x1.2.2.2.2.2.2.2.1 ++ [(y2, r3.1, 0, 0, 0)], ())
 else
  some (Sum.inr (x1.1, x1.2.1, x1.2.2.1, x1.2.2.2.2.2.2.1, x1.2.2.2.2.2.2.2.1, ()))

abbrev bill_payments_x19 : Type := Int × (List (Option Nat)) × (List Int) × Int × (List D_api_Payment) × Int × Int × (List (List UInt8)) × Int × Int × Int × Int × Int × (List (List UInt8)) × (List (Option Nat)) × (List ((List UInt8) × (Option Nat))) × (List D_bill_debt) × Unit
abbrev bill_payments_r19 : Type := ((((List (Option Nat)) × (List Int) × (List D_bill_debt) × Unit) ⊕ ((List (Option Nat)) × (List Int) × (List D_bill_debt) × Unit)) ⊕ (Int × (List (Option Nat)) × (List Int) × Int × (List D_api_Payment) × Int × Int × Int × Int × Int × (List (List UInt8)) × (List (Option Nat)) × (List ((List UInt8) × (Option Nat))) × (List D_bill_debt) × Unit))
noncomputable def bill_payments_b19  (x1 : bill_payments_x19) (again : bill_payments_x19 → Option bill_payments_r19) : Option bill_payments_r19 :=
 bif decide (x1.2.2.2.2.2.2.2.2.2.1 < x1.2.2.2.2.2.2.2.2.1) then
  Option.bind (idx x1.2.2.2.2.2.2.2.1 x1.2.2.2.2.2.2.2.2.2.1) fun y2 =>
  bif !(Option.isNone (Option.getD (mget (k := .str) (v := .hnd) x1.2.2.2.2.2.2.2.2.2.2.2.2.2.2.2.1 y2) none)) then
   Option.bind (bill_debt_there (Option.getD (mget (k := .str) (v := .hnd) x1.2.2.2.2.2.2.2.2.2.2.2.2.2.2.2.1 y2) none) x1.2.2.2.2.2.2.2.2.2.2.1 x1.2.2.2.2.2.2.2.2.2.2.2.2.2.2.2.2.1) fun r3 =>
   bif r3.1 then
    Option.bind (bill_debt_named (Option.getD (mget (k := .str) (v := .hnd) x1.2.2.2.2.2.2.2.2.2.2.2.2.2.2.2.1 y2) none) x1.2.2.2.1 x1.2.2.2.2.2.2.2.2.2.2.1 x1.2.2.2.2.2.2.2.2.2.2.2.2.2.2.2.2.1) fun r4 =>
    again (x1.1, x1.2.1, x1.2.2.1, r4.1, x1.2.2.2.2.1, x1.2.2.2.2.2.1, x1.2.2.2.2.2.2.1, x1.2.2.2.2.2.2.2.1, x1.2.2.2.2.2.2.2.2.1, w64 (x1.2.2.2.2.2.2.2.2.2.1 + 1), x1.2.2.2.2.2.2.2.2.2.2.1, x1.2.2.2.2.2.2.2.2.2.2.2.1, x1.2.2.2.2.2.2.2.2.2.2.2.2.1, x1.2.2.2.2.2.2.2.2.2.2.2.2.2.1, x1.2.2.2.2.2.2.2.2.2.2.2.2.2.2.1, x1.2.2.2.2.2.2.2.2.2.2.2.2.2.2.2.1, r4.2.1, ())
   else
    again (x1.1, x1.2.1, x1.2.2.1, x1.2.2.2.1, x1.2.2.2.2.1, x1.2.2.2.2.2.1, x1.2.2.2.2.2.2.1, x1.2.2.2.2.2.2.2.1, x1.2.2.2.2.2.2.2.2.1, w64 (x1.2.2.2.2.2.2.2.2.2.1 + 1), x1.2.2.2.2.2.2.2.2.2.2.1, x1.2.2.2.2.2.2.2.2.2.2.2.1, x1.2.2.2.2.2.2.2.2.2.2.2.2.1, x1.2.2.2.2.2.2.2.2.2.2.2.2.2.1, x1.2.2.2.2.2.2.2.2.2.2.2.2.2.2.1, x1.2.2.2.2.2.2.2.2.2.2.2.2.2.2.2.1, x1.2.2.2.2.2.2.2.2.2.2.2.2.2.2.2.2.1, ())
  else
   again (x1.1, x1.2.1, x1.2.2.1, x1.2.2.2.1, x1.2.2.2.2.1, x1.2.2.2.2.2.1, x1.2.2.2.2.2.2.1, x1.2.2.2.2.2.2.2.1, x1.2.2.2.2.2.2.2.2.1, w64 (x1.2.2.2.2.2.2.2.2.2.1 + 1), x1.2.2.2.2.2.2.2.2.2.2.1, x1.2.2.2.2.2.2.2.2.2.2.2.1, x1.2.2.2.2.2.2.2.2.2.2.2.2.1, x1.2.2.2.2.2.2.2.2.2.2.2.2.2.1, x1.2.2.2.2.2.2.2.2.2.2.2.2.2.2.1, x1.2.2.2.2.2.2.2.2.2.2.2.2.2.2.2.1, x1.2.2.2.2.2.2.2.2.2.2.2.2.2.2.2.2.1, ())
 else
  some (Sum.inr (x1.1, x1.2.1, x1.2.2.1, x1.2.2.2.1, x1.2.2.2.2.1, x1.2.2.2.2.2.1, x1.2.2.2.2.2.2.1, x1.2.2.2.2.2.2.2.2.2.2.1, x1.2.2.2.2.2.2.2.2.2.2.2.1, x1.2.2.2.2.2.2.2.2.2.2.2.2.1, x1.2.2.2.2.2.2.2.2.2.2.2.2.2.1, x1.2.2.2.2.2.2.2.2.2.2.2.2.2.2.1, x1.2.2.2.2.2.2.2.2.2.2.2.2.2.2.2.1, x1.2.2.2.2.2.2.2.2.2.2.2.2.2.2.2.2.1, ()))

abbrev bill_payments_x26 : Type := Int × (List (Option Nat)) × (List Int) × Int × (List D_api_Payment) × Int × Int × Int × Int × Int × Int × Int × (List (List UInt8)) × (List (Option Nat)) × (List ((List UInt8) × (Option Nat))) × (List D_bill_debt) × Unit
abbrev bill_payments_r26 : Type := ((((List (Option Nat)) × (List Int) × (List D_bill_debt) × Unit) ⊕ ((List (Option Nat)) × (List Int) × (List D_bill_debt) × Unit)) ⊕ (Int × (List (Option Nat)) × (List Int) × Int × (List D_api_Payment) × Int × Int × (List (Option Nat)) × (List ((List UInt8) × (Option Nat))) × (List D_bill_debt) × Unit))
noncomputable def bill_payments_b26  (x1 : bill_payments_x26) (again : bill_payments_x26 → Option bill_payments_r26) : Option bill_payments_r26 :=
 bif decide (x1.2.2.2.2.2.2.2.2.1 < x1.2.2.2.2.2.2.2.1) then
  chk (decide (0 ≤ x1.2.2.2.2.2.2.2.2.1) && decide (x1.2.2.2.2.2.2.2.2.1 < (List.length x1.2.2.2.2.2.2.2.2.2.2.2.2.2.1 : Int))) <|
  Option.bind (x1.2.2.2.2.2.2.2.2.2.2.2.2.2.1[x1.2.2.2.2.2.2.2.2.1.toNat]?) fun y2 =>
  bif decide (x1.2.2.2.1 > 0) then
   Option.bind (bill_debt_there y2 x1.2.2.2.2.2.2.2.2.2.1 x1.2.2.2.2.2.2.2.2.2.2.2.2.2.2.2.1) fun r3 =>
   bif r3.1 then
    Option.bind (bill_debt_pay y2 x1.2.2.2.1 x1.2.2.2.2.2.2.2.2.2.1 x1.2.2.2.2.2.2.2.2.2.2.2.2.2.2.2.1) fun r4 =>
    again (x1.1, x1.2.1, x1.2.2.1, r4.1, x1.2.2.2.2.1, x1.2.2.2.2.2.1, x1.2.2.2.2.2.2.1, x1.2.2.2.2.2.2.2.1, w64 (x1.2.2.2.2.2.2.2.2.1 + 1), x1.2.2.2.2.2.2.2.2.2.1, x1.2.2.2.2.2.2.2.2.2.2.1, x1.2.2.2.2.2.2.2.2.2.2.2.1, x1.2.2.2.2.2.2.2.2.2.2.2.2.1, x1.2.2.2.2.2.2.2.2.2.2.2.2.2.1, x1.2.2.2.2.2.2.2.2.2.2.2.2.2.2.1, r4.2.1, ())
   else
    again (x1.1, x1.2.1, x1.2.2.1, x1.2.2.2.1, x1.2.2.2.2.1, x1.2.2.2.2.2.1, x1.2.2.2.2.2.2.1, x1.2.2.2.2.2.2.2.1, w64 (x1.2.2.2.2.2.2.2.2.1 + 1), x1.2.2.2.2.2.2.2.2.2.1, x1.2.2.2.2.2.2.2.2.2.2.1, x1.2.2.2.2.2.2.2.2.2.2.2.1, x1.2.2.2.2.2.2.2.2.2.2.2.2.1, x1.2.2.2.2.2.2.2.2.2.2.2.2.2.1, x1.2.2.2.2.2.2.2.2.2.2.2.2.2.2.1, x1.2.2.2.2.2.2.2.2.2.2.2.2.2.2.2.1, ())
  else
   again (x1.1, x1.2.1, x1.2.2.1, x1.2.2.2.1, x1.2.2.2.2.1, x1.2.2.2.2.2.1, x1.2.2.2.2.2.2.1, x1.2.2.2.2.2.2.2.1, w64 (x1.2.2.2.2.2.2.2.2.1 + 1), x1.2.2.2.2.2.2.2.2.2.1, x1.2.2.2.2.2.2.2.2.2.2.1, x1.2.2.2.2.2.2.2.2.2.2.2.1, x1.2.2.2.2.2.2.2.2.2.2.2.2.1, x1.2.2.2.2.2.2.2.2.2.2.2.2.2.1, x1.2.2.2.2.2.2.2.2.2.2.2.2.2.2.1, x1.2.2.2.2.2.2.2.2.2.2.2.2.2.2.2.1, ())
 else
  some (Sum.inr (x1.1, x1.2.1, x1.2.2.1, x1.2.2.2.1, x1.2.2.2.2.1, x1.2.2.2.2.2.1, x1.2.2.2.2.2.2.1, x1.2.2.2.2.2.2.2.2.2.2.2.2.2.1, x1.2.2.2.2.2.2.2.2.2.2.2.2.2.2.1, x1.2.2.2.2.2.2.2.2.2.2.2.2.2.2.2.1, ()))

abbrev bill_payments_x14 : Type := Int × (List (Option Nat)) × (List Int) × (List D_api_Payment) × Int × Int × (List (Option Nat)) × (List ((List UInt8) × (Option Nat))) × (List D_bill_debt) × Unit
abbrev bill_payments_r14 : Type := (((List (Option Nat)) × (List Int) × (List D_bill_debt) × Unit) ⊕ ((List (Option Nat)) × (List Int) × (List D_bill_debt) × Unit))
noncomputable def bill_payments_b14  (x1 : bill_payments_x14) (again : bill_payments_x14 → Option bill_payments_r14) : Option bill_payments_r14 :=
 bif decide (x1.2.2.2.2.2.1 < x1.2.2.2.2.1) then
  Option.bind (idx x1.2.2.2.1 x1.2.2.2.2.2.1) fun y2 =>
  bif decide (y2.1 > x1.1) then
   some (Sum.inr (x1.2.1, x1.2.2.1, x1.2.2.2.2.2.2.2.2.1, ()))
  else
   Option.bind (bill_cents y2.2.1) fun r3 =>
   joinB (β := (((List (Option Nat)) × (List Int) × (List D_bill_debt) × Unit) ⊕ ((List (Option Nat)) × (List Int) × (List D_bill_debt) × Unit))) (γ := (Int × (List (Option Nat)) × (List Int) × Int × (List D_api_Payment) × Int × Int × Int × Int × Int × (List (List UInt8)) × (List (Option Nat)) × (List ((List UInt8) × (Option Nat))) × (List D_bill_debt) × Unit)) (
    iter (X := bill_payments_x19) (β := bill_payments_r19) (Int.natAbs x1.1 + (List.length x1.2.1 + (List.length x1.2.2.1 + (Int.natAbs r3.1 + (List.length x1.2.2.2.1 + (Int.natAbs x1.2.2.2.2.1 + (Int.natAbs x1.2.2.2.2.2.1 + (List.length y2.2.2 + (Int.natAbs ((List.length y2.2.2 : Int)) + (Int.natAbs (0 : Int) + (Int.natAbs y2.1 + (Int.natAbs y2.2.1.1 + (Int.natAbs y2.2.1.2 + (List.length y2.2.2 + (List.length x1.2.2.2.2.2.2.1 + (List.length x1.2.2.2.2.2.2.2.1 + (List.length x1.2.2.2.2.2.2.2.2.1 + 2))))))))))))))))) (x1.1, x1.2.1, x1.2.2.1, r3.1, x1.2.2.2.1, x1.2.2.2.2.1, x1.2.2.2.2.2.1, y2.2.2, (List.length y2.2.2 : Int), 0, y2.1, y2.2.1.1, y2.2.1.2, y2.2.2, x1.2.2.2.2.2.2.1, x1.2.2.2.2.2.2.2.1, x1.2.2.2.2.2.2.2.2.1, ()) (bill_payments_b19)) fun v4 =>
   joinB (β := (((List (Option Nat)) × (List Int) × (List D_bill_debt) × Unit) ⊕ ((List (Option Nat)) × (List Int) × (List D_bill_debt) × Unit))) (γ := (Int × (List (Option Nat)) × (List Int) × Int × (List D_api_Payment) × Int × Int × (List (Option Nat)) × (List ((List UInt8) × (Option Nat))) × (List D_bill_debt) × Unit)) (
    iter (X := bill_payments_x26) (β := bill_payments_r26) (Int.natAbs v4.1 + (List.length v4.2.1 + (List.length v4.2.2.1 + (Int.natAbs v4.2.2.2.1 + (List.length v4.2.2.2.2.1 + (Int.natAbs v4.2.2.2.2.2.1 + (Int.natAbs v4.2.2.2.2.2.2.1 + (Int.natAbs ((List.length v4.2.2.2.2.2.2.2.2.2.2.2.1 : Int)) + (Int.natAbs (0 : Int) + (Int.natAbs v4.2.2.2.2.2.2.2.1 + (Int.natAbs v4.2.2.2.2.2.2.2.2.1 + (Int.natAbs v4.2.2.2.2.2.2.2.2.2.1 + (List.length v4.2.2.2.2.2.2.2.2.2.2.1 + (List.length v4.2.2.2.2.2.2.2.2.2.2.2.1 + (List.length v4.2.2.2.2.2.2.2.2.2.2.2.2.1 + (List.length v4.2.2.2.2.2.2.2.2.2.2.2.2.2.1 + 2)))))))))))))))) (v4.1, v4.2.1, v4.2.2.1, v4.2.2.2.1, v4.2.2.2.2.1, v4.2.2.2.2.2.1, v4.2.2.2.2.2.2.1, (List.length v4.2.2.2.2.2.2.2.2.2.2.2.1 : Int), 0, v4.2.2.2.2.2.2.2.1, v4.2.2.2.2.2.2.2.2.1, v4.2.2.2.2.2.2.2.2.2.1, v4.2.2.2.2.2.2.2.2.2.2.1, v4.2.2.2.2.2.2.2.2.2.2.2.1, v4.2.2.2.2.2.2.2.2.2.2.2.2.1, v4.2.2.2.2.2.2.2.2.2.2.2.2.2.1, ()) (bill_payments_b26)) fun v5 =>
   chk (decide (((List.length v5.2.2.1) + 1) * 8 ≤ 140737488355328) && decide ((List.length v5.2.2.1) + 1 ≤ maxLen)) <|
   again (v5.1, v5.2.1, v5.2.2.1 ++ [v5.2.2.2.1], v5.2.2.2.2.1, v5.2.2.2.2.2.1, w64 (v5.2.2.2.2.2.2.1 + 1), v5.2.2.2.2.2.2.2.1, v5.2.2.2.2.2.2.2.2.1, v5.2.2.2.2.2.2.2.2.2.1, ())
 else
  some (Sum.inr (x1.2.1, x1.2.2.1, x1.2.2.2.2.2.2.2.2.1, ()))

noncomputable def bill_payments (a0 : List D_api_Debt) (a1 : List D_api_Payment) (a2 : Int) (a3 : List D_bill_debt) : Option ((List (Option Nat)) × (List Int) × (List D_bill_debt) × Unit) :=
 joinB (β := ((List (Option Nat)) × (List Int) × (List D_bill_debt) × Unit)) (γ := ((List D_api_Payment) × Int × (List (Option Nat)) × (List ((List UInt8) × (Option Nat))) × (List D_bill_debt) × Unit)) (
  iter (X := bill_payments_x4) (β := bill_payments_r4) (List.length a1 + (Int.natAbs a2 + (List.length ([] : List (Option Nat)) + (List.length a0 + (Int.natAbs ((List.length a0 : Int)) + (Int.natAbs (0 : Int) + (List.length ([] : List ((List UInt8) × (Option Nat))) + (List.length a3 + 2)))))))) (a1, a2, [], a0, (List.length a0 : Int), 0, [], a3, ()) (bill_payments_b4)) fun v4 =>
 Option.bind (slices_Clone_bill_debtP v4.2.2.1) fun r5 =>
 Option.bind (slices_SortStableFunc_bill_debtP r5.1 () v4.2.2.2.2.1) fun r6 =>
 joinB (β := ((List (Option Nat)) × (List Int) × (List D_bill_debt) × Unit)) (γ := ((List (Option Nat)) × (List Int) × (List D_bill_debt) × Unit)) (
  iter (X := bill_payments_x14) (β := bill_payments_r14) (Int.natAbs v4.2.1 + (List.length v4.2.2.1 + (List.length ([] : List Int) + (List.length v4.1 + (Int.natAbs ((List.length v4.1 : Int)) + (Int.natAbs (0 : Int) + (List.length r6.1 + (List.length v4.2.2.2.1 + (List.length v4.2.2.2.2.1 + 2))))))))) (v4.2.1, v4.2.2.1, [], v4.1, (List.length v4.1 : Int), 0, r6.1, v4.2.2.2.1, v4.2.2.2.2.1, ()) (bill_payments_b14)) fun v20 =>
 some (v20.1, v20.2.1, v20.2.2.1, ())

abbrev whole_trimmed_x1 : Type := (List Int) × Unit
abbrev whole_trimmed_r1 : Type := (((List Int) × Unit) ⊕ ((List Int) × Unit))
def whole_trimmed_b1  (x1 : whole_trimmed_x1) (again : whole_trimmed_x1 → Option whole_trimmed_r1) : Option whole_trimmed_r1 :=
 bif decide (((List.length x1.1 : Int)) > 0) then
  Option.bind (idx x1.1 (w64 (((List.length x1.1 : Int)) - 1))) fun y2 =>
  bif y2 == 0 then
   chk (decide (0 ≤ (0 : Int)) && decide ((0 : Int) ≤ (w64 (((List.length x1.1 : Int)) - 1))) && decide ((w64 (((List.length x1.1 : Int)) - 1)) ≤ (List.length x1.1 : Int))) <|
   again (List.drop 0 (List.take (Int.toNat (w64 (((List.length x1.1 : Int)) - 1))) x1.1), ())
  else
   some (Sum.inr (x1.1, ()))
 else
  some (Sum.inr (x1.1, ()))

def whole_trimmed (a0 : List Int) : Option ((List Int) × Unit) :=
 joinB (β := ((List Int) × Unit)) (γ := ((List Int) × Unit)) (
  iter (X := whole_trimmed_x1) (β := whole_trimmed_r1) (List.length a0 + 2) (a0, ()) (whole_trimmed_b1)) fun v3 =>
 some (v3.1, ())

def whole_made (a0 : Bool) (a1 : List Int) : Option (D_whole_Int × Unit) :=
 Option.bind (whole_trimmed a1) fun r1 =>
 bif a0 then
  some ((decide (((List.length r1.1 : Int)) > 0), r1.1), ())
 else
  some ((false, r1.1), ())

def whole_Of (a0 : Int) : Option (D_whole_Int × Unit) :=
 joinB (β := (D_whole_Int × Unit)) (γ := (Int × Int × Bool × (List Int) × Unit)) (
  bif decide (a0 < 0) then
   some (Sum.inr (a0, wu64 (0 - (wu64 a0)), false, [], ()))
  else
   some (Sum.inr (a0, wu64 a0, false, [], ()))) fun v1 =>
 Option.bind (whole_made (decide (v1.1 < 0)) [(wu32 v1.2.1), (wu32 (Int.fdiv v1.2.1 (2 ^ 32)))]) fun r2 =>
 some (r2.1, ())

abbrev whole_sum_x6 : Type := (List Int) × (List Int) × Int × (List Int) × Int × Int × Unit
abbrev whole_sum_r6 : Type := (((List Int) × Unit) ⊕ ((List Int) × Int × Unit))
def whole_sum_b6  (x1 : whole_sum_x6) (again : whole_sum_x6 → Option whole_sum_r6) : Option whole_sum_r6 :=
 bif decide (x1.2.2.2.2.2.1 < x1.2.2.2.2.1) then
  Option.bind (idx x1.2.2.2.1 x1.2.2.2.2.2.1) fun y2 =>
  joinB (β := (((List Int) × Unit) ⊕ ((List Int) × Int × Unit))) (γ := ((List Int) × (List Int) × Int × (List Int) × Int × Int × Unit)) (
   bif decide (x1.2.2.2.2.2.1 < ((List.length x1.1 : Int))) then
    Option.bind (idx x1.1 x1.2.2.2.2.2.1) fun y3 =>
    let n4 : Int := wu64 ((wu64 (x1.2.2.1 + (wu64 y2))) + (wu64 y3))
    some (Sum.inr (x1.1, x1.2.1, n4, x1.2.2.2.1, x1.2.2.2.2.1, x1.2.2.2.2.2.1, ()))
   else
    some (Sum.inr (x1.1, x1.2.1, wu64 (x1.2.2.1 + (wu64 y2)), x1.2.2.2.1, x1.2.2.2.2.1, x1.2.2.2.2.2.1, ()))) fun v5 =>
  chk (decide (((List.length v5.2.1) + 1) * 4 ≤ 140737488355328) && decide ((List.length v5.2.1) + 1 ≤ maxLen)) <|
  again (v5.1, v5.2.1 ++ [(wu32 v5.2.2.1)], Int.fdiv v5.2.2.1 (2 ^ 32), v5.2.2.2.1, v5.2.2.2.2.1, w64 (v5.2.2.2.2.2.1 + 1), ())
 else
  some (Sum.inr (x1.2.1, x1.2.2.1, ()))

def whole_sum (a0 : List Int) (a1 : List Int) : Option ((List Int) × Unit) :=
 joinB (β := ((List Int) × Unit)) (γ := ((List Int) × (List Int) × Unit)) (
  bif decide (((List.length a0 : Int)) < ((List.length a1 : Int))) then
   some (Sum.inr (a1, a0, ()))
  else
   some (Sum.inr (a0, a1, ()))) fun v1 =>
 chk (decide (0 ≤ (0 : Int)) && decide ((0 : Int) ≤ (w64 (((List.length v1.1 : Int)) + 1))) && decide ((4 : Int) * (w64 (((List.length v1.1 : Int)) + 1)) ≤ 281474976710656) && decide ((w64 (((List.length v1.1 : Int)) + 1)) ≤ 9223372036854775807)) <|
 joinB (β := ((List Int) × Unit)) (γ := ((List Int) × Int × Unit)) (
  iter (X := whole_sum_x6) (β := whole_sum_r6) (List.length v1.2.1 + (List.length ([] : List Int) + (Int.natAbs (0 : Int) + (List.length v1.1 + (Int.natAbs ((List.length v1.1 : Int)) + (Int.natAbs (0 : Int) + 2)))))) (v1.2.1, [], 0, v1.1, (List.length v1.1 : Int), 0, ()) (whole_sum_b6)) fun v7 =>
 chk (decide (((List.length v7.1) + 1) * 4 ≤ 140737488355328) && decide ((List.length v7.1) + 1 ≤ maxLen)) <|
 some (v7.1 ++ [(wu32 v7.2.1)], ())

abbrev whole_compare_x4 : Type := (List Int) × (List Int) × Int × Unit
abbrev whole_compare_r4 : Type := ((Int × Unit) ⊕ Unit)
def whole_compare_b4  (x1 : whole_compare_x4) (again : whole_compare_x4 → Option whole_compare_r4) : Option whole_compare_r4 :=
 bif decide (x1.2.2.1 ≥ 0) then
  Option.bind (idx x1.1 x1.2.2.1) fun y2 =>
  Option.bind (idx x1.2.1 x1.2.2.1) fun y3 =>
  bif y2 != y3 then
   Option.bind (idx x1.1 x1.2.2.1) fun y4 =>
   Option.bind (idx x1.2.1 x1.2.2.1) fun y5 =>
   bif decide (y4 < y5) then
    some (Sum.inl ((-1), ()))
   else
    some (Sum.inl (1, ()))
  else
   again (x1.1, x1.2.1, w64 (x1.2.2.1 - 1), ())
 else
  some (Sum.inr ())

def whole_compare (a0 : List Int) (a1 : List Int) : Option (Int × Unit) :=
 bif ((List.length a0 : Int)) != ((List.length a1 : Int)) then
  some (w64 (((List.length a0 : Int)) - ((List.length a1 : Int))), ())
 else
  joinB (β := (Int × Unit)) (γ := Unit) (
   iter (X := whole_compare_x4) (β := whole_compare_r4) (List.length a0 + (List.length a1 + (Int.natAbs (w64 (((List.length a0 : Int)) - 1)) + 2))) (a0, a1, w64 (((List.length a0 : Int)) - 1), ()) (whole_compare_b4)) fun _ =>
  some (0, ())

abbrev whole_less_x4 : Type := (List Int) × (List Int) × Int × (List Int) × Int × Int × Unit
abbrev whole_less_r4 : Type := (((List Int) × Unit) ⊕ ((List Int) × Unit))
def whole_less_b4  (x1 : whole_less_x4) (again : whole_less_x4 → Option whole_less_r4) : Option whole_less_r4 :=
 bif decide (x1.2.2.2.2.2.1 < x1.2.2.2.2.1) then
  Option.bind (idx x1.2.2.2.1 x1.2.2.2.2.2.1) fun y2 =>
  joinB (β := (((List Int) × Unit) ⊕ ((List Int) × Unit))) (γ := ((List Int) × (List Int) × Int × (List Int) × Int × Int × Unit)) (
   bif decide (x1.2.2.2.2.2.1 < ((List.length x1.1 : Int))) then
    Option.bind (idx x1.1 x1.2.2.2.2.2.1) fun y3 =>
    let n4 : Int := wu64 ((wu64 ((wu64 y2) - x1.2.2.1)) - (wu64 y3))
    some (Sum.inr (x1.1, x1.2.1, n4, x1.2.2.2.1, x1.2.2.2.2.1, x1.2.2.2.2.2.1, ()))
   else
    some (Sum.inr (x1.1, x1.2.1, wu64 ((wu64 y2) - x1.2.2.1), x1.2.2.2.1, x1.2.2.2.2.1, x1.2.2.2.2.2.1, ()))) fun v5 =>
  chk (decide (((List.length v5.2.1) + 1) * 4 ≤ 140737488355328) && decide ((List.length v5.2.1) + 1 ≤ maxLen)) <|
  again (v5.1, v5.2.1 ++ [(wu32 v5.2.2.1)], wu64 (((BitVec.ofInt (IntKind.bits .u64) (Int.fdiv v5.2.2.1 (2 ^ 32)) &&& BitVec.ofInt (IntKind.bits .u64) 1).toNat : Int)), v5.2.2.2.1, v5.2.2.2.2.1, w64 (v5.2.2.2.2.2.1 + 1), ())
 else
  some (Sum.inr (x1.2.1, ()))

def whole_less (a0 : List Int) (a1 : List Int) : Option ((List Int) × Unit) :=
 chk (decide (0 ≤ (0 : Int)) && decide ((0 : Int) ≤ ((List.length a0 : Int))) && decide ((4 : Int) * ((List.length a0 : Int)) ≤ 281474976710656) && decide (((List.length a0 : Int)) ≤ 9223372036854775807)) <|
 joinB (β := ((List Int) × Unit)) (γ := ((List Int) × Unit)) (
  iter (X := whole_less_x4) (β := whole_less_r4) (List.length a1 + (List.length ([] : List Int) + (Int.natAbs (0 : Int) + (List.length a0 + (Int.natAbs ((List.length a0 : Int)) + (Int.natAbs (0 : Int) + 2)))))) (a1, [], 0, a0, (List.length a0 : Int), 0, ()) (whole_less_b4)) fun v6 =>
 Option.bind (whole_trimmed v6.1) fun r7 =>
 some (r7.1, ())

abbrev whole_Int_By_x4 : Type := (List Int) × Int × Bool × (List Int) × Bool × (List Int) × Bool × (List Int) × Bool × (List Int) × (List Int) × Unit
abbrev whole_Int_By_r4 : Type := ((D_whole_Int × D_whole_Int × Unit) ⊕ ((List Int) × Bool × (List Int) × Bool × (List Int) × (List Int) × Unit))
def whole_Int_By_b4  (x1 : whole_Int_By_x4) (again : whole_Int_By_x4 → Option whole_Int_By_r4) : Option whole_Int_By_r4 :=
 bif decide (x1.2.1 ≥ 0) then
  Option.bind (whole_sum x1.1 x1.1) fun r2 =>
  chk (decide (0 ≤ (0 : Int)) && decide ((0 : Int) < (List.length r2.1 : Int))) <|
  Option.bind (r2.1[0]?) fun y3 =>
  Option.bind (idx x1.2.2.2.1 (w64 (Int.tdiv x1.2.1 32))) fun y4 =>
  chk (decide (0 ≤ (Int.tmod x1.2.1 32))) <|
  let n5 : Int := wu32 (((BitVec.ofInt (IntKind.bits .u32) (Int.fdiv y4 (2 ^ (min (Int.toNat (Int.tmod x1.2.1 32)) (IntKind.bits .u32)))) &&& BitVec.ofInt (IntKind.bits .u32) 1).toNat : Int))
  chk (decide (0 ≤ (0 : Int)) && decide ((0 : Int) < (List.length r2.1 : Int))) <|
  Option.bind (r2.1[0]?) fun _ =>
  Option.bind (whole_trimmed (List.set r2.1 0 (wu32 (((BitVec.ofInt (IntKind.bits .u32) y3 ||| BitVec.ofInt (IntKind.bits .u32) n5).toNat : Int))))) fun r6 =>
  Option.bind (whole_compare r6.1 x1.2.2.2.2.2.1) fun r7 =>
  bif decide (r7.1 ≥ 0) then
   Option.bind (whole_less r6.1 x1.2.2.2.2.2.1) fun r8 =>
   chk (decide (0 ≤ (w64 (Int.tdiv x1.2.1 32))) && decide ((w64 (Int.tdiv x1.2.1 32)) < (List.length x1.2.2.2.2.2.2.2.2.2.2.1 : Int))) <|
   Option.bind (x1.2.2.2.2.2.2.2.2.2.2.1[(w64 (Int.tdiv x1.2.1 32)).toNat]?) fun y9 =>
   chk (decide (0 ≤ (Int.tmod x1.2.1 32))) <|
   let n10 : Int := wu32 (((BitVec.ofInt (IntKind.bits .u32) y9 ||| BitVec.ofInt (IntKind.bits .u32) (wu32 (1 * 2 ^ (min (Int.toNat (Int.tmod x1.2.1 32)) (IntKind.bits .u32))))).toNat : Int))
   chk (decide (0 ≤ (w64 (Int.tdiv x1.2.1 32))) && decide ((w64 (Int.tdiv x1.2.1 32)) < (List.length x1.2.2.2.2.2.2.2.2.2.2.1 : Int))) <|
   Option.bind (x1.2.2.2.2.2.2.2.2.2.2.1[(w64 (Int.tdiv x1.2.1 32)).toNat]?) fun _ =>
   again (r8.1, w64 (x1.2.1 - 1), x1.2.2.1, x1.2.2.2.1, x1.2.2.2.2.1, x1.2.2.2.2.2.1, x1.2.2.2.2.2.2.1, x1.2.2.2.2.2.2.2.1, x1.2.2.2.2.2.2.2.2.1, x1.2.2.2.2.2.2.2.2.2.1, List.set x1.2.2.2.2.2.2.2.2.2.2.1 (w64 (Int.tdiv x1.2.1 32)).toNat n10, ())
  else
   again (r6.1, w64 (x1.2.1 - 1), x1.2.2.1, x1.2.2.2.1, x1.2.2.2.2.1, x1.2.2.2.2.2.1, x1.2.2.2.2.2.2.1, x1.2.2.2.2.2.2.2.1, x1.2.2.2.2.2.2.2.2.1, x1.2.2.2.2.2.2.2.2.2.1, x1.2.2.2.2.2.2.2.2.2.2.1, ())
 else
  some (Sum.inr (x1.1, x1.2.2.2.2.2.2.1, x1.2.2.2.2.2.2.2.1, x1.2.2.2.2.2.2.2.2.1, x1.2.2.2.2.2.2.2.2.2.1, x1.2.2.2.2.2.2.2.2.2.2.1, ()))

def whole_Int_By (a0 : D_whole_Int) (a1 : D_whole_Int) : Option (D_whole_Int × D_whole_Int × Unit) :=
 chk (decide (0 ≤ ((List.length a0.2 : Int))) && decide (((List.length a0.2 : Int)) ≤ ((List.length a0.2 : Int))) && decide ((4 : Int) * ((List.length a0.2 : Int)) ≤ 281474976710656) && decide (((List.length a0.2 : Int)) ≤ 9223372036854775807)) <|
 let n1 : Int := w64 ((w64 (((List.length a0.2 : Int)) * 32)) - 1)
 joinB (β := (D_whole_Int × D_whole_Int × Unit)) (γ := ((List Int) × Bool × (List Int) × Bool × (List Int) × (List Int) × Unit)) (
  iter (X := whole_Int_By_x4) (β := whole_Int_By_r4) (List.length ([] : List Int) + (Int.natAbs n1 + (List.length a0.2 + (List.length a1.2 + (List.length ([] : List Int) + (List.length ([] : List Int) + (List.length ((List.replicate (Int.toNat ((List.length a0.2 : Int))) 0) : List Int) + 2))))))) ([], n1, a0.1, a0.2, a1.1, a1.2, false, [], false, [], List.replicate (Int.toNat ((List.length a0.2 : Int))) 0, ()) (whole_Int_By_b4)) fun v14 =>
 Option.bind (whole_made false v14.2.2.2.2.2.1) fun r15 =>
 Option.bind (whole_made false v14.1) fun r16 =>
 some (r15.1, r16.1, ())

def whole_Int_Sign (a0 : D_whole_Int) : Option (Int × Unit) :=
 bif a0.1 then
  some ((-1), ())
 else
  bif ((List.length a0.2 : Int)) == 0 then
   some (0, ())
  else
   some (1, ())

def whole_Int_Minus (a0 : D_whole_Int) : Option (D_whole_Int × Unit) :=
 Option.bind (whole_made (!a0.1) a0.2) fun r1 =>
 some (r1.1, ())

abbrev whole_Int_Int_x5 : Type := Int × Int × (List Int) × Int × Int × Bool × (List Int) × Unit
abbrev whole_Int_Int_r5 : Type := ((Int × Bool × Unit) ⊕ (Int × Int × Bool × (List Int) × Unit))
def whole_Int_Int_b5  (x1 : whole_Int_Int_x5) (again : whole_Int_Int_x5 → Option whole_Int_Int_r5) : Option whole_Int_Int_r5 :=
 bif decide (x1.2.2.2.2.1 < x1.2.2.2.1) then
  Option.bind (idx x1.2.2.1 x1.2.2.2.2.1) fun y2 =>
  chk (decide (0 ≤ (w64 (32 * x1.2.2.2.2.1)))) <|
  let n3 : Int := wu64 ((wu64 y2) * 2 ^ (min (Int.toNat (w64 (32 * x1.2.2.2.2.1))) (IntKind.bits .u64)))
  again (x1.1, wu64 (((BitVec.ofInt (IntKind.bits .u64) x1.2.1 ||| BitVec.ofInt (IntKind.bits .u64) n3).toNat : Int)), x1.2.2.1, x1.2.2.2.1, w64 (x1.2.2.2.2.1 + 1), x1.2.2.2.2.2.1, x1.2.2.2.2.2.2.1, ())
 else
  some (Sum.inr (x1.1, x1.2.1, x1.2.2.2.2.2.1, x1.2.2.2.2.2.2.1, ()))

def whole_Int_Int (a0 : D_whole_Int) (a1 : Int) : Option (Int × Bool × Unit) :=
 bif decide (((List.length a0.2 : Int)) > 2) then
  some (0, false, ())
 else
  joinB (β := (Int × Bool × Unit)) (γ := (Int × Int × Bool × (List Int) × Unit)) (
   iter (X := whole_Int_Int_x5) (β := whole_Int_Int_r5) (Int.natAbs a1 + (Int.natAbs (0 : Int) + (List.length a0.2 + (Int.natAbs ((List.length a0.2 : Int)) + (Int.natAbs (0 : Int) + (List.length a0.2 + 2)))))) (a1, 0, a0.2, (List.length a0.2 : Int), 0, a0.1, a0.2, ()) (whole_Int_Int_b5)) fun v4 =>
  bif decide (v4.2.1 > (wu64 v4.1)) then
   some (0, false, ())
  else
   bif v4.2.2.1 then
    some (w64 (0 - (w64 v4.2.1)), true, ())
   else
    some (w64 v4.2.1, true, ())

def amount_Made (a0 : D_whole_Int) (a1 : Int) : Option (D_api_Decimal × Int × Unit) :=
 Option.bind (whole_Int_Int a0 1000000000000000) fun r1 =>
 bif !r1.2.1 then
  some ((0, 0), 1, ())
 else
  some ((r1.1, a1), 0, ())

abbrev amount_Fewest_x2 : Type := Int × Bool × (List Int) × Int × Int × Bool × (List Int) × Unit
abbrev amount_Fewest_r2 : Type := ((D_api_Decimal × Int × Unit) ⊕ (Int × Bool × (List Int) × Int × Int × Unit))
def amount_Fewest_b2  (x1 : amount_Fewest_x2) (again : amount_Fewest_x2 → Option amount_Fewest_r2) : Option amount_Fewest_r2 :=
 bif decide (x1.1 > 0) then
  Option.bind (whole_Int_By (x1.2.1, x1.2.2.1) (x1.2.2.2.2.2.1, x1.2.2.2.2.2.2.1)) fun r2 =>
  Option.bind (whole_Int_Sign r2.2.1) fun r3 =>
  bif r3.1 != 0 then
   some (Sum.inr (x1.1, x1.2.1, x1.2.2.1, x1.2.2.2.1, x1.2.2.2.2.1, ()))
  else
   Option.bind (whole_Int_Sign (x1.2.1, x1.2.2.1)) fun r4 =>
   bif decide (r4.1 < 0) then
    Option.bind (whole_Int_Minus r2.1) fun r5 =>
    again (w64 (x1.1 - 1), r5.1.1, r5.1.2, x1.2.2.2.1, x1.2.2.2.2.1, x1.2.2.2.2.2.1, x1.2.2.2.2.2.2.1, ())
   else
    again (w64 (x1.1 - 1), r2.1.1, r2.1.2, x1.2.2.2.1, x1.2.2.2.2.1, x1.2.2.2.2.2.1, x1.2.2.2.2.2.2.1, ())
 else
  some (Sum.inr (x1.1, x1.2.1, x1.2.2.1, x1.2.2.2.1, x1.2.2.2.2.1, ()))

def amount_Fewest (a0 : D_whole_Int) (a1 : Int) : Option (D_api_Decimal × Int × Unit) :=
 Option.bind (whole_Of 10) fun r1 =>
 joinB (β := (D_api_Decimal × Int × Unit)) (γ := (Int × Bool × (List Int) × Int × Int × Unit)) (
  iter (X := amount_Fewest_x2) (β := amount_Fewest_r2) (Int.natAbs a1 + (List.length a0.2 + (Int.natAbs (0 : Int) + (Int.natAbs (0 : Int) + (List.length r1.1.2 + 2))))) (a1, a0.1, a0.2, 0, 0, r1.1.1, r1.1.2, ()) (amount_Fewest_b2)) fun v7 =>
 Option.bind (amount_Made (v7.2.1, v7.2.2.1) v7.1) fun r8 =>
 some (r8.1, r8.2.1, ())

def bill_money (a0 : Int) : Option (D_api_Decimal × Int × Unit) :=
 Option.bind (whole_Of a0) fun r1 =>
 Option.bind (amount_Fewest r1.1 4) fun r2 =>
 some (r2.1, r2.2.1, ())

def bill_toldMoney (a0 : Int) : Option (D_api_Decimal × Unit) :=
 Option.bind (bill_money a0) fun r1 =>
 some (r1.1, ())

abbrev bill_Pay_x7 : Type := (List Int) × (List D_api_Paid) × (List (Option Nat)) × Int × Int × (List D_bill_debt) × Unit
abbrev bill_Pay_r7 : Type := (((List D_api_Paid) × (List D_api_Decimal) × Int × Unit) ⊕ ((List Int) × (List D_api_Paid) × (List D_bill_debt) × Unit))
noncomputable def bill_Pay_b7  (x1 : bill_Pay_x7) (again : bill_Pay_x7 → Option bill_Pay_r7) : Option bill_Pay_r7 :=
 bif decide (x1.2.2.2.2.1 < x1.2.2.2.1) then
  Option.bind (idx x1.2.2.1 x1.2.2.2.2.1) fun y2 =>
  Option.bind (y2) fun h3 =>
  Option.bind (x1.2.2.2.2.2.1[h3]?) fun y4 =>
  Option.bind (y2) fun h5 =>
  Option.bind (x1.2.2.2.2.2.1[h5]?) fun y6 =>
  Option.bind (bill_toldMoney y6.2.2.1) fun r7 =>
  Option.bind (y2) fun h8 =>
  Option.bind (x1.2.2.2.2.2.1[h8]?) fun y9 =>
  Option.bind (bill_toldMoney y9.2.2.2.1) fun r10 =>
  Option.bind (y2) fun h11 =>
  Option.bind (x1.2.2.2.2.2.1[h11]?) fun y12 =>
  chk (decide (((List.length x1.2.1) + 1) * 56 ≤ 140737488355328) && decide ((List.length x1.2.1) + 1 ≤ maxLen)) <|
  again (x1.1, x1.2.1 ++ [(y4.1.1, r7.1, r10.1, y12.2.2.2.2)], x1.2.2.1, x1.2.2.2.1, w64 (x1.2.2.2.2.1 + 1), x1.2.2.2.2.2.1, ())
 else
  some (Sum.inr (x1.1, x1.2.1, x1.2.2.2.2.2.1, ()))

abbrev bill_Pay_x13 : Type := (List D_api_Paid) × (List D_api_Decimal) × (List Int) × Int × Int × (List D_bill_debt) × Unit
abbrev bill_Pay_r13 : Type := (((List D_api_Paid) × (List D_api_Decimal) × Int × Unit) ⊕ ((List D_api_Paid) × (List D_api_Decimal) × (List D_bill_debt) × Unit))
noncomputable def bill_Pay_b13  (x1 : bill_Pay_x13) (again : bill_Pay_x13 → Option bill_Pay_r13) : Option bill_Pay_r13 :=
 bif decide (x1.2.2.2.2.1 < x1.2.2.2.1) then
  Option.bind (idx x1.2.2.1 x1.2.2.2.2.1) fun y2 =>
  Option.bind (bill_toldMoney y2) fun r3 =>
  chk (decide (((List.length x1.2.1) + 1) * 16 ≤ 140737488355328) && decide ((List.length x1.2.1) + 1 ≤ maxLen)) <|
  again (x1.1, x1.2.1 ++ [r3.1], x1.2.2.1, x1.2.2.2.1, w64 (x1.2.2.2.2.1 + 1), x1.2.2.2.2.2.1, ())
 else
  some (Sum.inr (x1.1, x1.2.1, x1.2.2.2.2.2.1, ()))

noncomputable def bill_Pay (a0 : List D_api_Debt) (a1 : List D_api_Payment) : Option ((List D_api_Paid) × (List D_api_Decimal) × Int × Unit) :=
 Option.bind (bill_bothFault a0 a1) fun r1 =>
 bif r1.1 != 0 then
  some ([], [], r1.1, ())
 else
  Option.bind (bill_payments a0 a1 3652059 []) fun r2 =>
  joinB (β := ((List D_api_Paid) × (List D_api_Decimal) × Int × Unit)) (γ := ((List Int) × (List D_api_Paid) × (List D_bill_debt) × Unit)) (
   iter (X := bill_Pay_x7) (β := bill_Pay_r7) (List.length r2.2.1 + (List.length ([] : List D_api_Paid) + (List.length r2.1 + (Int.natAbs ((List.length r2.1 : Int)) + (Int.natAbs (0 : Int) + (List.length r2.2.2.1 + 2)))))) (r2.2.1, [], r2.1, (List.length r2.1 : Int), 0, r2.2.2.1, ()) (bill_Pay_b7)) fun v15 =>
  joinB (β := ((List D_api_Paid) × (List D_api_Decimal) × Int × Unit)) (γ := ((List D_api_Paid) × (List D_api_Decimal) × (List D_bill_debt) × Unit)) (
   iter (X := bill_Pay_x13) (β := bill_Pay_r13) (List.length v15.2.1 + (List.length ([] : List D_api_Decimal) + (List.length v15.1 + (Int.natAbs ((List.length v15.1 : Int)) + (Int.natAbs (0 : Int) + (List.length v15.2.2.1 + 2)))))) (v15.2.1, [], v15.1, (List.length v15.1 : Int), 0, v15.2.2.1, ()) (bill_Pay_b13)) fun v19 =>
  some (v19.1, v19.2.1, 0, ())

noncomputable def l11_awake  : Option (Bool × Unit) :=
 Option.bind (bill_Pay [([97], 5, (7, 0), 0, 0, 0)] [(6, (9, 0), [])]) fun r1 =>
 bif r1.2.2.1 == 0 then
  bif ((List.length r1.1 : Int)) == 1 then
   Option.bind (idx r1.1 0) fun y2 =>
   bif y2.2.2.2 == 6 then
    bif ((List.length r1.2.1 : Int)) == 1 then
     Option.bind (idx r1.2.1 0) fun y3 =>
     some (y3.1 == 2, ())
    else
     some (false, ())
   else
    some (false, ())
  else
   some (false, ())
 else
  some (false, ())

end Go.Md

namespace Go.Md
open Go.Dn

end Go.Md
