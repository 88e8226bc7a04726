/-
  The plain models of the functions that the law reaches, first part. No condition.
-/
import Derived.Test.YtglaikpklmafkaaGreatDoorYd
import Derived.Lib.SlTrimSet
set_option linter.all false
namespace Go.Md
open Go.Dn

def strings_Trim (s c : List UInt8) : Option (List UInt8 × Unit) :=
  bif decide (s.length ≤ 9223372036854775807) && (decide (c.length < 4294967281) && c.all fun b => decide (b.toNat < 128)) then some (Lib.trimS s c, ()) else none

abbrev t_api_Decimal : Ty := (.st (.pair tI tI))
abbrev D_api_Decimal : Type := Int × Int

abbrev D_api_Payment : Type := Int × D_api_Decimal × (List (List UInt8))

abbrev t_interchangeref1_Num : Ty := (.st (.pair .bool (.slice tI)))
abbrev D_interchangeref1_Num : Type := Bool × (List Int)

abbrev D_api_Debt : Type := (List UInt8) × Int × D_api_Decimal × Int × Int × Int

abbrev D_bill_debt : Type := D_api_Debt × Int × Int × Int × Int

abbrev t_whole_Int : Ty := (.st (.pair .bool (.slice (.int .u32))))
abbrev D_whole_Int : Type := Bool × (List Int)

def kit_IsName (a0 : List UInt8) : Option (Bool × Unit) :=
  bif decide (((List.length a0 : Int)) < 1) then
    some (false, ())
  else
    bif decide (((List.length a0 : Int)) > 40) then
      some (false, ())
    else
      Option.bind (sidx a0 0) fun c1 =>
      bif decide ((c1.toNat : Int) < 97) then
        some (false, ())
      else
        Option.bind (sidx a0 0) fun c2 =>
        bif decide ((c2.toNat : Int) > 122) then
          some (false, ())
        else
          Option.bind (strings_Trim a0 [97, 98, 99, 100, 101, 102, 103, 104, 105, 106, 107, 108, 109, 110, 111, 112, 113, 114, 115, 116, 117, 118, 119, 120, 121, 122, 48, 49, 50, 51, 52, 53, 54, 55, 56, 57, 45]) fun r3 =>
          some (r3.1 == [], ())

def kit_Outside (a0 : Int) (a1 : Int) (a2 : Int) : Option (Bool × Unit) :=
  bif decide (a0 < a1) then
    some (true, ())
  else
    some (decide (a0 > a2), ())

def amount_CheckDecimal (a0 : D_api_Decimal) : Option (Int × Unit) :=
  Option.bind (kit_Outside a0.1 (-1000000000000000) 1000000000000000) fun r1 =>
  bif r1.1 then
    some (1, ())
  else
    Option.bind (kit_Outside a0.2 0 9) fun r2 =>
    bif r2.1 then
      some (1, ())
    else
      some (0, ())

def bill_debt_last (a0 : Option Nat) (a1 : List D_bill_debt) : Option (Int × Unit) :=
  Option.bind (a0) fun h1 =>
  Option.bind (a1[h1]?) fun y2 =>
  Option.bind (a0) fun h3 =>
  Option.bind (a1[h3]?) fun y4 =>
  some (w64 (y2.1.2.1 + y4.1.2.2.2.1), ())

def bill_payments_1 (a0 : Option Nat) (a1 : Option Nat) (a2 : List D_bill_debt) : Option (Int × Unit) :=
  Option.bind (bill_debt_last a0 a2) fun r1 =>
  Option.bind (bill_debt_last a1 a2) fun r2 =>
  some (w64 (r1.1 - r2.1), ())

abbrev slices_insertionSortCmpFunc_bill_debtP_x4 : Type := Int × Int × Unit × Int × Int × (List (Option Nat)) × (List D_bill_debt) × Unit
abbrev slices_insertionSortCmpFunc_bill_debtP_r4 : Type := ((((List (Option Nat)) × Unit) ⊕ ((List (Option Nat)) × (List D_bill_debt) × Unit)) ⊕ (Int × Int × Unit × Int × (List (Option Nat)) × (List D_bill_debt) × Unit))
def slices_insertionSortCmpFunc_bill_debtP_b4  (x1 : slices_insertionSortCmpFunc_bill_debtP_x4) (again : slices_insertionSortCmpFunc_bill_debtP_x4 → Option slices_insertionSortCmpFunc_bill_debtP_r4) : Option slices_insertionSortCmpFunc_bill_debtP_r4 :=
  bif decide (x1.2.2.2.2.1 > x1.1) then
    chk (decide (0 ≤ x1.2.2.2.2.1) && decide (x1.2.2.2.2.1 < (List.length x1.2.2.2.2.2.1 : Int))) <|
    Option.bind (x1.2.2.2.2.2.1[x1.2.2.2.2.1.toNat]?) fun y2 =>
    chk (decide (0 ≤ (w64 (x1.2.2.2.2.1 - 1))) && decide ((w64 (x1.2.2.2.2.1 - 1)) < (List.length x1.2.2.2.2.2.1 : Int))) <|
    Option.bind (x1.2.2.2.2.2.1[(w64 (x1.2.2.2.2.1 - 1)).toNat]?) fun y3 =>
    Option.bind (bill_payments_1 y2 y3 x1.2.2.2.2.2.2.1) fun r4 =>
    bif decide (r4.1 < 0) then
      chk (decide (0 ≤ (w64 (x1.2.2.2.2.1 - 1))) && decide ((w64 (x1.2.2.2.2.1 - 1)) < (List.length x1.2.2.2.2.2.1 : Int))) <|
      Option.bind (x1.2.2.2.2.2.1[(w64 (x1.2.2.2.2.1 - 1)).toNat]?) fun y5 =>
      chk (decide (0 ≤ x1.2.2.2.2.1) && decide (x1.2.2.2.2.1 < (List.length x1.2.2.2.2.2.1 : Int))) <|
      Option.bind (x1.2.2.2.2.2.1[x1.2.2.2.2.1.toNat]?) fun y6 =>
      chk (decide (0 ≤ x1.2.2.2.2.1) && decide (x1.2.2.2.2.1 < (List.length x1.2.2.2.2.2.1 : Int))) <|
      Option.bind (x1.2.2.2.2.2.1[x1.2.2.2.2.1.toNat]?) fun _ =>
      chk (decide (0 ≤ (w64 (x1.2.2.2.2.1 - 1))) && decide ((w64 (x1.2.2.2.2.1 - 1)) < (List.length (List.set x1.2.2.2.2.2.1 x1.2.2.2.2.1.toNat y5) : Int))) <|
      Option.bind ((List.set x1.2.2.2.2.2.1 x1.2.2.2.2.1.toNat y5)[(w64 (x1.2.2.2.2.1 - 1)).toNat]?) fun _ =>
      again (x1.1, x1.2.1, x1.2.2.1, x1.2.2.2.1, w64 (x1.2.2.2.2.1 - 1), List.set (List.set x1.2.2.2.2.2.1 x1.2.2.2.2.1.toNat y5) (w64 (x1.2.2.2.2.1 - 1)).toNat y6, x1.2.2.2.2.2.2.1, ())
    else
      some (Sum.inr (x1.1, x1.2.1, x1.2.2.1, x1.2.2.2.1, x1.2.2.2.2.2.1, x1.2.2.2.2.2.2.1, ()))
  else
    some (Sum.inr (x1.1, x1.2.1, x1.2.2.1, x1.2.2.2.1, x1.2.2.2.2.2.1, x1.2.2.2.2.2.2.1, ()))

abbrev slices_insertionSortCmpFunc_bill_debtP_x1 : Type := Int × Int × Unit × Int × (List (Option Nat)) × (List D_bill_debt) × Unit
abbrev slices_insertionSortCmpFunc_bill_debtP_r1 : Type := (((List (Option Nat)) × Unit) ⊕ ((List (Option Nat)) × (List D_bill_debt) × Unit))
def slices_insertionSortCmpFunc_bill_debtP_b1  (x1 : slices_insertionSortCmpFunc_bill_debtP_x1) (again : slices_insertionSortCmpFunc_bill_debtP_x1 → Option slices_insertionSortCmpFunc_bill_debtP_r1) : Option slices_insertionSortCmpFunc_bill_debtP_r1 :=
  bif decide (x1.2.2.2.1 < x1.2.1) then
    joinB (β := (((List (Option Nat)) × Unit) ⊕ ((List (Option Nat)) × (List D_bill_debt) × Unit))) (γ := (Int × Int × Unit × Int × (List (Option Nat)) × (List D_bill_debt) × Unit)) (
      iter (X := slices_insertionSortCmpFunc_bill_debtP_x4) (β := slices_insertionSortCmpFunc_bill_debtP_r4) (Int.natAbs x1.1 + (Int.natAbs x1.2.1 + (Int.natAbs x1.2.2.2.1 + (Int.natAbs x1.2.2.2.1 + (List.length x1.2.2.2.2.1 + 2))))) (x1.1, x1.2.1, x1.2.2.1, x1.2.2.2.1, x1.2.2.2.1, x1.2.2.2.2.1, x1.2.2.2.2.2.1, ()) (slices_insertionSortCmpFunc_bill_debtP_b4)) fun v2 =>
    again (v2.1, v2.2.1, v2.2.2.1, w64 (v2.2.2.2.1 + 1), v2.2.2.2.2.1, v2.2.2.2.2.2.1, ())
  else
    some (Sum.inr (x1.2.2.2.2.1, x1.2.2.2.2.2.1, ()))

def slices_insertionSortCmpFunc_bill_debtP (a0 : List (Option Nat)) (a1 : Int) (a2 : Int) (a3 : Unit) (a4 : List D_bill_debt) : Option ((List (Option Nat)) × Unit) :=
  joinB (β := ((List (Option Nat)) × Unit)) (γ := ((List (Option Nat)) × (List D_bill_debt) × Unit)) (
    iter (X := slices_insertionSortCmpFunc_bill_debtP_x1) (β := slices_insertionSortCmpFunc_bill_debtP_r1) (Int.natAbs a1 + (Int.natAbs a2 + (Int.natAbs (w64 (a1 + 1)) + (List.length a0 + 2)))) (a1, a2, a3, w64 (a1 + 1), a0, a4, ()) (slices_insertionSortCmpFunc_bill_debtP_b1)) fun v11 =>
  some (v11.1, ())

abbrev slices_swapRangeCmpFunc_bill_debtP_x1 : Type := Int × Int × Int × Int × (List (Option Nat)) × (List D_bill_debt) × Unit
abbrev slices_swapRangeCmpFunc_bill_debtP_r1 : Type := (((List (Option Nat)) × Unit) ⊕ ((List (Option Nat)) × (List D_bill_debt) × Unit))
def slices_swapRangeCmpFunc_bill_debtP_b1  (x1 : slices_swapRangeCmpFunc_bill_debtP_x1) (again : slices_swapRangeCmpFunc_bill_debtP_x1 → Option slices_swapRangeCmpFunc_bill_debtP_r1) : Option slices_swapRangeCmpFunc_bill_debtP_r1 :=
  bif decide (x1.2.2.2.1 < x1.2.2.1) then
    chk (decide (0 ≤ (w64 (x1.2.1 + x1.2.2.2.1))) && decide ((w64 (x1.2.1 + x1.2.2.2.1)) < (List.length x1.2.2.2.2.1 : Int))) <|
    Option.bind (x1.2.2.2.2.1[(w64 (x1.2.1 + x1.2.2.2.1)).toNat]?) fun y2 =>
    chk (decide (0 ≤ (w64 (x1.1 + x1.2.2.2.1))) && decide ((w64 (x1.1 + x1.2.2.2.1)) < (List.length x1.2.2.2.2.1 : Int))) <|
    Option.bind (x1.2.2.2.2.1[(w64 (x1.1 + x1.2.2.2.1)).toNat]?) fun y3 =>
    chk (decide (0 ≤ (w64 (x1.1 + x1.2.2.2.1))) && decide ((w64 (x1.1 + x1.2.2.2.1)) < (List.length x1.2.2.2.2.1 : Int))) <|
    Option.bind (x1.2.2.2.2.1[(w64 (x1.1 + x1.2.2.2.1)).toNat]?) fun _ =>
    chk (decide (0 ≤ (w64 (x1.2.1 + x1.2.2.2.1))) && decide ((w64 (x1.2.1 + x1.2.2.2.1)) < (List.length (List.set x1.2.2.2.2.1 (w64 (x1.1 + x1.2.2.2.1)).toNat y2) : Int))) <|
    Option.bind ((List.set x1.2.2.2.2.1 (w64 (x1.1 + x1.2.2.2.1)).toNat y2)[(w64 (x1.2.1 + x1.2.2.2.1)).toNat]?) fun _ =>
    again (x1.1, x1.2.1, x1.2.2.1, w64 (x1.2.2.2.1 + 1), List.set (List.set x1.2.2.2.2.1 (w64 (x1.1 + x1.2.2.2.1)).toNat y2) (w64 (x1.2.1 + x1.2.2.2.1)).toNat y3, x1.2.2.2.2.2.1, ())
  else
    some (Sum.inr (x1.2.2.2.2.1, x1.2.2.2.2.2.1, ()))

def slices_swapRangeCmpFunc_bill_debtP (a0 : List (Option Nat)) (a1 : Int) (a2 : Int) (a3 : Int) (_a4 : Unit) (a5 : List D_bill_debt) : Option ((List (Option Nat)) × Unit) :=
  joinB (β := ((List (Option Nat)) × Unit)) (γ := ((List (Option Nat)) × (List D_bill_debt) × Unit)) (
    iter (X := slices_swapRangeCmpFunc_bill_debtP_x1) (β := slices_swapRangeCmpFunc_bill_debtP_r1) (Int.natAbs a1 + (Int.natAbs a2 + (Int.natAbs a3 + (Int.natAbs (0 : Int) + (List.length a0 + 2))))) (a1, a2, a3, 0, a0, a5, ()) (slices_swapRangeCmpFunc_bill_debtP_b1)) fun v6 =>
  some (v6.1, ())

abbrev slices_rotateCmpFunc_bill_debtP_x2 : Type := Int × Unit × Int × Int × (List (Option Nat)) × (List D_bill_debt) × Unit
abbrev slices_rotateCmpFunc_bill_debtP_r2 : Type := (((List (Option Nat)) × Unit) ⊕ (Int × Unit × Int × (List (Option Nat)) × (List D_bill_debt) × Unit))
def slices_rotateCmpFunc_bill_debtP_b2  (x1 : slices_rotateCmpFunc_bill_debtP_x2) (again : slices_rotateCmpFunc_bill_debtP_x2 → Option slices_rotateCmpFunc_bill_debtP_r2) : Option slices_rotateCmpFunc_bill_debtP_r2 :=
  bif x1.2.2.1 != x1.2.2.2.1 then
    bif decide (x1.2.2.1 > x1.2.2.2.1) then
      Option.bind (slices_swapRangeCmpFunc_bill_debtP x1.2.2.2.2.1 (w64 (x1.1 - x1.2.2.1)) x1.1 x1.2.2.2.1 x1.2.1 x1.2.2.2.2.2.1) fun r2 =>
      again (x1.1, x1.2.1, w64 (x1.2.2.1 - x1.2.2.2.1), x1.2.2.2.1, r2.1, x1.2.2.2.2.2.1, ())
    else
      Option.bind (slices_swapRangeCmpFunc_bill_debtP x1.2.2.2.2.1 (w64 (x1.1 - x1.2.2.1)) (w64 ((w64 (x1.1 + x1.2.2.2.1)) - x1.2.2.1)) x1.2.2.1 x1.2.1 x1.2.2.2.2.2.1) fun r3 =>
      again (x1.1, x1.2.1, x1.2.2.1, w64 (x1.2.2.2.1 - x1.2.2.1), r3.1, x1.2.2.2.2.2.1, ())
  else
    some (Sum.inr (x1.1, x1.2.1, x1.2.2.1, x1.2.2.2.2.1, x1.2.2.2.2.2.1, ()))

def slices_rotateCmpFunc_bill_debtP (a0 : List (Option Nat)) (a1 : Int) (a2 : Int) (a3 : Int) (a4 : Unit) (a5 : List D_bill_debt) : Option ((List (Option Nat)) × Unit) :=
  joinB (β := ((List (Option Nat)) × Unit)) (γ := (Int × Unit × Int × (List (Option Nat)) × (List D_bill_debt) × Unit)) (
    iter (X := slices_rotateCmpFunc_bill_debtP_x2) (β := slices_rotateCmpFunc_bill_debtP_r2) (Int.natAbs a2 + (Int.natAbs (w64 (a2 - a1)) + (Int.natAbs (w64 (a3 - a2)) + (List.length a0 + 2)))) (a2, a4, w64 (a2 - a1), w64 (a3 - a2), a0, a5, ()) (slices_rotateCmpFunc_bill_debtP_b2)) fun v4 =>
  Option.bind (slices_swapRangeCmpFunc_bill_debtP v4.2.2.2.1 (w64 (v4.1 - v4.2.2.1)) v4.1 v4.2.2.1 v4.2.1 v4.2.2.2.2.1) fun r5 =>
  some (r5.1, ())

abbrev slices_symMergeCmpFunc_bill_debtP_x3 : Type := Int × Unit × Int × Int × (List (Option Nat)) × (List D_bill_debt) × Unit
abbrev slices_symMergeCmpFunc_bill_debtP_r3 : Type := (((List (Option Nat)) × Unit) ⊕ (Int × Int × (List (Option Nat)) × (List D_bill_debt) × Unit))
def slices_symMergeCmpFunc_bill_debtP_b3  (x1 : slices_symMergeCmpFunc_bill_debtP_x3) (again : slices_symMergeCmpFunc_bill_debtP_x3 → Option slices_symMergeCmpFunc_bill_debtP_r3) : Option slices_symMergeCmpFunc_bill_debtP_r3 :=
  bif decide (x1.2.2.1 < x1.2.2.2.1) then
    let n2 : Int := w64 (Int.fdiv (wu64 (w64 (x1.2.2.1 + x1.2.2.2.1))) (2 ^ 1))
    chk (decide (0 ≤ n2) && decide (n2 < (List.length x1.2.2.2.2.1 : Int))) <|
    Option.bind (x1.2.2.2.2.1[n2.toNat]?) fun y3 =>
    chk (decide (0 ≤ x1.1) && decide (x1.1 < (List.length x1.2.2.2.2.1 : Int))) <|
    Option.bind (x1.2.2.2.2.1[x1.1.toNat]?) fun y4 =>
    Option.bind (bill_payments_1 y3 y4 x1.2.2.2.2.2.1) fun r5 =>
    bif decide (r5.1 < 0) then
      again (x1.1, x1.2.1, w64 (n2 + 1), x1.2.2.2.1, x1.2.2.2.2.1, x1.2.2.2.2.2.1, ())
    else
      again (x1.1, x1.2.1, x1.2.2.1, n2, x1.2.2.2.2.1, x1.2.2.2.2.2.1, ())
  else
    some (Sum.inr (x1.1, x1.2.2.1, x1.2.2.2.2.1, x1.2.2.2.2.2.1, ()))

abbrev slices_symMergeCmpFunc_bill_debtP_x9 : Type := Int × Int × (List (Option Nat)) × (List D_bill_debt) × Unit
abbrev slices_symMergeCmpFunc_bill_debtP_r9 : Type := (((List (Option Nat)) × Unit) ⊕ ((List (Option Nat)) × (List D_bill_debt) × Unit))
def slices_symMergeCmpFunc_bill_debtP_b9  (x1 : slices_symMergeCmpFunc_bill_debtP_x9) (again : slices_symMergeCmpFunc_bill_debtP_x9 → Option slices_symMergeCmpFunc_bill_debtP_r9) : Option slices_symMergeCmpFunc_bill_debtP_r9 :=
  bif decide (x1.2.1 < (w64 (x1.1 - 1))) then
    chk (decide (0 ≤ (w64 (x1.2.1 + 1))) && decide ((w64 (x1.2.1 + 1)) < (List.length x1.2.2.1 : Int))) <|
    Option.bind (x1.2.2.1[(w64 (x1.2.1 + 1)).toNat]?) fun y2 =>
    chk (decide (0 ≤ x1.2.1) && decide (x1.2.1 < (List.length x1.2.2.1 : Int))) <|
    Option.bind (x1.2.2.1[x1.2.1.toNat]?) fun y3 =>
    chk (decide (0 ≤ x1.2.1) && decide (x1.2.1 < (List.length x1.2.2.1 : Int))) <|
    Option.bind (x1.2.2.1[x1.2.1.toNat]?) fun _ =>
    chk (decide (0 ≤ (w64 (x1.2.1 + 1))) && decide ((w64 (x1.2.1 + 1)) < (List.length (List.set x1.2.2.1 x1.2.1.toNat y2) : Int))) <|
    Option.bind ((List.set x1.2.2.1 x1.2.1.toNat y2)[(w64 (x1.2.1 + 1)).toNat]?) fun _ =>
    again (x1.1, w64 (x1.2.1 + 1), List.set (List.set x1.2.2.1 x1.2.1.toNat y2) (w64 (x1.2.1 + 1)).toNat y3, x1.2.2.2.1, ())
  else
    some (Sum.inr (x1.2.2.1, x1.2.2.2.1, ()))

abbrev slices_symMergeCmpFunc_bill_debtP_x15 : Type := Int × Unit × Int × Int × (List (Option Nat)) × (List D_bill_debt) × Unit
abbrev slices_symMergeCmpFunc_bill_debtP_r15 : Type := (((List (Option Nat)) × Unit) ⊕ (Int × Int × (List (Option Nat)) × (List D_bill_debt) × Unit))
def slices_symMergeCmpFunc_bill_debtP_b15  (x1 : slices_symMergeCmpFunc_bill_debtP_x15) (again : slices_symMergeCmpFunc_bill_debtP_x15 → Option slices_symMergeCmpFunc_bill_debtP_r15) : Option slices_symMergeCmpFunc_bill_debtP_r15 :=
  bif decide (x1.2.2.1 < x1.2.2.2.1) then
    let n2 : Int := w64 (Int.fdiv (wu64 (w64 (x1.2.2.1 + x1.2.2.2.1))) (2 ^ 1))
    chk (decide (0 ≤ x1.1) && decide (x1.1 < (List.length x1.2.2.2.2.1 : Int))) <|
    Option.bind (x1.2.2.2.2.1[x1.1.toNat]?) fun y3 =>
    chk (decide (0 ≤ n2) && decide (n2 < (List.length x1.2.2.2.2.1 : Int))) <|
    Option.bind (x1.2.2.2.2.1[n2.toNat]?) fun y4 =>
    Option.bind (bill_payments_1 y3 y4 x1.2.2.2.2.2.1) fun r5 =>
    bif !(decide (r5.1 < 0)) then
      again (x1.1, x1.2.1, w64 (n2 + 1), x1.2.2.2.1, x1.2.2.2.2.1, x1.2.2.2.2.2.1, ())
    else
      again (x1.1, x1.2.1, x1.2.2.1, n2, x1.2.2.2.2.1, x1.2.2.2.2.2.1, ())
  else
    some (Sum.inr (x1.1, x1.2.2.1, x1.2.2.2.2.1, x1.2.2.2.2.2.1, ()))

abbrev slices_symMergeCmpFunc_bill_debtP_x21 : Type := Int × Int × (List (Option Nat)) × (List D_bill_debt) × Unit
abbrev slices_symMergeCmpFunc_bill_debtP_r21 : Type := (((List (Option Nat)) × Unit) ⊕ ((List (Option Nat)) × (List D_bill_debt) × Unit))
def slices_symMergeCmpFunc_bill_debtP_b21  (x1 : slices_symMergeCmpFunc_bill_debtP_x21) (again : slices_symMergeCmpFunc_bill_debtP_x21 → Option slices_symMergeCmpFunc_bill_debtP_r21) : Option slices_symMergeCmpFunc_bill_debtP_r21 :=
  bif decide (x1.2.1 > x1.1) then
    chk (decide (0 ≤ (w64 (x1.2.1 - 1))) && decide ((w64 (x1.2.1 - 1)) < (List.length x1.2.2.1 : Int))) <|
    Option.bind (x1.2.2.1[(w64 (x1.2.1 - 1)).toNat]?) fun y2 =>
    chk (decide (0 ≤ x1.2.1) && decide (x1.2.1 < (List.length x1.2.2.1 : Int))) <|
    Option.bind (x1.2.2.1[x1.2.1.toNat]?) fun y3 =>
    chk (decide (0 ≤ x1.2.1) && decide (x1.2.1 < (List.length x1.2.2.1 : Int))) <|
    Option.bind (x1.2.2.1[x1.2.1.toNat]?) fun _ =>
    chk (decide (0 ≤ (w64 (x1.2.1 - 1))) && decide ((w64 (x1.2.1 - 1)) < (List.length (List.set x1.2.2.1 x1.2.1.toNat y2) : Int))) <|
    Option.bind ((List.set x1.2.2.1 x1.2.1.toNat y2)[(w64 (x1.2.1 - 1)).toNat]?) fun _ =>
    again (x1.1, w64 (x1.2.1 - 1), List.set (List.set x1.2.2.1 x1.2.1.toNat y2) (w64 (x1.2.1 - 1)).toNat y3, x1.2.2.2.1, ())
  else
    some (Sum.inr (x1.2.2.1, x1.2.2.2.1, ()))

abbrev slices_symMergeCmpFunc_bill_debtP_x33 : Type := Int × Int × Int × Unit × Int × Int × Int × Int × Int × (List (Option Nat)) × (List D_bill_debt) × Unit
abbrev slices_symMergeCmpFunc_bill_debtP_r33 : Type := (((List (Option Nat)) × Unit) ⊕ (Int × Int × Int × Unit × Int × Int × Int × (List (Option Nat)) × (List D_bill_debt) × Unit))
def slices_symMergeCmpFunc_bill_debtP_b33  (x1 : slices_symMergeCmpFunc_bill_debtP_x33) (again : slices_symMergeCmpFunc_bill_debtP_x33 → Option slices_symMergeCmpFunc_bill_debtP_r33) : Option slices_symMergeCmpFunc_bill_debtP_r33 :=
  bif decide (x1.2.2.2.2.2.2.1 < x1.2.2.2.2.2.2.2.1) then
    let n2 : Int := w64 (Int.fdiv (wu64 (w64 (x1.2.2.2.2.2.2.1 + x1.2.2.2.2.2.2.2.1))) (2 ^ 1))
    chk (decide (0 ≤ (w64 (x1.2.2.2.2.2.2.2.2.1 - n2))) && decide ((w64 (x1.2.2.2.2.2.2.2.2.1 - n2)) < (List.length x1.2.2.2.2.2.2.2.2.2.1 : Int))) <|
    Option.bind (x1.2.2.2.2.2.2.2.2.2.1[(w64 (x1.2.2.2.2.2.2.2.2.1 - n2)).toNat]?) fun y3 =>
    chk (decide (0 ≤ n2) && decide (n2 < (List.length x1.2.2.2.2.2.2.2.2.2.1 : Int))) <|
    Option.bind (x1.2.2.2.2.2.2.2.2.2.1[n2.toNat]?) fun y4 =>
    Option.bind (bill_payments_1 y3 y4 x1.2.2.2.2.2.2.2.2.2.2.1) fun r5 =>
    bif !(decide (r5.1 < 0)) then
      again (x1.1, x1.2.1, x1.2.2.1, x1.2.2.2.1, x1.2.2.2.2.1, x1.2.2.2.2.2.1, w64 (n2 + 1), x1.2.2.2.2.2.2.2.1, x1.2.2.2.2.2.2.2.2.1, x1.2.2.2.2.2.2.2.2.2.1, x1.2.2.2.2.2.2.2.2.2.2.1, ())
    else
      again (x1.1, x1.2.1, x1.2.2.1, x1.2.2.2.1, x1.2.2.2.2.1, x1.2.2.2.2.2.1, x1.2.2.2.2.2.2.1, n2, x1.2.2.2.2.2.2.2.2.1, x1.2.2.2.2.2.2.2.2.2.1, x1.2.2.2.2.2.2.2.2.2.2.1, ())
  else
    some (Sum.inr (x1.1, x1.2.1, x1.2.2.1, x1.2.2.2.1, x1.2.2.2.2.1, x1.2.2.2.2.2.1, x1.2.2.2.2.2.2.1, x1.2.2.2.2.2.2.2.2.2.1, x1.2.2.2.2.2.2.2.2.2.2.1, ()))

def slices_symMergeCmpFunc_bill_debtP_F (self : ((List (Option Nat)) × Int × Int × Int × Unit × (List D_bill_debt) × Unit) → Option ((List (Option Nat)) × Unit)) (a0 : List (Option Nat)) (a1 : Int) (a2 : Int) (a3 : Int) (a4 : Unit) (a5 : List D_bill_debt) : Option ((List (Option Nat)) × Unit) :=
  bif (w64 (a2 - a1)) == 1 then
    joinB (β := ((List (Option Nat)) × Unit)) (γ := (Int × Int × (List (Option Nat)) × (List D_bill_debt) × Unit)) (
      iter (X := slices_symMergeCmpFunc_bill_debtP_x3) (β := slices_symMergeCmpFunc_bill_debtP_r3) (Int.natAbs a1 + (Int.natAbs a2 + (Int.natAbs a3 + (List.length a0 + 2)))) (a1, a4, a2, a3, a0, a5, ()) (slices_symMergeCmpFunc_bill_debtP_b3)) fun v6 =>
    joinB (β := ((List (Option Nat)) × Unit)) (γ := ((List (Option Nat)) × (List D_bill_debt) × Unit)) (
      iter (X := slices_symMergeCmpFunc_bill_debtP_x9) (β := slices_symMergeCmpFunc_bill_debtP_r9) (Int.natAbs v6.2.1 + (Int.natAbs v6.1 + (List.length v6.2.2.1 + 2))) (v6.2.1, v6.1, v6.2.2.1, v6.2.2.2.1, ()) (slices_symMergeCmpFunc_bill_debtP_b9)) fun v12 =>
    some (v12.1, ())
  else
    bif (w64 (a3 - a2)) == 1 then
      joinB (β := ((List (Option Nat)) × Unit)) (γ := (Int × Int × (List (Option Nat)) × (List D_bill_debt) × Unit)) (
        iter (X := slices_symMergeCmpFunc_bill_debtP_x15) (β := slices_symMergeCmpFunc_bill_debtP_r15) (Int.natAbs a2 + (Int.natAbs a1 + (Int.natAbs a2 + (List.length a0 + 2)))) (a2, a4, a1, a2, a0, a5, ()) (slices_symMergeCmpFunc_bill_debtP_b15)) fun v18 =>
      joinB (β := ((List (Option Nat)) × Unit)) (γ := ((List (Option Nat)) × (List D_bill_debt) × Unit)) (
        iter (X := slices_symMergeCmpFunc_bill_debtP_x21) (β := slices_symMergeCmpFunc_bill_debtP_r21) (Int.natAbs v18.2.1 + (Int.natAbs v18.1 + (List.length v18.2.2.1 + 2))) (v18.2.1, v18.1, v18.2.2.1, v18.2.2.2.1, ()) (slices_symMergeCmpFunc_bill_debtP_b21)) fun v24 =>
      some (v24.1, ())
    else
      let n25 : Int := w64 (Int.fdiv (wu64 (w64 (a1 + a3))) (2 ^ 1))
      joinB (β := ((List (Option Nat)) × Unit)) (γ := (Int × Int × Int × Unit × Int × Int × Int × Int × (List (Option Nat)) × (List D_bill_debt) × Unit)) (
        bif decide (a2 > n25) then
          some (Sum.inr (a1, a2, a3, a4, n25, w64 (n25 + a2), w64 ((w64 (n25 + a2)) - a3), n25, a0, a5, ()))
        else
          some (Sum.inr (a1, a2, a3, a4, n25, w64 (n25 + a2), a1, a2, a0, a5, ()))) fun v26 =>
      joinB (β := ((List (Option Nat)) × Unit)) (γ := (Int × Int × Int × Unit × Int × Int × Int × (List (Option Nat)) × (List D_bill_debt) × Unit)) (
        iter (X := slices_symMergeCmpFunc_bill_debtP_x33) (β := slices_symMergeCmpFunc_bill_debtP_r33) (Int.natAbs v26.1 + (Int.natAbs v26.2.1 + (Int.natAbs v26.2.2.1 + (Int.natAbs v26.2.2.2.2.1 + (Int.natAbs v26.2.2.2.2.2.1 + (Int.natAbs v26.2.2.2.2.2.2.1 + (Int.natAbs v26.2.2.2.2.2.2.2.1 + (Int.natAbs (w64 (v26.2.2.2.2.2.1 - 1)) + (List.length v26.2.2.2.2.2.2.2.2.1 + 2))))))))) (v26.1, v26.2.1, v26.2.2.1, v26.2.2.2.1, v26.2.2.2.2.1, v26.2.2.2.2.2.1, v26.2.2.2.2.2.2.1, v26.2.2.2.2.2.2.2.1, w64 (v26.2.2.2.2.2.1 - 1), v26.2.2.2.2.2.2.2.2.1, v26.2.2.2.2.2.2.2.2.2.1, ()) (slices_symMergeCmpFunc_bill_debtP_b33)) fun v32 =>
      bif decide (v32.2.2.2.2.2.2.1 < v32.2.1) then
        joinB (β := ((List (Option Nat)) × Unit)) (γ := (Int × Int × Unit × Int × Int × Int × (List (Option Nat)) × (List D_bill_debt) × Unit)) (
          bif decide (v32.2.1 < (w64 (v32.2.2.2.2.2.1 - v32.2.2.2.2.2.2.1))) then
            Option.bind (slices_rotateCmpFunc_bill_debtP v32.2.2.2.2.2.2.2.1 v32.2.2.2.2.2.2.1 v32.2.1 (w64 (v32.2.2.2.2.2.1 - v32.2.2.2.2.2.2.1)) v32.2.2.2.1 v32.2.2.2.2.2.2.2.2.1) fun r33 =>
            some (Sum.inr (v32.1, v32.2.2.1, v32.2.2.2.1, v32.2.2.2.2.1, v32.2.2.2.2.2.2.1, w64 (v32.2.2.2.2.2.1 - v32.2.2.2.2.2.2.1), r33.1, v32.2.2.2.2.2.2.2.2.1, ()))
          else
            some (Sum.inr (v32.1, v32.2.2.1, v32.2.2.2.1, v32.2.2.2.2.1, v32.2.2.2.2.2.2.1, w64 (v32.2.2.2.2.2.1 - v32.2.2.2.2.2.2.1), v32.2.2.2.2.2.2.2.1, v32.2.2.2.2.2.2.2.2.1, ()))) fun v34 =>
        bif decide (v34.1 < v34.2.2.2.2.1) then
          joinB (β := ((List (Option Nat)) × Unit)) (γ := (Int × Unit × Int × Int × (List (Option Nat)) × (List D_bill_debt) × Unit)) (
            bif decide (v34.2.2.2.2.1 < v34.2.2.2.1) then
              Option.bind (self (v34.2.2.2.2.2.2.1, v34.1, v34.2.2.2.2.1, v34.2.2.2.1, v34.2.2.1, v34.2.2.2.2.2.2.2.1, ())) fun r35 =>
              some (Sum.inr (v34.2.1, v34.2.2.1, v34.2.2.2.1, v34.2.2.2.2.2.1, r35.1, v34.2.2.2.2.2.2.2.1, ()))
            else
              some (Sum.inr (v34.2.1, v34.2.2.1, v34.2.2.2.1, v34.2.2.2.2.2.1, v34.2.2.2.2.2.2.1, v34.2.2.2.2.2.2.2.1, ()))) fun v36 =>
          bif decide (v36.2.2.1 < v36.2.2.2.1) then
            bif decide (v36.2.2.2.1 < v36.1) then
              Option.bind (self (v36.2.2.2.2.1, v36.2.2.1, v36.2.2.2.1, v36.1, v36.2.1, v36.2.2.2.2.2.1, ())) fun r37 =>
              some (r37.1, ())
            else
              some (v36.2.2.2.2.1, ())
          else
            some (v36.2.2.2.2.1, ())
        else
          bif decide (v34.2.2.2.1 < v34.2.2.2.2.2.1) then
            bif decide (v34.2.2.2.2.2.1 < v34.2.1) then
              Option.bind (self (v34.2.2.2.2.2.2.1, v34.2.2.2.1, v34.2.2.2.2.2.1, v34.2.1, v34.2.2.1, v34.2.2.2.2.2.2.2.1, ())) fun r38 =>
              some (r38.1, ())
            else
              some (v34.2.2.2.2.2.2.1, ())
          else
            some (v34.2.2.2.2.2.2.1, ())
      else
        bif decide (v32.1 < v32.2.2.2.2.2.2.1) then
          joinB (β := ((List (Option Nat)) × Unit)) (γ := (Int × Unit × Int × Int × (List (Option Nat)) × (List D_bill_debt) × Unit)) (
            bif decide (v32.2.2.2.2.2.2.1 < v32.2.2.2.2.1) then
              Option.bind (self (v32.2.2.2.2.2.2.2.1, v32.1, v32.2.2.2.2.2.2.1, v32.2.2.2.2.1, v32.2.2.2.1, v32.2.2.2.2.2.2.2.2.1, ())) fun r39 =>
              some (Sum.inr (v32.2.2.1, v32.2.2.2.1, v32.2.2.2.2.1, w64 (v32.2.2.2.2.2.1 - v32.2.2.2.2.2.2.1), r39.1, v32.2.2.2.2.2.2.2.2.1, ()))
            else
              some (Sum.inr (v32.2.2.1, v32.2.2.2.1, v32.2.2.2.2.1, w64 (v32.2.2.2.2.2.1 - v32.2.2.2.2.2.2.1), v32.2.2.2.2.2.2.2.1, v32.2.2.2.2.2.2.2.2.1, ()))) fun v40 =>
          bif decide (v40.2.2.1 < v40.2.2.2.1) then
            bif decide (v40.2.2.2.1 < v40.1) then
              Option.bind (self (v40.2.2.2.2.1, v40.2.2.1, v40.2.2.2.1, v40.1, v40.2.1, v40.2.2.2.2.2.1, ())) fun r41 =>
              some (r41.1, ())
            else
              some (v40.2.2.2.2.1, ())
          else
            some (v40.2.2.2.2.1, ())
        else
          bif decide (v32.2.2.2.2.1 < (w64 (v32.2.2.2.2.2.1 - v32.2.2.2.2.2.2.1))) then
            bif decide ((w64 (v32.2.2.2.2.2.1 - v32.2.2.2.2.2.2.1)) < v32.2.2.1) then
              Option.bind (self (v32.2.2.2.2.2.2.2.1, v32.2.2.2.2.1, w64 (v32.2.2.2.2.2.1 - v32.2.2.2.2.2.2.1), v32.2.2.1, v32.2.2.2.1, v32.2.2.2.2.2.2.2.2.1, ())) fun r42 =>
              some (r42.1, ())
            else
              some (v32.2.2.2.2.2.2.2.1, ())
          else
            some (v32.2.2.2.2.2.2.2.1, ())

def slices_symMergeCmpFunc_bill_debtP_fuel (a0 : List (Option Nat)) (a1 : Int) (a2 : Int) (a3 : Int) (_a4 : Unit) (_a5 : List D_bill_debt) : Nat := List.length a0 + (Int.natAbs a1 + (Int.natAbs a2 + (Int.natAbs a3 + 2)))

def slices_symMergeCmpFunc_bill_debtP (a0 : List (Option Nat)) (a1 : Int) (a2 : Int) (a3 : Int) (a4 : Unit) (a5 : List D_bill_debt) : Option ((List (Option Nat)) × Unit) :=
  recM (fun self x => slices_symMergeCmpFunc_bill_debtP_F self x.1 x.2.1 x.2.2.1 x.2.2.2.1 x.2.2.2.2.1 x.2.2.2.2.2.1) (slices_symMergeCmpFunc_bill_debtP_fuel a0 a1 a2 a3 a4 a5) (a0, a1, a2, a3, a4, a5, ())

abbrev slices_stableCmpFunc_bill_debtP_x2 : Type := Int × Unit × Int × Int × Int × (List (Option Nat)) × (List D_bill_debt) × Unit
abbrev slices_stableCmpFunc_bill_debtP_r2 : Type := (((List (Option Nat)) × Unit) ⊕ (Int × Unit × Int × Int × (List (Option Nat)) × (List D_bill_debt) × Unit))
def slices_stableCmpFunc_bill_debtP_b2  (x1 : slices_stableCmpFunc_bill_debtP_x2) (again : slices_stableCmpFunc_bill_debtP_x2 → Option slices_stableCmpFunc_bill_debtP_r2) : Option slices_stableCmpFunc_bill_debtP_r2 :=
  bif decide (x1.2.2.2.2.1 ≤ x1.1) then
    Option.bind (slices_insertionSortCmpFunc_bill_debtP x1.2.2.2.2.2.1 x1.2.2.2.1 x1.2.2.2.2.1 x1.2.1 x1.2.2.2.2.2.2.1) fun r2 =>
    again (x1.1, x1.2.1, x1.2.2.1, x1.2.2.2.2.1, w64 (x1.2.2.2.2.1 + x1.2.2.1), r2.1, x1.2.2.2.2.2.2.1, ())
  else
    some (Sum.inr (x1.1, x1.2.1, x1.2.2.1, x1.2.2.2.1, x1.2.2.2.2.2.1, x1.2.2.2.2.2.2.1, ()))

abbrev slices_stableCmpFunc_bill_debtP_x9 : Type := Int × Unit × Int × Int × Int × (List (Option Nat)) × (List D_bill_debt) × Unit
abbrev slices_stableCmpFunc_bill_debtP_r9 : Type := ((((List (Option Nat)) × Unit) ⊕ ((List (Option Nat)) × (List D_bill_debt) × Unit)) ⊕ (Int × Unit × Int × Int × (List (Option Nat)) × (List D_bill_debt) × Unit))
def slices_stableCmpFunc_bill_debtP_b9  (x1 : slices_stableCmpFunc_bill_debtP_x9) (again : slices_stableCmpFunc_bill_debtP_x9 → Option slices_stableCmpFunc_bill_debtP_r9) : Option slices_stableCmpFunc_bill_debtP_r9 :=
  bif decide (x1.2.2.2.2.1 ≤ x1.1) then
    Option.bind (slices_symMergeCmpFunc_bill_debtP x1.2.2.2.2.2.1 x1.2.2.2.1 (w64 (x1.2.2.2.1 + x1.2.2.1)) x1.2.2.2.2.1 x1.2.1 x1.2.2.2.2.2.2.1) fun r2 =>
    again (x1.1, x1.2.1, x1.2.2.1, x1.2.2.2.2.1, w64 (x1.2.2.2.2.1 + (w64 (2 * x1.2.2.1))), r2.1, x1.2.2.2.2.2.2.1, ())
  else
    some (Sum.inr (x1.1, x1.2.1, x1.2.2.1, x1.2.2.2.1, x1.2.2.2.2.2.1, x1.2.2.2.2.2.2.1, ()))

abbrev slices_stableCmpFunc_bill_debtP_x7 : Type := Int × Unit × Int × (List (Option Nat)) × (List D_bill_debt) × Unit
abbrev slices_stableCmpFunc_bill_debtP_r7 : Type := (((List (Option Nat)) × Unit) ⊕ ((List (Option Nat)) × (List D_bill_debt) × Unit))
def slices_stableCmpFunc_bill_debtP_b7  (x1 : slices_stableCmpFunc_bill_debtP_x7) (again : slices_stableCmpFunc_bill_debtP_x7 → Option slices_stableCmpFunc_bill_debtP_r7) : Option slices_stableCmpFunc_bill_debtP_r7 :=
  bif decide (x1.2.2.1 < x1.1) then
    joinB (β := (((List (Option Nat)) × Unit) ⊕ ((List (Option Nat)) × (List D_bill_debt) × Unit))) (γ := (Int × Unit × Int × Int × (List (Option Nat)) × (List D_bill_debt) × Unit)) (
      iter (X := slices_stableCmpFunc_bill_debtP_x9) (β := slices_stableCmpFunc_bill_debtP_r9) (Int.natAbs x1.1 + (Int.natAbs x1.2.2.1 + (Int.natAbs (0 : Int) + (Int.natAbs (w64 (2 * x1.2.2.1)) + (List.length x1.2.2.2.1 + 2))))) (x1.1, x1.2.1, x1.2.2.1, 0, w64 (2 * x1.2.2.1), x1.2.2.2.1, x1.2.2.2.2.1, ()) (slices_stableCmpFunc_bill_debtP_b9)) fun v2 =>
    bif decide ((w64 (v2.2.2.2.1 + v2.2.2.1)) < v2.1) then
      Option.bind (slices_symMergeCmpFunc_bill_debtP v2.2.2.2.2.1 v2.2.2.2.1 (w64 (v2.2.2.2.1 + v2.2.2.1)) v2.1 v2.2.1 v2.2.2.2.2.2.1) fun r3 =>
      again (v2.1, v2.2.1, w64 (v2.2.2.1 * 2), r3.1, v2.2.2.2.2.2.1, ())
    else
      again (v2.1, v2.2.1, w64 (v2.2.2.1 * 2), v2.2.2.2.2.1, v2.2.2.2.2.2.1, ())
  else
    some (Sum.inr (x1.2.2.2.1, x1.2.2.2.2.1, ()))

def slices_stableCmpFunc_bill_debtP (a0 : List (Option Nat)) (a1 : Int) (a2 : Unit) (a3 : List D_bill_debt) : Option ((List (Option Nat)) × Unit) :=
  joinB (β := ((List (Option Nat)) × Unit)) (γ := (Int × Unit × Int × Int × (List (Option Nat)) × (List D_bill_debt) × Unit)) (
    iter (X := slices_stableCmpFunc_bill_debtP_x2) (β := slices_stableCmpFunc_bill_debtP_r2) (Int.natAbs a1 + (Int.natAbs (20 : Int) + (Int.natAbs (0 : Int) + (Int.natAbs (20 : Int) + (List.length a0 + 2))))) (a1, a2, 20, 0, 20, a0, a3, ()) (slices_stableCmpFunc_bill_debtP_b2)) fun v3 =>
  Option.bind (slices_insertionSortCmpFunc_bill_debtP v3.2.2.2.2.1 v3.2.2.2.1 v3.1 v3.2.1 v3.2.2.2.2.2.1) fun r4 =>
  joinB (β := ((List (Option Nat)) × Unit)) (γ := ((List (Option Nat)) × (List D_bill_debt) × Unit)) (
    iter (X := slices_stableCmpFunc_bill_debtP_x7) (β := slices_stableCmpFunc_bill_debtP_r7) (Int.natAbs v3.1 + (Int.natAbs v3.2.2.1 + (List.length r4.1 + 2))) (v3.1, v3.2.1, v3.2.2.1, r4.1, v3.2.2.2.2.2.1, ()) (slices_stableCmpFunc_bill_debtP_b7)) fun v10 =>
  some (v10.1, ())

def slices_SortStableFunc_bill_debtP (a0 : List (Option Nat)) (a1 : Unit) (a2 : List D_bill_debt) : Option ((List (Option Nat)) × Unit) :=
  Option.bind (slices_stableCmpFunc_bill_debtP a0 ((List.length a0 : Int)) a1 a2) fun r1 =>
  some (r1.1, ())

abbrev whole_trimmed_x1 : Type := (List Int) × Unit
abbrev whole_trimmed_r1 : Type := (((List Int) × Unit) ⊕ ((List Int) × Unit))
def whole_trimmed_b1  (x1 : whole_trimmed_x1) (again : whole_trimmed_x1 → Option whole_trimmed_r1) : Option whole_trimmed_r1 :=
  bif decide (((List.length x1.1 : Int)) > 0) then
    Option.bind (idx x1.1 (w64 (((List.length x1.1 : Int)) - 1))) fun y2 =>
    bif y2 == 0 then
      chk (decide (0 ≤ (0 : Int)) && decide ((0 : Int) ≤ (w64 (((List.length x1.1 : Int)) - 1))) && decide ((w64 (((List.length x1.1 : Int)) - 1)) ≤ (List.length x1.1 : Int))) <|
      again (List.drop 0 (List.take (Int.toNat (w64 (((List.length x1.1 : Int)) - 1))) x1.1), ())
    else
      some (Sum.inr (x1.1, ()))
  else
    some (Sum.inr (x1.1, ()))

def whole_trimmed (a0 : List Int) : Option ((List Int) × Unit) :=
  joinB (β := ((List Int) × Unit)) (γ := ((List Int) × Unit)) (
    iter (X := whole_trimmed_x1) (β := whole_trimmed_r1) (List.length a0 + 2) (a0, ()) (whole_trimmed_b1)) fun v3 =>
  some (v3.1, ())

def whole_made (a0 : Bool) (a1 : List Int) : Option (D_whole_Int × Unit) :=
  Option.bind (whole_trimmed a1) fun r1 =>
  bif a0 then
    some ((decide (((List.length r1.1 : Int)) > 0), r1.1), ())
  else
    some ((false, r1.1), ())

def whole_Of (a0 : Int) : Option (D_whole_Int × Unit) :=
  joinB (β := (D_whole_Int × Unit)) (γ := (Int × Int × Bool × (List Int) × Unit)) (
    bif decide (a0 < 0) then
      some (Sum.inr (a0, wu64 (0 - (wu64 a0)), false, [], ()))
    else
      some (Sum.inr (a0, wu64 a0, false, [], ()))) fun v1 =>
  Option.bind (whole_made (decide (v1.1 < 0)) [(wu32 v1.2.1), (wu32 (Int.fdiv v1.2.1 (2 ^ 32)))]) fun r2 =>
  some (r2.1, ())

abbrev whole_sum_x6 : Type := (List Int) × (List Int) × Int × (List Int) × Int × Int × Unit
abbrev whole_sum_r6 : Type := (((List Int) × Unit) ⊕ ((List Int) × Int × Unit))
def whole_sum_b6  (x1 : whole_sum_x6) (again : whole_sum_x6 → Option whole_sum_r6) : Option whole_sum_r6 :=
  bif decide (x1.2.2.2.2.2.1 < x1.2.2.2.2.1) then
    Option.bind (idx x1.2.2.2.1 x1.2.2.2.2.2.1) fun y2 =>
    joinB (β := (((List Int) × Unit) ⊕ ((List Int) × Int × Unit))) (γ := ((List Int) × (List Int) × Int × (List Int) × Int × Int × Unit)) (
      bif decide (x1.2.2.2.2.2.1 < ((List.length x1.1 : Int))) then
        Option.bind (idx x1.1 x1.2.2.2.2.2.1) fun y3 =>
        let n4 : Int := wu64 ((wu64 (x1.2.2.1 + (wu64 y2))) + (wu64 y3))
        some (Sum.inr (x1.1, x1.2.1, n4, x1.2.2.2.1, x1.2.2.2.2.1, x1.2.2.2.2.2.1, ()))
      else
        some (Sum.inr (x1.1, x1.2.1, wu64 (x1.2.2.1 + (wu64 y2)), x1.2.2.2.1, x1.2.2.2.2.1, x1.2.2.2.2.2.1, ()))) fun v5 =>
    chk (decide (((List.length v5.2.1) + 1) * 4 ≤ 140737488355328) && decide ((List.length v5.2.1) + 1 ≤ maxLen)) <|
    again (v5.1, v5.2.1 ++ [(wu32 v5.2.2.1)], Int.fdiv v5.2.2.1 (2 ^ 32), v5.2.2.2.1, v5.2.2.2.2.1, w64 (v5.2.2.2.2.2.1 + 1), ())
  else
    some (Sum.inr (x1.2.1, x1.2.2.1, ()))

def whole_sum (a0 : List Int) (a1 : List Int) : Option ((List Int) × Unit) :=
  joinB (β := ((List Int) × Unit)) (γ := ((List Int) × (List Int) × Unit)) (
    bif decide (((List.length a0 : Int)) < ((List.length a1 : Int))) then
      some (Sum.inr (a1, a0, ()))
    else
      some (Sum.inr (a0, a1, ()))) fun v1 =>
  chk (decide (0 ≤ (0 : Int)) && decide ((0 : Int) ≤ (w64 (((List.length v1.1 : Int)) + 1))) && decide ((4 : Int) * (w64 (((List.length v1.1 : Int)) + 1)) ≤ 281474976710656) && decide ((w64 (((List.length v1.1 : Int)) + 1)) ≤ 9223372036854775807)) <|
  joinB (β := ((List Int) × Unit)) (γ := ((List Int) × Int × Unit)) (
    iter (X := whole_sum_x6) (β := whole_sum_r6) (List.length v1.2.1 + (List.length ([] : List Int) + (Int.natAbs (0 : Int) + (List.length v1.1 + (Int.natAbs ((List.length v1.1 : Int)) + (Int.natAbs (0 : Int) + 2)))))) (v1.2.1, [], 0, v1.1, (List.length v1.1 : Int), 0, ()) (whole_sum_b6)) fun v7 =>
  chk (decide (((List.length v7.1) + 1) * 4 ≤ 140737488355328) && decide ((List.length v7.1) + 1 ≤ maxLen)) <|
  some (v7.1 ++ [(wu32 v7.2.1)], ())

abbrev whole_compare_x4 : Type := (List Int) × (List Int) × Int × Unit
abbrev whole_compare_r4 : Type := ((Int × Unit) ⊕ Unit)
def whole_compare_b4  (x1 : whole_compare_x4) (again : whole_compare_x4 → Option whole_compare_r4) : Option whole_compare_r4 :=
  bif decide (x1.2.2.1 ≥ 0) then
    Option.bind (idx x1.1 x1.2.2.1) fun y2 =>
    Option.bind (idx x1.2.1 x1.2.2.1) fun y3 =>
    bif y2 != y3 then
      Option.bind (idx x1.1 x1.2.2.1) fun y4 =>
      Option.bind (idx x1.2.1 x1.2.2.1) fun y5 =>
      bif decide (y4 < y5) then
        some (Sum.inl ((-1), ()))
      else
        some (Sum.inl (1, ()))
    else
      again (x1.1, x1.2.1, w64 (x1.2.2.1 - 1), ())
  else
    some (Sum.inr ())

def whole_compare (a0 : List Int) (a1 : List Int) : Option (Int × Unit) :=
  bif ((List.length a0 : Int)) != ((List.length a1 : Int)) then
    some (w64 (((List.length a0 : Int)) - ((List.length a1 : Int))), ())
  else
    joinB (β := (Int × Unit)) (γ := Unit) (
      iter (X := whole_compare_x4) (β := whole_compare_r4) (List.length a0 + (List.length a1 + (Int.natAbs (w64 (((List.length a0 : Int)) - 1)) + 2))) (a0, a1, w64 (((List.length a0 : Int)) - 1), ()) (whole_compare_b4)) fun _ =>
    some (0, ())

abbrev whole_less_x4 : Type := (List Int) × (List Int) × Int × (List Int) × Int × Int × Unit
abbrev whole_less_r4 : Type := (((List Int) × Unit) ⊕ ((List Int) × Unit))
def whole_less_b4  (x1 : whole_less_x4) (again : whole_less_x4 → Option whole_less_r4) : Option whole_less_r4 :=
  bif decide (x1.2.2.2.2.2.1 < x1.2.2.2.2.1) then
    Option.bind (idx x1.2.2.2.1 x1.2.2.2.2.2.1) fun y2 =>
    joinB (β := (((List Int) × Unit) ⊕ ((List Int) × Unit))) (γ := ((List Int) × (List Int) × Int × (List Int) × Int × Int × Unit)) (
      bif decide (x1.2.2.2.2.2.1 < ((List.length x1.1 : Int))) then
        Option.bind (idx x1.1 x1.2.2.2.2.2.1) fun y3 =>
        let n4 : Int := wu64 ((wu64 ((wu64 y2) - x1.2.2.1)) - (wu64 y3))
        some (Sum.inr (x1.1, x1.2.1, n4, x1.2.2.2.1, x1.2.2.2.2.1, x1.2.2.2.2.2.1, ()))
      else
        some (Sum.inr (x1.1, x1.2.1, wu64 ((wu64 y2) - x1.2.2.1), x1.2.2.2.1, x1.2.2.2.2.1, x1.2.2.2.2.2.1, ()))) fun v5 =>
    chk (decide (((List.length v5.2.1) + 1) * 4 ≤ 140737488355328) && decide ((List.length v5.2.1) + 1 ≤ maxLen)) <|
    again (v5.1, v5.2.1 ++ [(wu32 v5.2.2.1)], wu64 (((BitVec.ofInt (IntKind.bits .u64) (Int.fdiv v5.2.2.1 (2 ^ 32)) &&& BitVec.ofInt (IntKind.bits .u64) 1).toNat : Int)), v5.2.2.2.1, v5.2.2.2.2.1, w64 (v5.2.2.2.2.2.1 + 1), ())
  else
    some (Sum.inr (x1.2.1, ()))

def whole_less (a0 : List Int) (a1 : List Int) : Option ((List Int) × Unit) :=
  chk (decide (0 ≤ (0 : Int)) && decide ((0 : Int) ≤ ((List.length a0 : Int))) && decide ((4 : Int) * ((List.length a0 : Int)) ≤ 281474976710656) && decide (((List.length a0 : Int)) ≤ 9223372036854775807)) <|
  joinB (β := ((List Int) × Unit)) (γ := ((List Int) × Unit)) (
    iter (X := whole_less_x4) (β := whole_less_r4) (List.length a1 + (List.length ([] : List Int) + (Int.natAbs (0 : Int) + (List.length a0 + (Int.natAbs ((List.length a0 : Int)) + (Int.natAbs (0 : Int) + 2)))))) (a1, [], 0, a0, (List.length a0 : Int), 0, ()) (whole_less_b4)) fun v6 =>
  Option.bind (whole_trimmed v6.1) fun r7 =>
  some (r7.1, ())

abbrev whole_Int_By_x4 : Type := (List Int) × Int × Bool × (List Int) × Bool × (List Int) × Bool × (List Int) × Bool × (List Int) × (List Int) × Unit
abbrev whole_Int_By_r4 : Type := ((D_whole_Int × D_whole_Int × Unit) ⊕ ((List Int) × Bool × (List Int) × Bool × (List Int) × (List Int) × Unit))
def whole_Int_By_b4  (x1 : whole_Int_By_x4) (again : whole_Int_By_x4 → Option whole_Int_By_r4) : Option whole_Int_By_r4 :=
  bif decide (x1.2.1 ≥ 0) then
    Option.bind (whole_sum x1.1 x1.1) fun r2 =>
    chk (decide (0 ≤ (0 : Int)) && decide ((0 : Int) < (List.length r2.1 : Int))) <|
    Option.bind (r2.1[0]?) fun y3 =>
    Option.bind (idx x1.2.2.2.1 (w64 (Int.tdiv x1.2.1 32))) fun y4 =>
    chk (decide (0 ≤ (Int.tmod x1.2.1 32))) <|
    let n5 : Int := wu32 (((BitVec.ofInt (IntKind.bits .u32) (Int.fdiv y4 (2 ^ (min (Int.toNat (Int.tmod x1.2.1 32)) (IntKind.bits .u32)))) &&& BitVec.ofInt (IntKind.bits .u32) 1).toNat : Int))
    chk (decide (0 ≤ (0 : Int)) && decide ((0 : Int) < (List.length r2.1 : Int))) <|
    Option.bind (r2.1[0]?) fun _ =>
    Option.bind (whole_trimmed (List.set r2.1 0 (wu32 (((BitVec.ofInt (IntKind.bits .u32) y3 ||| BitVec.ofInt (IntKind.bits .u32) n5).toNat : Int))))) fun r6 =>
    Option.bind (whole_compare r6.1 x1.2.2.2.2.2.1) fun r7 =>
    bif decide (r7.1 ≥ 0) then
      Option.bind (whole_less r6.1 x1.2.2.2.2.2.1) fun r8 =>
      chk (decide (0 ≤ (w64 (Int.tdiv x1.2.1 32))) && decide ((w64 (Int.tdiv x1.2.1 32)) < (List.length x1.2.2.2.2.2.2.2.2.2.2.1 : Int))) <|
      Option.bind (x1.2.2.2.2.2.2.2.2.2.2.1[(w64 (Int.tdiv x1.2.1 32)).toNat]?) fun y9 =>
      chk (decide (0 ≤ (Int.tmod x1.2.1 32))) <|
      let n10 : Int := wu32 (((BitVec.ofInt (IntKind.bits .u32) y9 ||| BitVec.ofInt (IntKind.bits .u32) (wu32 (1 * 2 ^ (min (Int.toNat (Int.tmod x1.2.1 32)) (IntKind.bits .u32))))).toNat : Int))
      chk (decide (0 ≤ (w64 (Int.tdiv x1.2.1 32))) && decide ((w64 (Int.tdiv x1.2.1 32)) < (List.length x1.2.2.2.2.2.2.2.2.2.2.1 : Int))) <|
      Option.bind (x1.2.2.2.2.2.2.2.2.2.2.1[(w64 (Int.tdiv x1.2.1 32)).toNat]?) fun _ =>
      again (r8.1, w64 (x1.2.1 - 1), x1.2.2.1, x1.2.2.2.1, x1.2.2.2.2.1, x1.2.2.2.2.2.1, x1.2.2.2.2.2.2.1, x1.2.2.2.2.2.2.2.1, x1.2.2.2.2.2.2.2.2.1, x1.2.2.2.2.2.2.2.2.2.1, List.set x1.2.2.2.2.2.2.2.2.2.2.1 (w64 (Int.tdiv x1.2.1 32)).toNat n10, ())
    else
      again (r6.1, w64 (x1.2.1 - 1), x1.2.2.1, x1.2.2.2.1, x1.2.2.2.2.1, x1.2.2.2.2.2.1, x1.2.2.2.2.2.2.1, x1.2.2.2.2.2.2.2.1, x1.2.2.2.2.2.2.2.2.1, x1.2.2.2.2.2.2.2.2.2.1, x1.2.2.2.2.2.2.2.2.2.2.1, ())
  else
    some (Sum.inr (x1.1, x1.2.2.2.2.2.2.1, x1.2.2.2.2.2.2.2.1, x1.2.2.2.2.2.2.2.2.1, x1.2.2.2.2.2.2.2.2.2.1, x1.2.2.2.2.2.2.2.2.2.2.1, ()))

def whole_Int_By (a0 : D_whole_Int) (a1 : D_whole_Int) : Option (D_whole_Int × D_whole_Int × Unit) :=
  chk (decide (0 ≤ ((List.length a0.2 : Int))) && decide (((List.length a0.2 : Int)) ≤ ((List.length a0.2 : Int))) && decide ((4 : Int) * ((List.length a0.2 : Int)) ≤ 281474976710656) && decide (((List.length a0.2 : Int)) ≤ 9223372036854775807)) <|
  let n1 : Int := w64 ((w64 (((List.length a0.2 : Int)) * 32)) - 1)
  joinB (β := (D_whole_Int × D_whole_Int × Unit)) (γ := ((List Int) × Bool × (List Int) × Bool × (List Int) × (List Int) × Unit)) (
    iter (X := whole_Int_By_x4) (β := whole_Int_By_r4) (List.length ([] : List Int) + (Int.natAbs n1 + (List.length a0.2 + (List.length a1.2 + (List.length ([] : List Int) + (List.length ([] : List Int) + (List.length ((List.replicate (Int.toNat ((List.length a0.2 : Int))) 0) : List Int) + 2))))))) ([], n1, a0.1, a0.2, a1.1, a1.2, false, [], false, [], List.replicate (Int.toNat ((List.length a0.2 : Int))) 0, ()) (whole_Int_By_b4)) fun v14 =>
  Option.bind (whole_made false v14.2.2.2.2.2.1) fun r15 =>
  Option.bind (whole_made false v14.1) fun r16 =>
  some (r15.1, r16.1, ())

def whole_Int_Sign (a0 : D_whole_Int) : Option (Int × Unit) :=
  bif a0.1 then
    some ((-1), ())
  else
    bif ((List.length a0.2 : Int)) == 0 then
      some (0, ())
    else
      some (1, ())

def whole_Int_Minus (a0 : D_whole_Int) : Option (D_whole_Int × Unit) :=
  Option.bind (whole_made (!a0.1) a0.2) fun r1 =>
  some (r1.1, ())

abbrev whole_Int_Int_x5 : Type := Int × Int × (List Int) × Int × Int × Bool × (List Int) × Unit
abbrev whole_Int_Int_r5 : Type := ((Int × Bool × Unit) ⊕ (Int × Int × Bool × (List Int) × Unit))
def whole_Int_Int_b5  (x1 : whole_Int_Int_x5) (again : whole_Int_Int_x5 → Option whole_Int_Int_r5) : Option whole_Int_Int_r5 :=
  bif decide (x1.2.2.2.2.1 < x1.2.2.2.1) then
    Option.bind (idx x1.2.2.1 x1.2.2.2.2.1) fun y2 =>
    chk (decide (0 ≤ (w64 (32 * x1.2.2.2.2.1)))) <|
    let n3 : Int := wu64 ((wu64 y2) * 2 ^ (min (Int.toNat (w64 (32 * x1.2.2.2.2.1))) (IntKind.bits .u64)))
    again (x1.1, wu64 (((BitVec.ofInt (IntKind.bits .u64) x1.2.1 ||| BitVec.ofInt (IntKind.bits .u64) n3).toNat : Int)), x1.2.2.1, x1.2.2.2.1, w64 (x1.2.2.2.2.1 + 1), x1.2.2.2.2.2.1, x1.2.2.2.2.2.2.1, ())
  else
    some (Sum.inr (x1.1, x1.2.1, x1.2.2.2.2.2.1, x1.2.2.2.2.2.2.1, ()))

def whole_Int_Int (a0 : D_whole_Int) (a1 : Int) : Option (Int × Bool × Unit) :=
  bif decide (((List.length a0.2 : Int)) > 2) then
    some (0, false, ())
  else
    joinB (β := (Int × Bool × Unit)) (γ := (Int × Int × Bool × (List Int) × Unit)) (
      iter (X := whole_Int_Int_x5) (β := whole_Int_Int_r5) (Int.natAbs a1 + (Int.natAbs (0 : Int) + (List.length a0.2 + (Int.natAbs ((List.length a0.2 : Int)) + (Int.natAbs (0 : Int) + (List.length a0.2 + 2)))))) (a1, 0, a0.2, (List.length a0.2 : Int), 0, a0.1, a0.2, ()) (whole_Int_Int_b5)) fun v4 =>
    bif decide (v4.2.1 > (wu64 v4.1)) then
      some (0, false, ())
    else
      bif v4.2.2.1 then
        some (w64 (0 - (w64 v4.2.1)), true, ())
      else
        some (w64 v4.2.1, true, ())

def amount_Made (a0 : D_whole_Int) (a1 : Int) : Option (D_api_Decimal × Int × Unit) :=
  Option.bind (whole_Int_Int a0 1000000000000000) fun r1 =>
  bif !r1.2.1 then
    some ((0, 0), 1, ())
  else
    some ((r1.1, a1), 0, ())

abbrev amount_Fewest_x2 : Type := Int × Bool × (List Int) × Int × Int × Bool × (List Int) × Unit
abbrev amount_Fewest_r2 : Type := ((D_api_Decimal × Int × Unit) ⊕ (Int × Bool × (List Int) × Int × Int × Unit))
def amount_Fewest_b2  (x1 : amount_Fewest_x2) (again : amount_Fewest_x2 → Option amount_Fewest_r2) : Option amount_Fewest_r2 :=
  bif decide (x1.1 > 0) then
    Option.bind (whole_Int_By (x1.2.1, x1.2.2.1) (x1.2.2.2.2.2.1, x1.2.2.2.2.2.2.1)) fun r2 =>
    Option.bind (whole_Int_Sign r2.2.1) fun r3 =>
    bif r3.1 != 0 then
      some (Sum.inr (x1.1, x1.2.1, x1.2.2.1, x1.2.2.2.1, x1.2.2.2.2.1, ()))
    else
      Option.bind (whole_Int_Sign (x1.2.1, x1.2.2.1)) fun r4 =>
      bif decide (r4.1 < 0) then
        Option.bind (whole_Int_Minus r2.1) fun r5 =>
        again (w64 (x1.1 - 1), r5.1.1, r5.1.2, x1.2.2.2.1, x1.2.2.2.2.1, x1.2.2.2.2.2.1, x1.2.2.2.2.2.2.1, ())
      else
        again (w64 (x1.1 - 1), r2.1.1, r2.1.2, x1.2.2.2.1, x1.2.2.2.2.1, x1.2.2.2.2.2.1, x1.2.2.2.2.2.2.1, ())
  else
    some (Sum.inr (x1.1, x1.2.1, x1.2.2.1, x1.2.2.2.1, x1.2.2.2.2.1, ()))

def amount_Fewest (a0 : D_whole_Int) (a1 : Int) : Option (D_api_Decimal × Int × Unit) :=
  Option.bind (whole_Of 10) fun r1 =>
  joinB (β := (D_api_Decimal × Int × Unit)) (γ := (Int × Bool × (List Int) × Int × Int × Unit)) (
    iter (X := amount_Fewest_x2) (β := amount_Fewest_r2) (Int.natAbs a1 + (List.length a0.2 + (Int.natAbs (0 : Int) + (Int.natAbs (0 : Int) + (List.length r1.1.2 + 2))))) (a1, a0.1, a0.2, 0, 0, r1.1.1, r1.1.2, ()) (amount_Fewest_b2)) fun v7 =>
  Option.bind (amount_Made (v7.2.1, v7.2.2.1) v7.1) fun r8 =>
  some (r8.1, r8.2.1, ())

abbrev r1_Of_x2 : Type := Int × Bool × (List Int) × Bool × (List Int) × Unit
abbrev r1_Of_r2 : Type := ((D_interchangeref1_Num × Unit) ⊕ (Bool × (List Int) × Bool × (List Int) × Unit))
def r1_Of_b2  (x1 : r1_Of_x2) (again : r1_Of_x2 → Option r1_Of_r2) : Option r1_Of_r2 :=
  bif x1.1 != 0 then
    chk (decide (((List.length x1.2.2.2.2.1) + 1) * 8 ≤ 140737488355328) && decide ((List.length x1.2.2.2.2.1) + 1 ≤ maxLen)) <|
    again (w64 (Int.tdiv x1.1 1000000), x1.2.1, x1.2.2.1, x1.2.2.2.1, x1.2.2.2.2.1 ++ [(if (w64 (0 - (Int.tmod x1.1 1000000))) > (Int.tmod x1.1 1000000) then (w64 (0 - (Int.tmod x1.1 1000000))) else (Int.tmod x1.1 1000000))], ())
  else
    some (Sum.inr (x1.2.1, x1.2.2.1, x1.2.2.2.1, x1.2.2.2.2.1, ()))

def r1_Of (a0 : Int) : Option (D_interchangeref1_Num × Unit) :=
  joinB (β := (D_interchangeref1_Num × Unit)) (γ := (Bool × (List Int) × Bool × (List Int) × Unit)) (
    iter (X := r1_Of_x2) (β := r1_Of_r2) (Int.natAbs a0 + (List.length ([] : List Int) + (List.length ([] : List Int) + 2))) (a0, false, [], decide (a0 < 0), [], ()) (r1_Of_b2)) fun v2 =>
  some ((v2.2.2.1, v2.2.2.2.1), ())

abbrev r1_trimmed_x1 : Type := Bool × (List Int) × Bool × (List Int) × Unit
abbrev r1_trimmed_r1 : Type := ((D_interchangeref1_Num × Unit) ⊕ (Bool × (List Int) × Bool × (List Int) × Unit))
def r1_trimmed_b1  (x1 : r1_trimmed_x1) (again : r1_trimmed_x1 → Option r1_trimmed_r1) : Option r1_trimmed_r1 :=
  bif decide (((List.length x1.2.1 : Int)) > 0) then
    Option.bind (idx x1.2.1 (w64 (((List.length x1.2.1 : Int)) - 1))) fun y2 =>
    bif y2 == 0 then
      chk (decide (0 ≤ (0 : Int)) && decide ((0 : Int) ≤ (w64 (((List.length x1.2.1 : Int)) - 1))) && decide ((w64 (((List.length x1.2.1 : Int)) - 1)) ≤ (List.length x1.2.1 : Int))) <|
      again (x1.1, List.drop 0 (List.take (Int.toNat (w64 (((List.length x1.2.1 : Int)) - 1))) x1.2.1), x1.2.2.1, x1.2.2.2.1, ())
    else
      some (Sum.inr (x1.1, x1.2.1, x1.2.2.1, x1.2.2.2.1, ()))
  else
    some (Sum.inr (x1.1, x1.2.1, x1.2.2.1, x1.2.2.2.1, ()))

def r1_trimmed (a0 : D_interchangeref1_Num) : Option (D_interchangeref1_Num × Unit) :=
  joinB (β := (D_interchangeref1_Num × Unit)) (γ := (Bool × (List Int) × Bool × (List Int) × Unit)) (
    iter (X := r1_trimmed_x1) (β := r1_trimmed_r1) (List.length a0.2 + (List.length ([] : List Int) + 2)) (a0.1, a0.2, false, [], ()) (r1_trimmed_b1)) fun v3 =>
  bif ((List.length v3.2.1 : Int)) == 0 then
    some ((false, v3.2.1), ())
  else
    some ((v3.1, v3.2.1), ())

abbrev r1_TimesOf_x6 : Type := Int × Int × (List Int) × Int × Int × (List Int) × Int × Int × Bool × (List Int) × Bool × (List Int) × Bool × (List Int) × Unit
abbrev r1_TimesOf_r6 : Type := (((D_interchangeref1_Num × Unit) ⊕ (Bool × (List Int) × Bool × (List Int) × Unit)) ⊕ ((List Int) × Int × Int × Bool × (List Int) × Bool × (List Int) × Bool × (List Int) × Unit))
def r1_TimesOf_b6  (x1 : r1_TimesOf_x6) (again : r1_TimesOf_x6 → Option r1_TimesOf_r6) : Option r1_TimesOf_r6 :=
  bif decide (x1.2.2.2.2.2.2.2.1 < x1.2.2.2.2.2.2.1) then
    Option.bind (idx x1.2.2.2.2.2.1 x1.2.2.2.2.2.2.2.1) fun y2 =>
    chk (decide (0 ≤ (w64 (x1.1 + x1.2.2.2.2.2.2.2.1))) && decide ((w64 (x1.1 + x1.2.2.2.2.2.2.2.1)) < (List.length x1.2.2.2.2.2.2.2.2.2.2.2.2.2.1 : Int))) <|
    Option.bind (x1.2.2.2.2.2.2.2.2.2.2.2.2.2.1[(w64 (x1.1 + x1.2.2.2.2.2.2.2.1)).toNat]?) fun y3 =>
    chk (decide (0 ≤ (w64 (x1.1 + x1.2.2.2.2.2.2.2.1))) && decide ((w64 (x1.1 + x1.2.2.2.2.2.2.2.1)) < (List.length x1.2.2.2.2.2.2.2.2.2.2.2.2.2.1 : Int))) <|
    Option.bind (x1.2.2.2.2.2.2.2.2.2.2.2.2.2.1[(w64 (x1.1 + x1.2.2.2.2.2.2.2.1)).toNat]?) fun _ =>
    chk (decide (0 ≤ (w64 ((w64 (x1.1 + x1.2.2.2.2.2.2.2.1)) + 1))) && decide ((w64 ((w64 (x1.1 + x1.2.2.2.2.2.2.2.1)) + 1)) < (List.length (List.set x1.2.2.2.2.2.2.2.2.2.2.2.2.2.1 (w64 (x1.1 + x1.2.2.2.2.2.2.2.1)).toNat (w64 (y3 + (w64 (x1.2.1 * y2))))) : Int))) <|
    Option.bind ((List.set x1.2.2.2.2.2.2.2.2.2.2.2.2.2.1 (w64 (x1.1 + x1.2.2.2.2.2.2.2.1)).toNat (w64 (y3 + (w64 (x1.2.1 * y2)))))[(w64 ((w64 (x1.1 + x1.2.2.2.2.2.2.2.1)) + 1)).toNat]?) fun y4 =>
    chk (decide (0 ≤ (w64 (x1.1 + x1.2.2.2.2.2.2.2.1))) && decide ((w64 (x1.1 + x1.2.2.2.2.2.2.2.1)) < (List.length (List.set x1.2.2.2.2.2.2.2.2.2.2.2.2.2.1 (w64 (x1.1 + x1.2.2.2.2.2.2.2.1)).toNat (w64 (y3 + (w64 (x1.2.1 * y2))))) : Int))) <|
    Option.bind ((List.set x1.2.2.2.2.2.2.2.2.2.2.2.2.2.1 (w64 (x1.1 + x1.2.2.2.2.2.2.2.1)).toNat (w64 (y3 + (w64 (x1.2.1 * y2)))))[(w64 (x1.1 + x1.2.2.2.2.2.2.2.1)).toNat]?) fun y5 =>
    chk (decide (0 ≤ (w64 ((w64 (x1.1 + x1.2.2.2.2.2.2.2.1)) + 1))) && decide ((w64 ((w64 (x1.1 + x1.2.2.2.2.2.2.2.1)) + 1)) < (List.length (List.set x1.2.2.2.2.2.2.2.2.2.2.2.2.2.1 (w64 (x1.1 + x1.2.2.2.2.2.2.2.1)).toNat (w64 (y3 + (w64 (x1.2.1 * y2))))) : Int))) <|
    Option.bind ((List.set x1.2.2.2.2.2.2.2.2.2.2.2.2.2.1 (w64 (x1.1 + x1.2.2.2.2.2.2.2.1)).toNat (w64 (y3 + (w64 (x1.2.1 * y2)))))[(w64 ((w64 (x1.1 + x1.2.2.2.2.2.2.2.1)) + 1)).toNat]?) fun _ =>
    chk (decide (0 ≤ (w64 (x1.1 + x1.2.2.2.2.2.2.2.1))) && decide ((w64 (x1.1 + x1.2.2.2.2.2.2.2.1)) < (List.length (List.set (List.set x1.2.2.2.2.2.2.2.2.2.2.2.2.2.1 (w64 (x1.1 + x1.2.2.2.2.2.2.2.1)).toNat (w64 (y3 + (w64 (x1.2.1 * y2))))) (w64 ((w64 (x1.1 + x1.2.2.2.2.2.2.2.1)) + 1)).toNat (w64 (y4 + (w64 (Int.tdiv y5 1000000))))) : Int))) <|
    Option.bind ((List.set (List.set x1.2.2.2.2.2.2.2.2.2.2.2.2.2.1 (w64 (x1.1 + x1.2.2.2.2.2.2.2.1)).toNat (w64 (y3 + (w64 (x1.2.1 * y2))))) (w64 ((w64 (x1.1 + x1.2.2.2.2.2.2.2.1)) + 1)).toNat (w64 (y4 + (w64 (Int.tdiv y5 1000000)))))[(w64 (x1.1 + x1.2.2.2.2.2.2.2.1)).toNat]?) fun y6 =>
    chk (decide (0 ≤ (w64 (x1.1 + x1.2.2.2.2.2.2.2.1))) && decide ((w64 (x1.1 + x1.2.2.2.2.2.2.2.1)) < (List.length (List.set (List.set x1.2.2.2.2.2.2.2.2.2.2.2.2.2.1 (w64 (x1.1 + x1.2.2.2.2.2.2.2.1)).toNat (w64 (y3 + (w64 (x1.2.1 * y2))))) (w64 ((w64 (x1.1 + x1.2.2.2.2.2.2.2.1)) + 1)).toNat (w64 (y4 + (w64 (Int.tdiv y5 1000000))))) : Int))) <|
    Option.bind ((List.set (List.set x1.2.2.2.2.2.2.2.2.2.2.2.2.2.1 (w64 (x1.1 + x1.2.2.2.2.2.2.2.1)).toNat (w64 (y3 + (w64 (x1.2.1 * y2))))) (w64 ((w64 (x1.1 + x1.2.2.2.2.2.2.2.1)) + 1)).toNat (w64 (y4 + (w64 (Int.tdiv y5 1000000)))))[(w64 (x1.1 + x1.2.2.2.2.2.2.2.1)).toNat]?) fun _ =>
    again (x1.1, x1.2.1, x1.2.2.1, x1.2.2.2.1, x1.2.2.2.2.1, x1.2.2.2.2.2.1, x1.2.2.2.2.2.2.1, w64 (x1.2.2.2.2.2.2.2.1 + 1), x1.2.2.2.2.2.2.2.2.1, x1.2.2.2.2.2.2.2.2.2.1, x1.2.2.2.2.2.2.2.2.2.2.1, x1.2.2.2.2.2.2.2.2.2.2.2.1, x1.2.2.2.2.2.2.2.2.2.2.2.2.1, List.set (List.set (List.set x1.2.2.2.2.2.2.2.2.2.2.2.2.2.1 (w64 (x1.1 + x1.2.2.2.2.2.2.2.1)).toNat (w64 (y3 + (w64 (x1.2.1 * y2))))) (w64 ((w64 (x1.1 + x1.2.2.2.2.2.2.2.1)) + 1)).toNat (w64 (y4 + (w64 (Int.tdiv y5 1000000))))) (w64 (x1.1 + x1.2.2.2.2.2.2.2.1)).toNat (Int.tmod y6 1000000), ())
  else
    some (Sum.inr (x1.2.2.1, x1.2.2.2.1, x1.2.2.2.2.1, x1.2.2.2.2.2.2.2.2.1, x1.2.2.2.2.2.2.2.2.2.1, x1.2.2.2.2.2.2.2.2.2.2.1, x1.2.2.2.2.2.2.2.2.2.2.2.1, x1.2.2.2.2.2.2.2.2.2.2.2.2.1, x1.2.2.2.2.2.2.2.2.2.2.2.2.2.1, ()))

abbrev r1_TimesOf_x3 : Type := (List Int) × Int × Int × Bool × (List Int) × Bool × (List Int) × Bool × (List Int) × Unit
abbrev r1_TimesOf_r3 : Type := ((D_interchangeref1_Num × Unit) ⊕ (Bool × (List Int) × Bool × (List Int) × Unit))
def r1_TimesOf_b3  (x1 : r1_TimesOf_x3) (again : r1_TimesOf_x3 → Option r1_TimesOf_r3) : Option r1_TimesOf_r3 :=
  bif decide (x1.2.2.1 < x1.2.1) then
    Option.bind (idx x1.1 x1.2.2.1) fun y2 =>
    joinB (β := ((D_interchangeref1_Num × Unit) ⊕ (Bool × (List Int) × Bool × (List Int) × Unit))) (γ := ((List Int) × Int × Int × Bool × (List Int) × Bool × (List Int) × Bool × (List Int) × Unit)) (
      iter (X := r1_TimesOf_x6) (β := r1_TimesOf_r6) (Int.natAbs x1.2.2.1 + (Int.natAbs y2 + (List.length x1.1 + (Int.natAbs x1.2.1 + (Int.natAbs x1.2.2.1 + (List.length x1.2.2.2.2.1 + (Int.natAbs ((List.length x1.2.2.2.2.1 : Int)) + (Int.natAbs (0 : Int) + (List.length x1.2.2.2.2.1 + (List.length x1.2.2.2.2.2.2.1 + (List.length x1.2.2.2.2.2.2.2.2.1 + 2))))))))))) (x1.2.2.1, y2, x1.1, x1.2.1, x1.2.2.1, x1.2.2.2.2.1, (List.length x1.2.2.2.2.1 : Int), 0, x1.2.2.2.1, x1.2.2.2.2.1, x1.2.2.2.2.2.1, x1.2.2.2.2.2.2.1, x1.2.2.2.2.2.2.2.1, x1.2.2.2.2.2.2.2.2.1, ()) (r1_TimesOf_b6)) fun v3 =>
    again (v3.1, v3.2.1, w64 (v3.2.2.1 + 1), v3.2.2.2.1, v3.2.2.2.2.1, v3.2.2.2.2.2.1, v3.2.2.2.2.2.2.1, v3.2.2.2.2.2.2.2.1, v3.2.2.2.2.2.2.2.2.1, ())
  else
    some (Sum.inr (x1.2.2.2.2.2.1, x1.2.2.2.2.2.2.1, x1.2.2.2.2.2.2.2.1, x1.2.2.2.2.2.2.2.2.1, ()))

abbrev r1_TimesOf_x14 : Type := Int × Int × Bool × (List Int) × Bool × (List Int) × Unit
abbrev r1_TimesOf_r14 : Type := ((D_interchangeref1_Num × Unit) ⊕ (Bool × (List Int) × Bool × (List Int) × Unit))
def r1_TimesOf_b14  (x1 : r1_TimesOf_x14) (again : r1_TimesOf_x14 → Option r1_TimesOf_r14) : Option r1_TimesOf_r14 :=
  bif decide (x1.2.1 < x1.1) then
    chk (decide (0 ≤ (w64 (x1.2.1 + 1))) && decide ((w64 (x1.2.1 + 1)) < (List.length x1.2.2.2.2.2.1 : Int))) <|
    Option.bind (x1.2.2.2.2.2.1[(w64 (x1.2.1 + 1)).toNat]?) fun y2 =>
    chk (decide (0 ≤ x1.2.1) && decide (x1.2.1 < (List.length x1.2.2.2.2.2.1 : Int))) <|
    Option.bind (x1.2.2.2.2.2.1[x1.2.1.toNat]?) fun y3 =>
    chk (decide (0 ≤ (w64 (x1.2.1 + 1))) && decide ((w64 (x1.2.1 + 1)) < (List.length x1.2.2.2.2.2.1 : Int))) <|
    Option.bind (x1.2.2.2.2.2.1[(w64 (x1.2.1 + 1)).toNat]?) fun _ =>
    chk (decide (0 ≤ x1.2.1) && decide (x1.2.1 < (List.length (List.set x1.2.2.2.2.2.1 (w64 (x1.2.1 + 1)).toNat (w64 (y2 + (w64 (Int.tdiv y3 1000000))))) : Int))) <|
    Option.bind ((List.set x1.2.2.2.2.2.1 (w64 (x1.2.1 + 1)).toNat (w64 (y2 + (w64 (Int.tdiv y3 1000000)))))[x1.2.1.toNat]?) fun y4 =>
    chk (decide (0 ≤ x1.2.1) && decide (x1.2.1 < (List.length (List.set x1.2.2.2.2.2.1 (w64 (x1.2.1 + 1)).toNat (w64 (y2 + (w64 (Int.tdiv y3 1000000))))) : Int))) <|
    Option.bind ((List.set x1.2.2.2.2.2.1 (w64 (x1.2.1 + 1)).toNat (w64 (y2 + (w64 (Int.tdiv y3 1000000)))))[x1.2.1.toNat]?) fun _ =>
    again (x1.1, w64 (x1.2.1 + 1), x1.2.2.1, x1.2.2.2.1, x1.2.2.2.2.1, List.set (List.set x1.2.2.2.2.2.1 (w64 (x1.2.1 + 1)).toNat (w64 (y2 + (w64 (Int.tdiv y3 1000000))))) x1.2.1.toNat (Int.tmod y4 1000000), ())
  else
    some (Sum.inr (x1.2.2.1, x1.2.2.2.1, x1.2.2.2.2.1, x1.2.2.2.2.2.1, ()))

def r1_TimesOf (a0 : D_interchangeref1_Num) (a1 : D_interchangeref1_Num) : Option (D_interchangeref1_Num × Unit) :=
  let n1 : Int := w64 ((w64 (((List.length a0.2 : Int)) + ((List.length a1.2 : Int)))) + 1)
  chk (decide (0 ≤ n1) && decide (n1 ≤ n1) && decide ((8 : Int) * n1 ≤ 281474976710656) && decide (n1 ≤ 9223372036854775807)) <|
  joinB (β := (D_interchangeref1_Num × Unit)) (γ := (Bool × (List Int) × Bool × (List Int) × Unit)) (
    iter (X := r1_TimesOf_x3) (β := r1_TimesOf_r3) (List.length a0.2 + (Int.natAbs ((List.length a0.2 : Int)) + (Int.natAbs (0 : Int) + (List.length a1.2 + (List.length ([] : List Int) + (List.length ((List.replicate (Int.toNat n1) 0) : List Int) + 2)))))) (a0.2, (List.length a0.2 : Int), 0, a1.1, a1.2, false, [], !(a0.1 == a1.1), List.replicate (Int.toNat n1) 0, ()) (r1_TimesOf_b3)) fun v14 =>
  joinB (β := (D_interchangeref1_Num × Unit)) (γ := (Bool × (List Int) × Bool × (List Int) × Unit)) (
    iter (X := r1_TimesOf_x14) (β := r1_TimesOf_r14) (Int.natAbs (w64 (((List.length v14.2.2.2.1 : Int)) - 1)) + (Int.natAbs (0 : Int) + (List.length v14.2.1 + (List.length v14.2.2.2.1 + 2)))) (w64 (((List.length v14.2.2.2.1 : Int)) - 1), 0, v14.1, v14.2.1, v14.2.2.1, v14.2.2.2.1, ()) (r1_TimesOf_b14)) fun v21 =>
  Option.bind (r1_trimmed (v21.2.2.1, v21.2.2.2.1)) fun r22 =>
  some (r22.1, ())

abbrev r1_Power_x3 : Type := Int × Int × Bool × (List Int) × Bool × (List Int) × Unit
abbrev r1_Power_r3 : Type := ((D_interchangeref1_Num × Unit) ⊕ (Bool × (List Int) × Bool × (List Int) × Unit))
def r1_Power_b3  (x1 : r1_Power_x3) (again : r1_Power_x3 → Option r1_Power_r3) : Option r1_Power_r3 :=
  bif decide (x1.2.1 < x1.1) then
    Option.bind (r1_Of 10) fun r2 =>
    Option.bind (r1_TimesOf (x1.2.2.2.2.1, x1.2.2.2.2.2.1) r2.1) fun r3 =>
    again (x1.1, w64 (x1.2.1 + 1), x1.2.2.1, x1.2.2.2.1, r3.1.1, r3.1.2, ())
  else
    some (Sum.inr (x1.2.2.1, x1.2.2.2.1, x1.2.2.2.2.1, x1.2.2.2.2.2.1, ()))

def r1_Power (a0 : Int) : Option (D_interchangeref1_Num × Unit) :=
  Option.bind (r1_Of 1) fun r1 =>
  joinB (β := (D_interchangeref1_Num × Unit)) (γ := (Bool × (List Int) × Bool × (List Int) × Unit)) (
    iter (X := r1_Power_x3) (β := r1_Power_r3) (Int.natAbs a0 + (Int.natAbs (0 : Int) + (List.length ([] : List Int) + (List.length r1.1.2 + 2)))) (a0, 0, false, [], r1.1.1, r1.1.2, ()) (r1_Power_b3)) fun v5 =>
  some ((v5.2.2.1, v5.2.2.2.1), ())

def r1_At (a0 : D_api_Decimal) (a1 : Int) : Option (D_interchangeref1_Num × Unit) :=
  Option.bind (r1_Of a0.1) fun r1 =>
  Option.bind (r1_Power (w64 (a1 - a0.2))) fun r2 =>
  Option.bind (r1_TimesOf r1.1 r2.1) fun r3 =>
  some (r3.1, ())

abbrev r1_sizes_x4 : Type := (List Int) × (List Int) × Int × Unit
abbrev r1_sizes_r4 : Type := ((Int × Unit) ⊕ Unit)
def r1_sizes_b4  (x1 : r1_sizes_x4) (again : r1_sizes_x4 → Option r1_sizes_r4) : Option r1_sizes_r4 :=
  bif decide (x1.2.2.1 ≥ 0) then
    Option.bind (idx x1.1 x1.2.2.1) fun y2 =>
    Option.bind (idx x1.2.1 x1.2.2.1) fun y3 =>
    bif y2 != y3 then
      Option.bind (idx x1.1 x1.2.2.1) fun y4 =>
      Option.bind (idx x1.2.1 x1.2.2.1) fun y5 =>
      some (Sum.inl (w64 (y4 - y5), ()))
    else
      again (x1.1, x1.2.1, w64 (x1.2.2.1 - 1), ())
  else
    some (Sum.inr ())

def r1_sizes (a0 : List Int) (a1 : List Int) : Option (Int × Unit) :=
  bif ((List.length a0 : Int)) != ((List.length a1 : Int)) then
    some (w64 (((List.length a0 : Int)) - ((List.length a1 : Int))), ())
  else
    joinB (β := (Int × Unit)) (γ := Unit) (
      iter (X := r1_sizes_x4) (β := r1_sizes_r4) (List.length a0 + (List.length a1 + (Int.natAbs (w64 (((List.length a0 : Int)) - 1)) + 2))) (a0, a1, w64 (((List.length a0 : Int)) - 1), ()) (r1_sizes_b4)) fun _ =>
    some (0, ())

def r1_digit (a0 : List Int) (a1 : Int) : Option (Int × Unit) :=
  bif decide (a1 < ((List.length a0 : Int))) then
    Option.bind (idx a0 a1) fun y1 =>
    some (y1, ())
  else
    some (0, ())

abbrev r1_Plus_x7 : Type := Int × Int × Int × Bool × (List Int) × Bool × (List Int) × Bool × (List Int) × Bool × (List Int) × Unit
abbrev r1_Plus_r7 : Type := ((D_interchangeref1_Num × Unit) ⊕ (Bool × (List Int) × Bool × (List Int) × Unit))
def r1_Plus_b7  (x1 : r1_Plus_x7) (again : r1_Plus_x7 → Option r1_Plus_r7) : Option r1_Plus_r7 :=
  bif decide (x1.2.2.1 < x1.2.1) then
    Option.bind (idx x1.2.2.2.2.1 x1.2.2.1) fun y2 =>
    Option.bind (r1_digit x1.2.2.2.2.2.2.1 x1.2.2.1) fun r3 =>
    joinB (β := ((D_interchangeref1_Num × Unit) ⊕ (Bool × (List Int) × Bool × (List Int) × Unit))) (γ := (Int × Int × Int × Int × Bool × (List Int) × Bool × (List Int) × Bool × (List Int) × Bool × (List Int) × Unit)) (
      bif decide ((w64 ((w64 (y2 - r3.1)) - x1.1)) < 0) then
        let n4 : Int := w64 ((w64 ((w64 (y2 - r3.1)) - x1.1)) + 1000000)
        some (Sum.inr (1, n4, x1.2.1, x1.2.2.1, x1.2.2.2.1, x1.2.2.2.2.1, x1.2.2.2.2.2.1, x1.2.2.2.2.2.2.1, x1.2.2.2.2.2.2.2.1, x1.2.2.2.2.2.2.2.2.1, x1.2.2.2.2.2.2.2.2.2.1, x1.2.2.2.2.2.2.2.2.2.2.1, ()))
      else
        some (Sum.inr (0, w64 ((w64 (y2 - r3.1)) - x1.1), x1.2.1, x1.2.2.1, x1.2.2.2.1, x1.2.2.2.2.1, x1.2.2.2.2.2.1, x1.2.2.2.2.2.2.1, x1.2.2.2.2.2.2.2.1, x1.2.2.2.2.2.2.2.2.1, x1.2.2.2.2.2.2.2.2.2.1, x1.2.2.2.2.2.2.2.2.2.2.1, ()))) fun v5 =>
    chk (decide (((List.length v5.2.2.2.2.2.2.2.2.2.2.2.1) + 1) * 8 ≤ 140737488355328) && decide ((List.length v5.2.2.2.2.2.2.2.2.2.2.2.1) + 1 ≤ maxLen)) <|
    again (v5.1, v5.2.2.1, w64 (v5.2.2.2.1 + 1), v5.2.2.2.2.1, v5.2.2.2.2.2.1, v5.2.2.2.2.2.2.1, v5.2.2.2.2.2.2.2.1, v5.2.2.2.2.2.2.2.2.1, v5.2.2.2.2.2.2.2.2.2.1, v5.2.2.2.2.2.2.2.2.2.2.1, v5.2.2.2.2.2.2.2.2.2.2.2.1 ++ [v5.2.1], ())
  else
    some (Sum.inr (x1.2.2.2.2.2.2.2.1, x1.2.2.2.2.2.2.2.2.1, x1.2.2.2.2.2.2.2.2.2.1, x1.2.2.2.2.2.2.2.2.2.2.1, ()))

abbrev r1_Plus_x19 : Type := Int × Int × Int × Bool × (List Int) × Bool × (List Int) × Bool × (List Int) × Bool × (List Int) × Unit
abbrev r1_Plus_r19 : Type := ((D_interchangeref1_Num × Unit) ⊕ (Bool × (List Int) × Bool × (List Int) × Unit))
def r1_Plus_b19  (x1 : r1_Plus_x19) (again : r1_Plus_x19 → Option r1_Plus_r19) : Option r1_Plus_r19 :=
  bif decide (x1.2.2.1 < x1.2.1) then
    Option.bind (r1_digit x1.2.2.2.2.1 x1.2.2.1) fun r2 =>
    Option.bind (r1_digit x1.2.2.2.2.2.2.1 x1.2.2.1) fun r3 =>
    let n4 : Int := Int.tmod (w64 ((w64 (r2.1 + r3.1)) + x1.1)) 1000000
    chk (decide (((List.length x1.2.2.2.2.2.2.2.2.2.2.1) + 1) * 8 ≤ 140737488355328) && decide ((List.length x1.2.2.2.2.2.2.2.2.2.2.1) + 1 ≤ maxLen)) <|
    let n5 : Int := w64 (Int.tdiv (w64 ((w64 (r2.1 + r3.1)) + x1.1)) 1000000)
    again (n5, x1.2.1, w64 (x1.2.2.1 + 1), x1.2.2.2.1, x1.2.2.2.2.1, x1.2.2.2.2.2.1, x1.2.2.2.2.2.2.1, x1.2.2.2.2.2.2.2.1, x1.2.2.2.2.2.2.2.2.1, x1.2.2.2.2.2.2.2.2.2.1, x1.2.2.2.2.2.2.2.2.2.2.1 ++ [n4], ())
  else
    some (Sum.inr (x1.2.2.2.2.2.2.2.1, x1.2.2.2.2.2.2.2.2.1, x1.2.2.2.2.2.2.2.2.2.1, x1.2.2.2.2.2.2.2.2.2.2.1, ()))

def r1_Plus (a0 : D_interchangeref1_Num) (a1 : D_interchangeref1_Num) : Option (D_interchangeref1_Num × Unit) :=
  bif !(a0.1 == a1.1) then
    Option.bind (r1_sizes a0.2 a1.2) fun r1 =>
    joinB (β := (D_interchangeref1_Num × Unit)) (γ := (Bool × (List Int) × Bool × (List Int) × Bool × (List Int) × Unit)) (
      bif decide (r1.1 < 0) then
        some (Sum.inr (a1.1, a1.2, a0.1, a0.2, false, [], ()))
      else
        some (Sum.inr (a0.1, a0.2, a1.1, a1.2, false, [], ()))) fun v2 =>
    joinB (β := (D_interchangeref1_Num × Unit)) (γ := (Bool × (List Int) × Bool × (List Int) × Unit)) (
      iter (X := r1_Plus_x7) (β := r1_Plus_r7) (Int.natAbs (0 : Int) + (Int.natAbs ((List.length v2.2.1 : Int)) + (Int.natAbs (0 : Int) + (List.length v2.2.1 + (List.length v2.2.2.2.1 + (List.length v2.2.2.2.2.2.1 + (List.length ([] : List Int) + 2))))))) (0, (List.length v2.2.1 : Int), 0, v2.1, v2.2.1, v2.2.2.1, v2.2.2.2.1, v2.2.2.2.2.1, v2.2.2.2.2.2.1, v2.1, [], ()) (r1_Plus_b7)) fun v8 =>
    Option.bind (r1_trimmed (v8.2.2.1, v8.2.2.2.1)) fun r9 =>
    some (r9.1, ())
  else
    let n10 : Int := w64 ((if ((List.length a1.2 : Int)) > ((List.length a0.2 : Int)) then ((List.length a1.2 : Int)) else ((List.length a0.2 : Int))) + 1)
    joinB (β := (D_interchangeref1_Num × Unit)) (γ := (Bool × (List Int) × Bool × (List Int) × Unit)) (
      iter (X := r1_Plus_x19) (β := r1_Plus_r19) (Int.natAbs (0 : Int) + (Int.natAbs n10 + (Int.natAbs (0 : Int) + (List.length a0.2 + (List.length a1.2 + (List.length ([] : List Int) + (List.length ([] : List Int) + 2))))))) (0, n10, 0, a0.1, a0.2, a1.1, a1.2, false, [], a0.1, [], ()) (r1_Plus_b19)) fun v16 =>
    Option.bind (r1_trimmed (v16.2.2.1, v16.2.2.2.1)) fun r17 =>
    some (r17.1, ())

def r1_Minus (a0 : D_interchangeref1_Num) : Option (D_interchangeref1_Num × Unit) :=
  bif decide (((List.length a0.2 : Int)) > 0) then
    some ((!a0.1, a0.2), ())
  else
    some (a0, ())

def r1_Sign (a0 : D_interchangeref1_Num) : Option (Int × Unit) :=
  bif ((List.length a0.2 : Int)) == 0 then
    some (0, ())
  else
    bif a0.1 then
      some ((-1), ())
    else
      some (1, ())

def r1_Cmp (a0 : D_interchangeref1_Num) (a1 : D_interchangeref1_Num) : Option (Int × Unit) :=
  Option.bind (r1_Minus a1) fun r1 =>
  Option.bind (r1_Plus a0 r1.1) fun r2 =>
  Option.bind (r1_Sign r2.1) fun r3 =>
  some (r3.1, ())

end Go.Md

namespace Go.Md
open Go.Dn

end Go.Md
