/-
 The plain models of the functions that the law reaches, fourth part. No condition.
-/
import Derived.Test.YtcoofjaonlccjaaGreatDoorRo
import Derived.Test.YtcoofjaonlccjaaGreatDoorRd
set_option linter.all false
namespace Go.Md
open Go.Dn

abbrev slices_Sort_int (l : List Int) : Option (List Int × Unit) := sortI l
noncomputable section
def r9_Below (a0 : Int) (a1 : Int) : Option (Int × Unit) :=
 chk (a1 != (0 : Int)) <|
 bif decide ((Int.tmod a0 a1) < 0) then
  some (w64 ((Int.tmod a0 a1) + a1), ())
 else
  some (Int.tmod a0 a1, ())

abbrev order_follower_sorted_x3 : Type := (List (Option Nat)) × Int × Int × (List UInt8) × (List UInt8) × (List UInt8) × Int × Int × (List D_api_Line) × (List D_api_Deed) × Int × (List Int) × (List D_api_Decimal) × (List D_api_Point) × (List (Int × (Option Nat))) × Unit
abbrev order_follower_sorted_r3 : Type := (((List (Option Nat)) × (D_api_Order × (List D_api_Deed) × (List (Int × (Option Nat))) × (List D_api_Decimal) × (List D_api_Point) × Int × Unit) × Unit) ⊕ ((List (Option Nat)) × (List UInt8) × (List UInt8) × (List UInt8) × Int × Int × (List D_api_Line) × (List D_api_Deed) × Int × (List D_api_Decimal) × (List D_api_Point) × (List (Int × (Option Nat))) × Unit))
def order_follower_sorted_b3  (x1 : order_follower_sorted_x3) (again : order_follower_sorted_x3 → Option order_follower_sorted_r3) : Option order_follower_sorted_r3 :=
 bif decide (x1.2.2.1 < x1.2.1) then
  chk (decide (0 ≤ x1.2.2.1) && decide (x1.2.2.1 < (List.length x1.2.2.2.2.2.2.2.2.2.2.2.1 : Int))) <|
  Option.bind (x1.2.2.2.2.2.2.2.2.2.2.2.1[x1.2.2.1.toNat]?) fun y2 =>
  chk (decide (((List.length x1.1) + 1) * 8 ≤ 140737488355328) && decide ((List.length x1.1) + 1 ≤ maxLen)) <|
  again (x1.1 ++ [(Option.getD (α := Option Nat) (mget (k := tI) (v := .hnd) x1.2.2.2.2.2.2.2.2.2.2.2.2.2.2.1 y2) none)], x1.2.1, w64 (x1.2.2.1 + 1), x1.2.2.2.1, x1.2.2.2.2.1, x1.2.2.2.2.2.1, x1.2.2.2.2.2.2.1, x1.2.2.2.2.2.2.2.1, x1.2.2.2.2.2.2.2.2.1, x1.2.2.2.2.2.2.2.2.2.1, x1.2.2.2.2.2.2.2.2.2.2.1, x1.2.2.2.2.2.2.2.2.2.2.2.1, x1.2.2.2.2.2.2.2.2.2.2.2.2.1, x1.2.2.2.2.2.2.2.2.2.2.2.2.2.1, x1.2.2.2.2.2.2.2.2.2.2.2.2.2.2.1, ())
 else
  some (Sum.inr (x1.1, x1.2.2.2.1, x1.2.2.2.2.1, x1.2.2.2.2.2.1, x1.2.2.2.2.2.2.1, x1.2.2.2.2.2.2.2.1, x1.2.2.2.2.2.2.2.2.1, x1.2.2.2.2.2.2.2.2.2.1, x1.2.2.2.2.2.2.2.2.2.2.1, x1.2.2.2.2.2.2.2.2.2.2.2.2.1, x1.2.2.2.2.2.2.2.2.2.2.2.2.2.1, x1.2.2.2.2.2.2.2.2.2.2.2.2.2.2.1, ()))

def order_follower_sorted (a0 : D_api_Order × (List D_api_Deed) × (List (Int × (Option Nat))) × (List D_api_Decimal) × (List D_api_Point) × Int × Unit) : Option ((List (Option Nat)) × (D_api_Order × (List D_api_Deed) × (List (Int × (Option Nat))) × (List D_api_Decimal) × (List D_api_Point) × Int × Unit) × Unit) :=
 chk (keysOk a0.2.2.1) <|
 joinB (β := ((List (Option Nat)) × (D_api_Order × (List D_api_Deed) × (List (Int × (Option Nat))) × (List D_api_Decimal) × (List D_api_Point) × Int × Unit) × Unit)) (γ := ((List (Option Nat)) × (List UInt8) × (List UInt8) × (List UInt8) × Int × Int × (List D_api_Line) × (List D_api_Deed) × Int × (List D_api_Decimal) × (List D_api_Point) × (List (Int × (Option Nat))) × Unit)) (
  iter (X := order_follower_sorted_x3) (β := order_follower_sorted_r3) (List.length ([] : List (Option Nat)) + (Int.natAbs ((List.length (keysI a0.2.2.1) : Int)) + (Int.natAbs (0 : Int) + (List.length a0.1.1 + (List.length a0.1.2.1 + (List.length a0.1.2.2.1 + (Int.natAbs a0.1.2.2.2.1 + (Int.natAbs a0.1.2.2.2.2.1 + (List.length a0.1.2.2.2.2.2 + (List.length a0.2.1 + (Int.natAbs a0.2.2.2.2.2.1 + (List.length ((keysI a0.2.2.1) : List Int) + (List.length a0.2.2.2.1 + (List.length a0.2.2.2.2.1 + (List.length a0.2.2.1 + 2))))))))))))))) ([], (List.length (keysI a0.2.2.1) : Int), 0, a0.1.1, a0.1.2.1, a0.1.2.2.1, a0.1.2.2.2.1, a0.1.2.2.2.2.1, a0.1.2.2.2.2.2, a0.2.1, a0.2.2.2.2.2.1, keysI a0.2.2.1, a0.2.2.2.1, a0.2.2.2.2.1, a0.2.2.1, ()) (order_follower_sorted_b3)) fun v3 =>
 some (v3.1, ((v3.2.1, v3.2.2.1, v3.2.2.2.1, v3.2.2.2.2.1, v3.2.2.2.2.2.1, v3.2.2.2.2.2.2.1), v3.2.2.2.2.2.2.2.1, v3.2.2.2.2.2.2.2.2.2.2.2.1, v3.2.2.2.2.2.2.2.2.2.1, v3.2.2.2.2.2.2.2.2.2.2.1, v3.2.2.2.2.2.2.2.2.1, ()), ())

abbrev order_LinesAt_x6 : Type := (List D_api_State) × Int × Int × (List (Option Nat)) × (List D_order_line) × Unit
abbrev order_LinesAt_r6 : Type := (((List D_api_State) × Int × Unit) ⊕ ((List D_api_State) × (List D_order_line) × Unit))
def order_LinesAt_b6  (x1 : order_LinesAt_x6) (again : order_LinesAt_x6 → Option order_LinesAt_r6) : Option order_LinesAt_r6 :=
 bif decide (x1.2.2.1 < x1.2.1) then
  chk (decide (0 ≤ x1.2.2.1) && decide (x1.2.2.1 < (List.length x1.2.2.2.1 : Int))) <|
  Option.bind (x1.2.2.2.1[x1.2.2.1.toNat]?) fun y2 =>
  Option.bind (order_line_state y2 x1.2.2.2.2.1) fun r3 =>
  chk (decide (((List.length x1.1) + 1) * 144 ≤ 140737488355328) && decide ((List.length x1.1) + 1 ≤ maxLen)) <|
  again (x1.1 ++ [r3.1], x1.2.1, w64 (x1.2.2.1 + 1), x1.2.2.2.1, x1.2.2.2.2.1, ())
 else
  some (Sum.inr (x1.1, x1.2.2.2.2.1, ()))

def order_LinesAt (a0 : D_api_Order) (a1 : List D_api_Deed) (a2 : Int) : Option ((List D_api_State) × Int × Unit) :=
 orAlt (order_at_e a0 a1 a2 []) (fun r1 =>
  bif r1.2.1 != 0 then
   some ([], r1.2.1, ())
  else
   none) (
  Option.bind (order_at a0 a1 a2 []) fun r2 =>
  bif r2.2.1 != 0 then
   some ([], r2.2.1, ())
  else
   Option.bind (order_follower_sorted (r2.1.1, r2.1.2.1, r2.1.2.2.1, r2.1.2.2.2.1, r2.1.2.2.2.2.1, r2.1.2.2.2.2.2.1, ())) fun r3 =>
   joinB (β := ((List D_api_State) × Int × Unit)) (γ := ((List D_api_State) × (List D_order_line) × Unit)) (
    iter (X := order_LinesAt_x6) (β := order_LinesAt_r6) (List.length ([] : List D_api_State) + (Int.natAbs ((List.length r3.1 : Int)) + (Int.natAbs (0 : Int) + (List.length r3.1 + (List.length r2.2.2.1 + 2))))) ([], (List.length r3.1 : Int), 0, r3.1, r2.2.2.1, ()) (order_LinesAt_b6)) fun v7 =>
   some (v7.1, 0, ()))

abbrev slices_Equal_api_State_x4 : Type := (List D_api_State) × (List D_api_State) × Int × Int × Unit
abbrev slices_Equal_api_State_r4 : Type := ((Bool × Unit) ⊕ Unit)
def slices_Equal_api_State_b4  (x1 : slices_Equal_api_State_x4) (again : slices_Equal_api_State_x4 → Option slices_Equal_api_State_r4) : Option slices_Equal_api_State_r4 :=
 bif decide (x1.2.2.2.1 < x1.2.2.1) then
  Option.bind (idx x1.1 x1.2.2.2.1) fun y2 =>
  Option.bind (idx x1.2.1 x1.2.2.2.1) fun y3 =>
  bif !((y2.1 == y3.1) && ((y2.2.1 == y3.2.1) && ((y2.2.2.1 == y3.2.2.1) && (((y2.2.2.2.1.1 == y3.2.2.2.1.1) && ((y2.2.2.2.1.2 == y3.2.2.2.1.2) && true)) && (((y2.2.2.2.2.1.1 == y3.2.2.2.2.1.1) && ((y2.2.2.2.2.1.2 == y3.2.2.2.2.1.2) && true)) && ((y2.2.2.2.2.2.1 == y3.2.2.2.2.2.1) && (((y2.2.2.2.2.2.2.1.1 == y3.2.2.2.2.2.2.1.1) && ((y2.2.2.2.2.2.2.1.2 == y3.2.2.2.2.2.2.1.2) && true)) && (((y2.2.2.2.2.2.2.2.1.1 == y3.2.2.2.2.2.2.2.1.1) && ((y2.2.2.2.2.2.2.2.1.2 == y3.2.2.2.2.2.2.2.1.2) && true)) && (((y2.2.2.2.2.2.2.2.2.1.1 == y3.2.2.2.2.2.2.2.2.1.1) && ((y2.2.2.2.2.2.2.2.2.1.2 == y3.2.2.2.2.2.2.2.2.1.2) && true)) && (((y2.2.2.2.2.2.2.2.2.2.1 == y3.2.2.2.2.2.2.2.2.2.1) && ((y2.2.2.2.2.2.2.2.2.2.2 == y3.2.2.2.2.2.2.2.2.2.2) && true)) && true)))))))))) then
   some (Sum.inl (false, ()))
  else
   again (x1.1, x1.2.1, x1.2.2.1, w64 (x1.2.2.2.1 + 1), ())
 else
  some (Sum.inr ())

def slices_Equal_api_State (a0 : List D_api_State) (a1 : List D_api_State) : Option (Bool × Unit) :=
 bif ((List.length a0 : Int)) != ((List.length a1 : Int)) then
  some (false, ())
 else
  joinB (β := (Bool × Unit)) (γ := Unit) (
   iter (X := slices_Equal_api_State_x4) (β := slices_Equal_api_State_r4) (List.length a0 + (List.length a1 + (Int.natAbs ((List.length a0 : Int)) + (Int.natAbs (0 : Int) + 2)))) (a0, a1, (List.length a0 : Int), 0, ()) (slices_Equal_api_State_b4)) fun _ =>
  some (true, ())

def l9_OrderLaterDeedsChangeNothing (a0 : D_api_Order) (a1 : List D_api_Deed) (a2 : Int) (a3 : Int) : Option (Bool × Unit) :=
 Option.bind (r9_Below a3 (w64 (((List.length a1 : Int)) + 1))) fun r1 =>
 Option.bind (order_LinesAt a0 a1 a2) fun r2 =>
 chk (decide (0 ≤ (0 : Int)) && decide ((0 : Int) ≤ r1.1) && decide (r1.1 ≤ (List.length a1 : Int))) <|
 Option.bind (order_LinesAt a0 (List.drop 0 (List.take (Int.toNat r1.1) a1)) a2) fun r3 =>
 Option.bind (
  bif r2.2.1 != 0 then
   some (true, ())
  else
   bif r3.2.1 != 0 then
    some (true, ())
   else
    bif decide (r1.1 < ((List.length a1 : Int))) then
     Option.bind (idx a1 r1.1) fun y4 =>
     some (decide (y4.1 ≤ a2), ())
    else
     some (false, ())) fun v5 =>
 bif v5.1 then
  Option.bind (l9_awake) fun r6 =>
  some (r6.1, ())
 else
  Option.bind (
   Option.bind (slices_Equal_api_State r2.1 r3.1) fun r7 =>
   bif r7.1 then
    Option.bind (l9_awake) fun r8 =>
    some (r8.1, ())
   else
    some (false, ())) fun v9 =>
  some (v9.1, ())

abbrev r9_milli_x3 : Type := Int × Int × Int × Unit
abbrev r9_milli_r3 : Type := ((Int × Unit) ⊕ (Int × Unit))
def r9_milli_b3  (x1 : r9_milli_x3) (again : r9_milli_x3 → Option r9_milli_r3) : Option r9_milli_r3 :=
 bif decide (x1.2.2.1 < x1.2.1) then
  again (w64 (x1.1 * 10), x1.2.1, w64 (x1.2.2.1 + 1), ())
 else
  some (Sum.inr (x1.1, ()))

def r9_milli (a0 : D_api_Decimal) : Option (Int × Unit) :=
 joinB (β := (Int × Unit)) (γ := (Int × Unit)) (
  iter (X := r9_milli_x3) (β := r9_milli_r3) (Int.natAbs a0.1 + (Int.natAbs (w64 (3 - a0.2)) + (Int.natAbs (0 : Int) + 2))) (a0.1, w64 (3 - a0.2), 0, ()) (r9_milli_b3)) fun v2 =>
 some (v2.1, ())

def r9_plus (a0 : D_api_Decimal) (a1 : D_api_Decimal) : Option (D_api_Decimal × Unit) :=
 Option.bind (r9_milli a0) fun r1 =>
 Option.bind (r9_milli a1) fun r2 =>
 Option.bind (r1_Normal (w64 (r1.1 + r2.1), 3)) fun r3 =>
 some (r3.1, ())

def r9_minus (a0 : D_api_Decimal) (a1 : D_api_Decimal) : Option (D_api_Decimal × Unit) :=
 Option.bind (r9_plus a0 (w64 (0 - a1.1), a1.2)) fun r1 =>
 some (r1.1, ())

def r9_away (a0 : D_api_State) : Option (D_api_Decimal × Unit) :=
 Option.bind (r9_minus a0.2.2.2.2.2.2.1 a0.2.2.2.2.2.2.2.2.1) fun r1 =>
 some (r1.1, ())

def r9_reopened (a0 : D_api_State) : Option (D_api_State × Unit) :=
 Option.bind (r9_away a0) fun r1 =>
 Option.bind (r9_minus a0.2.2.2.1 r1.1) fun r2 =>
 bif decide (r2.1.1 < 0) then
  some ((a0.1, a0.2.1, a0.2.2.1, a0.2.2.2.1, a0.2.2.2.2.1, a0.2.2.2.2.2.1, a0.2.2.2.2.2.2.1, a0.2.2.2.2.2.2.2.1, a0.2.2.2.2.2.2.2.2.1, 0, 0), ())
 else
  some ((a0.1, a0.2.1, a0.2.2.1, a0.2.2.2.1, a0.2.2.2.2.1, a0.2.2.2.2.2.1, a0.2.2.2.2.2.2.1, a0.2.2.2.2.2.2.2.1, a0.2.2.2.2.2.2.2.2.1, r2.1), ())

def r9_AddsUp (a0 : D_api_State) : Option (Bool × Unit) :=
 Option.bind (
  Option.bind (r9_reopened a0) fun r1 =>
  bif (r1.1.1 == a0.1) && ((r1.1.2.1 == a0.2.1) && ((r1.1.2.2.1 == a0.2.2.1) && (((r1.1.2.2.2.1.1 == a0.2.2.2.1.1) && ((r1.1.2.2.2.1.2 == a0.2.2.2.1.2) && true)) && (((r1.1.2.2.2.2.1.1 == a0.2.2.2.2.1.1) && ((r1.1.2.2.2.2.1.2 == a0.2.2.2.2.1.2) && true)) && ((r1.1.2.2.2.2.2.1 == a0.2.2.2.2.2.1) && (((r1.1.2.2.2.2.2.2.1.1 == a0.2.2.2.2.2.2.1.1) && ((r1.1.2.2.2.2.2.2.1.2 == a0.2.2.2.2.2.2.1.2) && true)) && (((r1.1.2.2.2.2.2.2.2.1.1 == a0.2.2.2.2.2.2.2.1.1) && ((r1.1.2.2.2.2.2.2.2.1.2 == a0.2.2.2.2.2.2.2.1.2) && true)) && (((r1.1.2.2.2.2.2.2.2.2.1.1 == a0.2.2.2.2.2.2.2.2.1.1) && ((r1.1.2.2.2.2.2.2.2.2.1.2 == a0.2.2.2.2.2.2.2.2.1.2) && true)) && (((r1.1.2.2.2.2.2.2.2.2.2.1 == a0.2.2.2.2.2.2.2.2.2.1) && ((r1.1.2.2.2.2.2.2.2.2.2.2 == a0.2.2.2.2.2.2.2.2.2.2) && true)) && true))))))))) then
   Option.bind (r9_cmp a0.2.2.2.2.2.2.2.1 a0.2.2.2.2.2.2.1) fun r2 =>
   bif decide (r2.1 ≤ 0) then
    Option.bind (r9_cmp a0.2.2.2.2.2.2.2.2.1 a0.2.2.2.2.2.2.2.1) fun r3 =>
    bif decide (r3.1 ≤ 0) then
     bif decide (a0.2.2.2.2.2.2.2.2.1.1 ≥ 0) then
      some (decide (a0.2.2.2.1.1 ≥ 0), ())
     else
      some (false, ())
    else
     some (false, ())
   else
    some (false, ())
  else
   some (false, ())) fun v4 =>
 some (v4.1, ())

abbrev l9_OrderQuantitiesAddUp_x5 : Type := (List D_api_State) × (List D_api_State) × Int × Int × Unit
abbrev l9_OrderQuantitiesAddUp_r5 : Type := ((Bool × Unit) ⊕ ((List D_api_State) × Unit))
def l9_OrderQuantitiesAddUp_b5  (x1 : l9_OrderQuantitiesAddUp_x5) (again : l9_OrderQuantitiesAddUp_x5 → Option l9_OrderQuantitiesAddUp_r5) : Option l9_OrderQuantitiesAddUp_r5 :=
 bif decide (x1.2.2.2.1 < x1.2.2.1) then
  Option.bind (idx x1.2.1 x1.2.2.2.1) fun y2 =>
  Option.bind (
   Option.bind (r9_AddsUp y2) fun r3 =>
   bif !r3.1 then
    some (true, ())
   else
    bif decide (x1.2.2.2.1 > 0) then
     Option.bind (idx x1.1 (w64 (x1.2.2.2.1 - 1))) fun y4 =>
     some (decide (y2.1 ≤ y4.1), ())
    else
     some (false, ())) fun v5 =>
  bif v5.1 then
   some (Sum.inl (false, ()))
  else
   again (x1.1, x1.2.1, x1.2.2.1, w64 (x1.2.2.2.1 + 1), ())
 else
  some (Sum.inr (x1.1, ()))

def l9_OrderQuantitiesAddUp (a0 : D_api_Order) (a1 : List D_api_Deed) (a2 : Int) : Option (Bool × Unit) :=
 Option.bind (order_LinesAt a0 a1 a2) fun r1 =>
 bif r1.2.1 != 0 then
  Option.bind (
   bif ((List.length r1.1 : Int)) == 0 then
    Option.bind (l9_awake) fun r2 =>
    some (r2.1, ())
   else
    some (false, ())) fun v3 =>
  some (v3.1, ())
 else
  joinB (β := (Bool × Unit)) (γ := ((List D_api_State) × Unit)) (
   iter (X := l9_OrderQuantitiesAddUp_x5) (β := l9_OrderQuantitiesAddUp_r5) (List.length r1.1 + (List.length r1.1 + (Int.natAbs ((List.length r1.1 : Int)) + (Int.natAbs (0 : Int) + 2)))) (r1.1, r1.1, (List.length r1.1 : Int), 0, ()) (l9_OrderQuantitiesAddUp_b5)) fun v9 =>
  Option.bind (
   bif decide (((List.length v9.1 : Int)) > 0) then
    Option.bind (l9_awake) fun r10 =>
    some (r10.1, ())
   else
    some (false, ())) fun v11 =>
  some (v11.1, ())

abbrev order_Latest_x7 : Type := Int × Int × (List UInt8) × (List UInt8) × (List UInt8) × Int × Int × (List D_api_Line) × (List UInt8) × (List UInt8) × (List UInt8) × Int × Int × (List D_api_Line) × (List (Option Nat)) × (List D_order_line) × Unit
abbrev order_Latest_r7 : Type := ((D_api_Order × Int × Unit) ⊕ ((List UInt8) × (List UInt8) × (List UInt8) × Int × Int × (List D_api_Line) × (List UInt8) × (List UInt8) × (List UInt8) × Int × Int × (List D_api_Line) × (List D_order_line) × Unit))
def order_Latest_b7  (x1 : order_Latest_x7) (again : order_Latest_x7 → Option order_Latest_r7) : Option order_Latest_r7 :=
 bif decide (x1.2.1 < x1.1) then
  chk (decide (0 ≤ x1.2.1) && decide (x1.2.1 < (List.length x1.2.2.2.2.2.2.2.2.2.2.2.2.2.2.1 : Int))) <|
  Option.bind (x1.2.2.2.2.2.2.2.2.2.2.2.2.2.2.1[x1.2.1.toNat]?) fun y2 =>
  Option.bind (y2) fun h3 =>
  Option.bind (x1.2.2.2.2.2.2.2.2.2.2.2.2.2.2.2.1[h3]?) fun y4 =>
  bif decide (y4.2.2.2.1 > 0) then
   Option.bind (order_line_state y2 x1.2.2.2.2.2.2.2.2.2.2.2.2.2.2.2.1) fun r5 =>
   chk (decide (((List.length x1.2.2.2.2.2.2.2.2.2.2.2.2.2.1) + 1) * 80 ≤ 140737488355328) && decide ((List.length x1.2.2.2.2.2.2.2.2.2.2.2.2.2.1) + 1 ≤ maxLen)) <|
   again (x1.1, w64 (x1.2.1 + 1), x1.2.2.1, x1.2.2.2.1, x1.2.2.2.2.1, x1.2.2.2.2.2.1, x1.2.2.2.2.2.2.1, x1.2.2.2.2.2.2.2.1, x1.2.2.2.2.2.2.2.2.1, x1.2.2.2.2.2.2.2.2.2.1, x1.2.2.2.2.2.2.2.2.2.2.1, x1.2.2.2.2.2.2.2.2.2.2.2.1, x1.2.2.2.2.2.2.2.2.2.2.2.2.1, x1.2.2.2.2.2.2.2.2.2.2.2.2.2.1 ++ [(r5.1.1, r5.1.2.1, r5.1.2.2.2.1, r5.1.2.2.1, r5.1.2.2.2.2.1, r5.1.2.2.2.2.2.1)], x1.2.2.2.2.2.2.2.2.2.2.2.2.2.2.1, x1.2.2.2.2.2.2.2.2.2.2.2.2.2.2.2.1, ())
  else
   again (x1.1, w64 (x1.2.1 + 1), x1.2.2.1, x1.2.2.2.1, x1.2.2.2.2.1, x1.2.2.2.2.2.1, x1.2.2.2.2.2.2.1, x1.2.2.2.2.2.2.2.1, x1.2.2.2.2.2.2.2.2.1, x1.2.2.2.2.2.2.2.2.2.1, x1.2.2.2.2.2.2.2.2.2.2.1, x1.2.2.2.2.2.2.2.2.2.2.2.1, x1.2.2.2.2.2.2.2.2.2.2.2.2.1, x1.2.2.2.2.2.2.2.2.2.2.2.2.2.1, x1.2.2.2.2.2.2.2.2.2.2.2.2.2.2.1, x1.2.2.2.2.2.2.2.2.2.2.2.2.2.2.2.1, ())
 else
  some (Sum.inr (x1.2.2.1, x1.2.2.2.1, x1.2.2.2.2.1, x1.2.2.2.2.2.1, x1.2.2.2.2.2.2.1, x1.2.2.2.2.2.2.2.1, x1.2.2.2.2.2.2.2.2.1, x1.2.2.2.2.2.2.2.2.2.1, x1.2.2.2.2.2.2.2.2.2.2.1, x1.2.2.2.2.2.2.2.2.2.2.2.1, x1.2.2.2.2.2.2.2.2.2.2.2.2.1, x1.2.2.2.2.2.2.2.2.2.2.2.2.2.1, x1.2.2.2.2.2.2.2.2.2.2.2.2.2.2.2.1, ()))

def order_Latest (a0 : D_api_Order) (a1 : List D_api_Deed) : Option (D_api_Order × Int × Unit) :=
 orAlt (order_at_e a0 a1 3652059 []) (fun r1 =>
  bif r1.2.1 != 0 then
   some (([], [], [], 0, 0, []), r1.2.1, ())
  else
   none) (
  Option.bind (order_at a0 a1 3652059 []) fun r2 =>
  bif r2.2.1 != 0 then
   some (([], [], [], 0, 0, []), r2.2.1, ())
  else
   Option.bind (order_follower_sorted (r2.1.1, r2.1.2.1, r2.1.2.2.1, r2.1.2.2.2.1, r2.1.2.2.2.2.1, r2.1.2.2.2.2.2.1, ())) fun r3 =>
   joinB (β := (D_api_Order × Int × Unit)) (γ := ((List UInt8) × (List UInt8) × (List UInt8) × Int × Int × (List D_api_Line) × (List UInt8) × (List UInt8) × (List UInt8) × Int × Int × (List D_api_Line) × (List D_order_line) × Unit)) (
    iter (X := order_Latest_x7) (β := order_Latest_r7) (Int.natAbs ((List.length r3.1 : Int)) + (Int.natAbs (0 : Int) + (List.length ([] : List UInt8) + (List.length ([] : List UInt8) + (List.length ([] : List UInt8) + (Int.natAbs (0 : Int) + (Int.natAbs (0 : Int) + (List.length ([] : List D_api_Line) + (List.length a0.1 + (List.length a0.2.1 + (List.length a0.2.2.1 + (Int.natAbs a0.2.2.2.1 + (Int.natAbs a0.2.2.2.2.1 + (List.length ([] : List D_api_Line) + (List.length r3.1 + (List.length r2.2.2.1 + 2)))))))))))))))) ((List.length r3.1 : Int), 0, [], [], [], 0, 0, [], a0.1, a0.2.1, a0.2.2.1, a0.2.2.2.1, a0.2.2.2.2.1, [], r3.1, r2.2.2.1, ()) (order_Latest_b7)) fun v9 =>
   bif ((List.length v9.2.2.2.2.2.2.2.2.2.2.2.1 : Int)) == 0 then
    some (([], [], [], 0, 0, []), 9, ())
   else
    some ((v9.2.2.2.2.2.2.1, v9.2.2.2.2.2.2.2.1, v9.2.2.2.2.2.2.2.2.1, v9.2.2.2.2.2.2.2.2.2.1, v9.2.2.2.2.2.2.2.2.2.2.1, v9.2.2.2.2.2.2.2.2.2.2.2.1), 0, ()))

abbrev slices_Equal_api_Line_x4 : Type := (List D_api_Line) × (List D_api_Line) × Int × Int × Unit
abbrev slices_Equal_api_Line_r4 : Type := ((Bool × Unit) ⊕ Unit)
def slices_Equal_api_Line_b4  (x1 : slices_Equal_api_Line_x4) (again : slices_Equal_api_Line_x4 → Option slices_Equal_api_Line_r4) : Option slices_Equal_api_Line_r4 :=
 bif decide (x1.2.2.2.1 < x1.2.2.1) then
  Option.bind (idx x1.1 x1.2.2.2.1) fun y2 =>
  Option.bind (idx x1.2.1 x1.2.2.2.1) fun y3 =>
  bif !((y2.1 == y3.1) && ((y2.2.1 == y3.2.1) && (((y2.2.2.1.1 == y3.2.2.1.1) && ((y2.2.2.1.2 == y3.2.2.1.2) && true)) && ((y2.2.2.2.1 == y3.2.2.2.1) && (((y2.2.2.2.2.1.1 == y3.2.2.2.2.1.1) && ((y2.2.2.2.2.1.2 == y3.2.2.2.2.1.2) && true)) && ((y2.2.2.2.2.2 == y3.2.2.2.2.2) && true)))))) then
   some (Sum.inl (false, ()))
  else
   again (x1.1, x1.2.1, x1.2.2.1, w64 (x1.2.2.2.1 + 1), ())
 else
  some (Sum.inr ())

def slices_Equal_api_Line (a0 : List D_api_Line) (a1 : List D_api_Line) : Option (Bool × Unit) :=
 bif ((List.length a0 : Int)) != ((List.length a1 : Int)) then
  some (false, ())
 else
  joinB (β := (Bool × Unit)) (γ := Unit) (
   iter (X := slices_Equal_api_Line_x4) (β := slices_Equal_api_Line_r4) (List.length a0 + (List.length a1 + (Int.natAbs ((List.length a0 : Int)) + (Int.natAbs (0 : Int) + 2)))) (a0, a1, (List.length a0 : Int), 0, ()) (slices_Equal_api_Line_b4)) fun _ =>
  some (true, ())

def r9_SameOrder (a0 : D_api_Order) (a1 : D_api_Order) : Option (Bool × Unit) :=
 Option.bind (
  bif a0.1 == a1.1 then
   bif a0.2.1 == a1.2.1 then
    bif a0.2.2.1 == a1.2.2.1 then
     bif a0.2.2.2.1 == a1.2.2.2.1 then
      bif a0.2.2.2.2.1 == a1.2.2.2.2.1 then
       Option.bind (slices_Equal_api_Line a0.2.2.2.2.2 a1.2.2.2.2.2) fun r1 =>
       some (r1.1, ())
      else
       some (false, ())
     else
      some (false, ())
    else
     some (false, ())
   else
    some (false, ())
  else
   some (false, ())) fun v2 =>
 some (v2.1, ())

def l9_OrderLatestIsAnOrder (a0 : D_api_Order) (a1 : List D_api_Deed) : Option (Bool × Unit) :=
 Option.bind (order_Latest a0 a1) fun r1 =>
 bif r1.2.1 != 0 then
  Option.bind (
   bif ((List.length r1.1.2.2.2.2.2 : Int)) == 0 then
    Option.bind (l9_awake) fun r2 =>
    some (r2.1, ())
   else
    some (false, ())) fun v3 =>
  some (v3.1, ())
 else
  Option.bind (order_Latest r1.1 []) fun r4 =>
  Option.bind (
   Option.bind (order_CheckOrder r1.1) fun r5 =>
   bif r5.1 == 0 then
    bif r4.2.1 == 0 then
     Option.bind (r9_SameOrder r1.1 r4.1) fun r6 =>
     bif r6.1 then
      Option.bind (l9_awake) fun r7 =>
      some (r7.1, ())
     else
      some (false, ())
    else
     some (false, ())
   else
    some (false, ())) fun v8 =>
  some (v8.1, ())

end
end Go.Md
