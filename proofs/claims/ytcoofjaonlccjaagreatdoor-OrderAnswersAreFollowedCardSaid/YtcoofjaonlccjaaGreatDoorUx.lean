/-
 The plain models of the functions that the law reaches, fourth part. No condition.
-/
import Derived.Test.YtcoofjaonlccjaaGreatDoorUo
import Derived.Test.YtcoofjaonlccjaaGreatDoorUd
set_option linter.all false
namespace Go.Md
open Go.Dn

abbrev slices_Sort_int (l : List Int) : Option (List Int × Unit) := sortI l
noncomputable section
abbrev order_follower_sorted_x3 : Type := (List (Option Nat)) × Int × Int × (List UInt8) × (List UInt8) × (List UInt8) × Int × Int × (List D_api_Line) × (List D_api_Deed) × Int × (List Int) × (List D_api_Decimal) × (List D_api_Point) × (List (Int × (Option Nat))) × Unit
abbrev order_follower_sorted_r3 : Type := (((List (Option Nat)) × (D_api_Order × (List D_api_Deed) × (List (Int × (Option Nat))) × (List D_api_Decimal) × (List D_api_Point) × Int × Unit) × Unit) ⊕ ((List (Option Nat)) × (List UInt8) × (List UInt8) × (List UInt8) × Int × Int × (List D_api_Line) × (List D_api_Deed) × Int × (List D_api_Decimal) × (List D_api_Point) × (List (Int × (Option Nat))) × Unit))
def order_follower_sorted_b3  (x1 : order_follower_sorted_x3) (again : order_follower_sorted_x3 → Option order_follower_sorted_r3) : Option order_follower_sorted_r3 :=
 bif decide (x1.2.2.1 < x1.2.1) then
  chk (decide (0 ≤ x1.2.2.1) && decide (x1.2.2.1 < (List.length x1.2.2.2.2.2.2.2.2.2.2.2.1 : Int))) <|
  Option.bind (x1.2.2.2.2.2.2.2.2.2.2.2.1[x1.2.2.1.toNat]?) fun y2 =>
  chk (decide (((List.length x1.1) + 1) * 8 ≤ 140737488355328) && decide ((List.length x1.1) + 1 ≤ maxLen)) <|
  again (x1.1 ++ [(Option.getD (α := Option Nat) (mget (k := tI) (v := .hnd) x1.2.2.2.2.2.2.2.2.2.2.2.2.2.2.1 y2) none)], x1.2.1, w64 (x1.2.2.1 + 1), x1.2.2.2.1, x1.2.2.2.2.1, x1.2.2.2.2.2.1, x1.2.2.2.2.2.2.1, x1.2.2.2.2.2.2.2.1, x1.2.2.2.2.2.2.2.2.1, x1.2.2.2.2.2.2.2.2.2.1, x1.2.2.2.2.2.2.2.2.2.2.1, x1.2.2.2.2.2.2.2.2.2.2.2.1, x1.2.2.2.2.2.2.2.2.2.2.2.2.1, x1.2.2.2.2.2.2.2.2.2.2.2.2.2.1, x1.2.2.2.2.2.2.2.2.2.2.2.2.2.2.1, ())
 else
  some (Sum.inr (x1.1, x1.2.2.2.1, x1.2.2.2.2.1, x1.2.2.2.2.2.1, x1.2.2.2.2.2.2.1, x1.2.2.2.2.2.2.2.1, x1.2.2.2.2.2.2.2.2.1, x1.2.2.2.2.2.2.2.2.2.1, x1.2.2.2.2.2.2.2.2.2.2.1, x1.2.2.2.2.2.2.2.2.2.2.2.2.1, x1.2.2.2.2.2.2.2.2.2.2.2.2.2.1, x1.2.2.2.2.2.2.2.2.2.2.2.2.2.2.1, ()))

def order_follower_sorted (a0 : D_api_Order × (List D_api_Deed) × (List (Int × (Option Nat))) × (List D_api_Decimal) × (List D_api_Point) × Int × Unit) : Option ((List (Option Nat)) × (D_api_Order × (List D_api_Deed) × (List (Int × (Option Nat))) × (List D_api_Decimal) × (List D_api_Point) × Int × Unit) × Unit) :=
 chk (keysOk a0.2.2.1) <|
 joinB (β := ((List (Option Nat)) × (D_api_Order × (List D_api_Deed) × (List (Int × (Option Nat))) × (List D_api_Decimal) × (List D_api_Point) × Int × Unit) × Unit)) (γ := ((List (Option Nat)) × (List UInt8) × (List UInt8) × (List UInt8) × Int × Int × (List D_api_Line) × (List D_api_Deed) × Int × (List D_api_Decimal) × (List D_api_Point) × (List (Int × (Option Nat))) × Unit)) (
  iter (X := order_follower_sorted_x3) (β := order_follower_sorted_r3) (List.length ([] : List (Option Nat)) + (Int.natAbs ((List.length (keysI a0.2.2.1) : Int)) + (Int.natAbs (0 : Int) + (List.length a0.1.1 + (List.length a0.1.2.1 + (List.length a0.1.2.2.1 + (Int.natAbs a0.1.2.2.2.1 + (Int.natAbs a0.1.2.2.2.2.1 + (List.length a0.1.2.2.2.2.2 + (List.length a0.2.1 + (Int.natAbs a0.2.2.2.2.2.1 + (List.length ((keysI a0.2.2.1) : List Int) + (List.length a0.2.2.2.1 + (List.length a0.2.2.2.2.1 + (List.length a0.2.2.1 + 2))))))))))))))) ([], (List.length (keysI a0.2.2.1) : Int), 0, a0.1.1, a0.1.2.1, a0.1.2.2.1, a0.1.2.2.2.1, a0.1.2.2.2.2.1, a0.1.2.2.2.2.2, a0.2.1, a0.2.2.2.2.2.1, keysI a0.2.2.1, a0.2.2.2.1, a0.2.2.2.2.1, a0.2.2.1, ()) (order_follower_sorted_b3)) fun v3 =>
 some (v3.1, ((v3.2.1, v3.2.2.1, v3.2.2.2.1, v3.2.2.2.2.1, v3.2.2.2.2.2.1, v3.2.2.2.2.2.2.1), v3.2.2.2.2.2.2.2.1, v3.2.2.2.2.2.2.2.2.2.2.2.1, v3.2.2.2.2.2.2.2.2.2.1, v3.2.2.2.2.2.2.2.2.2.2.1, v3.2.2.2.2.2.2.2.2.1, ()), ())

def order_Answer_1 (a0 : D_api_Deed) (a1 : Int) : Option (Bool × Unit) :=
 Option.bind (
  bif a0.2.1 == 1 then
   some (a0.2.2.1 == a1, ())
  else
   some (false, ())) fun v1 =>
 some (v1.1, ())

abbrev slices_IndexFunc_api_Deed_x2 : Type := (List D_api_Deed) × Int × Int × Int × Unit
abbrev slices_IndexFunc_api_Deed_r2 : Type := ((Int × Unit) ⊕ Unit)
def slices_IndexFunc_api_Deed_b2  (x1 : slices_IndexFunc_api_Deed_x2) (again : slices_IndexFunc_api_Deed_x2 → Option slices_IndexFunc_api_Deed_r2) : Option slices_IndexFunc_api_Deed_r2 :=
 bif decide (x1.2.2.2.1 < x1.2.2.1) then
  Option.bind (idx x1.1 x1.2.2.2.1) fun y2 =>
  Option.bind (order_Answer_1 y2 x1.2.1) fun r3 =>
  bif r3.1 then
   some (Sum.inl (x1.2.2.2.1, ()))
  else
   again (x1.1, x1.2.1, x1.2.2.1, w64 (x1.2.2.2.1 + 1), ())
 else
  some (Sum.inr ())

def slices_IndexFunc_api_Deed (a0 : List D_api_Deed) (a1 : Int) : Option (Int × Unit) :=
 joinB (β := (Int × Unit)) (γ := Unit) (
  iter (X := slices_IndexFunc_api_Deed_x2) (β := slices_IndexFunc_api_Deed_r2) (List.length a0 + (Int.natAbs ((List.length a0 : Int)) + (Int.natAbs (0 : Int) + 2))) (a0, a1, (List.length a0 : Int), 0, ()) (slices_IndexFunc_api_Deed_b2)) fun _ =>
 some ((-1), ())

def order_Answer (a0 : D_api_Order) (a1 : List D_api_Deed) (a2 : Int) (a3 : Int) : Option (D_api_Deed × Int × Unit) :=
 Option.bind (order_checked a0 a1) fun r1 =>
 bif r1.1 != 0 then
  some ((0, 0, 0, 0, 0, [], (0, 0), [], (0, 0), 0, 0), r1.1, ())
 else
  Option.bind (kit_IsDay a2) fun r2 =>
  bif !r2.1 then
   some ((0, 0, 0, 0, 0, [], (0, 0), [], (0, 0), 0, 0), 1, ())
  else
   Option.bind (
    bif decide (((List.length a1 : Int)) > 0) then
     Option.bind (idx a1 (w64 (((List.length a1 : Int)) - 1))) fun y3 =>
     some (decide (a2 < y3.1), ())
    else
     some (false, ())) fun v4 =>
   bif v4.1 then
    some ((0, 0, 0, 0, 0, [], (0, 0), [], (0, 0), 0, 0), 8, ())
   else
    Option.bind (order_newFollower a0 a1 []) fun r5 =>
    Option.bind (order_follower_run (r5.1.1, r5.1.2.1, r5.1.2.2.1, r5.1.2.2.2.1, r5.1.2.2.2.2.1, r5.1.2.2.2.2.2.1, ()) 3652059 r5.2.1) fun r6 =>
    Option.bind (slices_IndexFunc_api_Deed a1 a3) fun r7 =>
    bif decide (r7.1 < 0) then
     some ((0, 0, 0, 0, 0, [], (0, 0), [], (0, 0), 0, 0), 5, ())
    else
     Option.bind (idx a1 r7.1) fun y8 =>
     bif Option.isNone (Option.getD (α := Option Nat) (mget (k := tI) (v := .hnd) r6.1.2.2.1 y8.2.2.2.2.1) none) then
      some ((0, 0, 0, 0, 0, [], (0, 0), [], (0, 0), 0, 0), 5, ())
     else
      Option.bind (idx a1 r7.1) fun y9 =>
      Option.bind (Option.getD (α := Option Nat) (mget (k := tI) (v := .hnd) r6.1.2.2.1 y9.2.2.2.2.1) none) fun h10 =>
      Option.bind (r6.2.1[h10]?) fun y11 =>
      bif y11.2.2.2.2.2.2.2.2.2.1 != r7.1 then
       some ((0, 0, 0, 0, 0, [], (0, 0), [], (0, 0), 0, 0), 5, ())
      else
       bif decide (((List.length a1 : Int)) ≥ 2000) then
        some ((0, 0, 0, 0, 0, [], (0, 0), [], (0, 0), 0, 0), 2, ())
       else
        Option.bind (idx a1 r7.1) fun y12 =>
        Option.bind (order_nextNo a1 2) fun r13 =>
        Option.bind (
         Option.bind (order_usesOf y12.2.2.2.1) fun r14 =>
         bif r14.1.2.2.2.2.1 then
          some (decide (y12.2.2.2.2.2.2.2.2.2.1 < a2), ())
         else
          some (false, ())) fun v15 =>
        bif v15.1 then
         some ((a2, 2, r13.1, 6, y12.2.2.2.2.1, [], (0, 0), [], (0, 0), 0, a3), 0, ())
        else
         Option.bind (order_follower_answer (r6.1.1, r6.1.2.1, r6.1.2.2.1, r6.1.2.2.2.1, r6.1.2.2.2.2.1, r6.1.2.2.2.2.2.1, ()) (Option.getD (α := Option Nat) (mget (k := tI) (v := .hnd) r6.1.2.2.1 y12.2.2.2.2.1) none) (a2, 2, r13.1, 5, y12.2.2.2.2.1, [], (0, 0), [], (0, 0), 0, a3) r6.2.1) fun r16 =>
         bif r16.1 != 0 then
          some ((a2, 2, r13.1, 6, y12.2.2.2.2.1, [], (0, 0), [], (0, 0), 0, a3), 0, ())
         else
          some ((a2, 2, r13.1, 5, y12.2.2.2.2.1, [], (0, 0), [], (0, 0), 0, a3), 0, ())

abbrev order_Asked_x6 : Type := (List Int) × Int × Int × (List (Option Nat)) × (List D_order_line) × Unit
abbrev order_Asked_r6 : Type := (((List Int) × Int × Unit) ⊕ ((List Int) × (List D_order_line) × Unit))
def order_Asked_b6  (x1 : order_Asked_x6) (again : order_Asked_x6 → Option order_Asked_r6) : Option order_Asked_r6 :=
 bif decide (x1.2.2.1 < x1.2.1) then
  chk (decide (0 ≤ x1.2.2.1) && decide (x1.2.2.1 < (List.length x1.2.2.2.1 : Int))) <|
  Option.bind (x1.2.2.2.1[x1.2.2.1.toNat]?) fun y2 =>
  Option.bind (y2) fun h3 =>
  Option.bind (x1.2.2.2.2.1[h3]?) fun y4 =>
  bif decide (y4.2.2.2.2.2.2.2.2.2.1 ≥ 0) then
   Option.bind (y2) fun h5 =>
   Option.bind (x1.2.2.2.2.1[h5]?) fun y6 =>
   chk (decide (((List.length x1.1) + 1) * 8 ≤ 140737488355328) && decide ((List.length x1.1) + 1 ≤ maxLen)) <|
   again (x1.1 ++ [y6.2.2.2.2.2.2.2.2.2.1], x1.2.1, w64 (x1.2.2.1 + 1), x1.2.2.2.1, x1.2.2.2.2.1, ())
  else
   again (x1.1, x1.2.1, w64 (x1.2.2.1 + 1), x1.2.2.2.1, x1.2.2.2.2.1, ())
 else
  some (Sum.inr (x1.1, x1.2.2.2.2.1, ()))

def order_Asked (a0 : D_api_Order) (a1 : List D_api_Deed) (a2 : Int) : Option ((List Int) × Int × Unit) :=
 orAlt (order_at_e a0 a1 a2 []) (fun r1 =>
  bif r1.2.1 != 0 then
   some ([], r1.2.1, ())
  else
   none) (
  Option.bind (order_at a0 a1 a2 []) fun r2 =>
  bif r2.2.1 != 0 then
   some ([], r2.2.1, ())
  else
   Option.bind (order_follower_sorted (r2.1.1, r2.1.2.1, r2.1.2.2.1, r2.1.2.2.2.1, r2.1.2.2.2.2.1, r2.1.2.2.2.2.2.1, ())) fun r3 =>
   joinB (β := ((List Int) × Int × Unit)) (γ := ((List Int) × (List D_order_line) × Unit)) (
    iter (X := order_Asked_x6) (β := order_Asked_r6) (List.length ([] : List Int) + (Int.natAbs ((List.length r3.1 : Int)) + (Int.natAbs (0 : Int) + (List.length r3.1 + (List.length r2.2.2.1 + 2))))) ([], (List.length r3.1 : Int), 0, r3.1, r2.2.2.1, ()) (order_Asked_b6)) fun v10 =>
   Option.bind (slices_Sort_int v10.1) fun r11 =>
   some (r11.1, 0, ()))

noncomputable def l9_OrderAnswersAreFollowed (a0 : D_api_Order) (a1 : List D_api_Deed) (a2 : Int) (a3 : Int) : Option (Bool × Unit) :=
 Option.bind (order_Answer a0 a1 a2 a3) fun r1 =>
 bif r1.2.1 != 0 then
  Option.bind (
   bif r1.1.1 == 0 then
    Option.bind (l9_awake) fun r2 =>
    some (r2.1, ())
   else
    some (false, ())) fun v3 =>
  some (v3.1, ())
 else
  Option.bind (order_Asked a0 a1 3652059) fun r4 =>
  Option.bind (order_Write a0 a1 (r1.1.1, r1.1.2.1, 0, r1.1.2.2.2)) fun r5 =>
  Option.bind (order_Asked a0 r5.1 3652059) fun r6 =>
  Option.bind (
   bif r4.2.1 == 0 then
    bif r5.2.1 == 0 then
     bif r6.2.1 == 0 then
      bif ((List.length r6.1 : Int)) == (w64 (((List.length r4.1 : Int)) - 1)) then
       Option.bind (l9_awake) fun r7 =>
       some (r7.1, ())
      else
       some (false, ())
     else
      some (false, ())
    else
     some (false, ())
   else
    some (false, ())) fun v8 =>
  some (v8.1, ())

end
end Go.Md
