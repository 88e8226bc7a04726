/-
 The plain models of the functions that the law reaches, fourth part. No condition.
-/
import Derived.Test.YtcoofjaonlccjaaGreatDoorTo
import Derived.Test.YtcoofjaonlccjaaGreatDoorTd
set_option linter.all false
namespace Go.Md
open Go.Dn

abbrev slices_Insert_api_Deed (l : List (Int × Int × Int × Int × Int × (List UInt8) × (Int × Int) × (List UInt8) × (Int × Int) × Int × Int)) (i : Int) (v : List (Int × Int × Int × Int × Int × (List UInt8) × (Int × Int) × (List UInt8) × (Int × Int) × Int × Int)) := insMK 120 l i v

noncomputable section
abbrev r9_MergeDeeds_x13 : Type := (List D_api_Deed) × (List D_api_Deed) × Bool × (List D_api_Deed) × Int × Int × (List D_api_Deed) × Int × Int × Int × Int × Int × Int × Int × (List UInt8) × Int × Int × (List UInt8) × Int × Int × Int × Int × Unit
abbrev r9_MergeDeeds_r13 : Type := ((((List D_api_Deed) × Int × Unit) ⊕ ((List D_api_Deed) × Unit)) ⊕ ((List D_api_Deed) × (List D_api_Deed) × Bool × (List D_api_Deed) × Int × Int × Int × Int × Int × Int × Int × (List UInt8) × Int × Int × (List UInt8) × Int × Int × Int × Int × Unit))
noncomputable def r9_MergeDeeds_b13  (x1 : r9_MergeDeeds_x13) (again : r9_MergeDeeds_x13 → Option r9_MergeDeeds_r13) : Option r9_MergeDeeds_r13 :=
 bif decide (x1.2.2.2.2.2.2.2.2.1 < x1.2.2.2.2.2.2.2.1) then
  Option.bind (idx x1.2.2.2.2.2.2.1 x1.2.2.2.2.2.2.2.2.1) fun y2 =>
  Option.bind (
   bif y2.2.1 == x1.2.2.2.2.2.2.2.2.2.2.1 then
    some (y2.2.2.1 == x1.2.2.2.2.2.2.2.2.2.2.2.1, ())
   else
    some (false, ())) fun v3 =>
  bif v3.1 then
   bif !((y2.1 == x1.2.2.2.2.2.2.2.2.2.1) && ((y2.2.1 == x1.2.2.2.2.2.2.2.2.2.2.1) && ((y2.2.2.1 == x1.2.2.2.2.2.2.2.2.2.2.2.1) && ((y2.2.2.2.1 == x1.2.2.2.2.2.2.2.2.2.2.2.2.1) && ((y2.2.2.2.2.1 == x1.2.2.2.2.2.2.2.2.2.2.2.2.2.1) && ((y2.2.2.2.2.2.1 == x1.2.2.2.2.2.2.2.2.2.2.2.2.2.2.1) && (((y2.2.2.2.2.2.2.1.1 == x1.2.2.2.2.2.2.2.2.2.2.2.2.2.2.2.1) && ((y2.2.2.2.2.2.2.1.2 == x1.2.2.2.2.2.2.2.2.2.2.2.2.2.2.2.2.1) && true)) && ((y2.2.2.2.2.2.2.2.1 == x1.2.2.2.2.2.2.2.2.2.2.2.2.2.2.2.2.2.1) && (((y2.2.2.2.2.2.2.2.2.1.1 == x1.2.2.2.2.2.2.2.2.2.2.2.2.2.2.2.2.2.2.1) && ((y2.2.2.2.2.2.2.2.2.1.2 == x1.2.2.2.2.2.2.2.2.2.2.2.2.2.2.2.2.2.2.2.1) && true)) && ((y2.2.2.2.2.2.2.2.2.2.1 == x1.2.2.2.2.2.2.2.2.2.2.2.2.2.2.2.2.2.2.2.2.1) && ((y2.2.2.2.2.2.2.2.2.2.2 == x1.2.2.2.2.2.2.2.2.2.2.2.2.2.2.2.2.2.2.2.2.2.1) && true))))))))))) then
    inlM <|
     some (Sum.inl ([], 12, ()))
   else
    again (x1.1, x1.2.1, true, x1.2.2.2.1, x1.2.2.2.2.1, x1.2.2.2.2.2.1, x1.2.2.2.2.2.2.1, x1.2.2.2.2.2.2.2.1, w64 (x1.2.2.2.2.2.2.2.2.1 + 1), x1.2.2.2.2.2.2.2.2.2.1, x1.2.2.2.2.2.2.2.2.2.2.1, x1.2.2.2.2.2.2.2.2.2.2.2.1, x1.2.2.2.2.2.2.2.2.2.2.2.2.1, x1.2.2.2.2.2.2.2.2.2.2.2.2.2.1, x1.2.2.2.2.2.2.2.2.2.2.2.2.2.2.1, x1.2.2.2.2.2.2.2.2.2.2.2.2.2.2.2.1, x1.2.2.2.2.2.2.2.2.2.2.2.2.2.2.2.2.1, x1.2.2.2.2.2.2.2.2.2.2.2.2.2.2.2.2.2.1, x1.2.2.2.2.2.2.2.2.2.2.2.2.2.2.2.2.2.2.1, x1.2.2.2.2.2.2.2.2.2.2.2.2.2.2.2.2.2.2.2.1, x1.2.2.2.2.2.2.2.2.2.2.2.2.2.2.2.2.2.2.2.2.1, x1.2.2.2.2.2.2.2.2.2.2.2.2.2.2.2.2.2.2.2.2.2.1, ())
  else
   again (x1.1, x1.2.1, x1.2.2.1, x1.2.2.2.1, x1.2.2.2.2.1, x1.2.2.2.2.2.1, x1.2.2.2.2.2.2.1, x1.2.2.2.2.2.2.2.1, w64 (x1.2.2.2.2.2.2.2.2.1 + 1), x1.2.2.2.2.2.2.2.2.2.1, x1.2.2.2.2.2.2.2.2.2.2.1, x1.2.2.2.2.2.2.2.2.2.2.2.1, x1.2.2.2.2.2.2.2.2.2.2.2.2.1, x1.2.2.2.2.2.2.2.2.2.2.2.2.2.1, x1.2.2.2.2.2.2.2.2.2.2.2.2.2.2.1, x1.2.2.2.2.2.2.2.2.2.2.2.2.2.2.2.1, x1.2.2.2.2.2.2.2.2.2.2.2.2.2.2.2.2.1, x1.2.2.2.2.2.2.2.2.2.2.2.2.2.2.2.2.2.1, x1.2.2.2.2.2.2.2.2.2.2.2.2.2.2.2.2.2.2.1, x1.2.2.2.2.2.2.2.2.2.2.2.2.2.2.2.2.2.2.2.1, x1.2.2.2.2.2.2.2.2.2.2.2.2.2.2.2.2.2.2.2.2.1, x1.2.2.2.2.2.2.2.2.2.2.2.2.2.2.2.2.2.2.2.2.2.1, ())
 else
  some (Sum.inr (x1.1, x1.2.1, x1.2.2.1, x1.2.2.2.1, x1.2.2.2.2.1, x1.2.2.2.2.2.1, x1.2.2.2.2.2.2.2.2.2.1, x1.2.2.2.2.2.2.2.2.2.2.1, x1.2.2.2.2.2.2.2.2.2.2.2.1, x1.2.2.2.2.2.2.2.2.2.2.2.2.1, x1.2.2.2.2.2.2.2.2.2.2.2.2.2.1, x1.2.2.2.2.2.2.2.2.2.2.2.2.2.2.1, x1.2.2.2.2.2.2.2.2.2.2.2.2.2.2.2.1, x1.2.2.2.2.2.2.2.2.2.2.2.2.2.2.2.2.1, x1.2.2.2.2.2.2.2.2.2.2.2.2.2.2.2.2.2.1, x1.2.2.2.2.2.2.2.2.2.2.2.2.2.2.2.2.2.2.1, x1.2.2.2.2.2.2.2.2.2.2.2.2.2.2.2.2.2.2.2.1, x1.2.2.2.2.2.2.2.2.2.2.2.2.2.2.2.2.2.2.2.2.1, x1.2.2.2.2.2.2.2.2.2.2.2.2.2.2.2.2.2.2.2.2.2.1, ()))

abbrev r9_MergeDeeds_x21 : Type := (List D_api_Deed) × (List D_api_Deed) × Bool × Int × (List D_api_Deed) × Int × Int × Int × Int × Int × Int × Int × (List UInt8) × Int × Int × (List UInt8) × Int × Int × Int × Int × Unit
abbrev r9_MergeDeeds_r21 : Type := ((((List D_api_Deed) × Int × Unit) ⊕ ((List D_api_Deed) × Unit)) ⊕ ((List D_api_Deed) × (List D_api_Deed) × Bool × Int × (List D_api_Deed) × Int × Int × Int × Int × Int × Int × Int × (List UInt8) × Int × Int × (List UInt8) × Int × Int × Int × Int × Unit))
noncomputable def r9_MergeDeeds_b21  (x1 : r9_MergeDeeds_x21) (again : r9_MergeDeeds_x21 → Option r9_MergeDeeds_r21) : Option r9_MergeDeeds_r21 :=
 Option.bind (
  bif decide (x1.2.2.2.1 > 0) then
   chk (decide (0 ≤ (w64 (x1.2.2.2.1 - 1))) && decide ((w64 (x1.2.2.2.1 - 1)) < (List.length x1.2.1 : Int))) <|
   Option.bind (x1.2.1[(w64 (x1.2.2.2.1 - 1)).toNat]?) fun y2 =>
   Option.bind (r9_deedOrder (x1.2.2.2.2.2.2.2.1, x1.2.2.2.2.2.2.2.2.1, x1.2.2.2.2.2.2.2.2.2.1, x1.2.2.2.2.2.2.2.2.2.2.1, x1.2.2.2.2.2.2.2.2.2.2.2.1, x1.2.2.2.2.2.2.2.2.2.2.2.2.1, (x1.2.2.2.2.2.2.2.2.2.2.2.2.2.1, x1.2.2.2.2.2.2.2.2.2.2.2.2.2.2.1), x1.2.2.2.2.2.2.2.2.2.2.2.2.2.2.2.1, (x1.2.2.2.2.2.2.2.2.2.2.2.2.2.2.2.2.1, x1.2.2.2.2.2.2.2.2.2.2.2.2.2.2.2.2.2.1), x1.2.2.2.2.2.2.2.2.2.2.2.2.2.2.2.2.2.2.1, x1.2.2.2.2.2.2.2.2.2.2.2.2.2.2.2.2.2.2.2.1) y2) fun r3 =>
   some (decide (r3.1 < 0), ())
  else
   some (false, ())) fun v4 =>
 bif v4.1 then
  again (x1.1, x1.2.1, x1.2.2.1, w64 (x1.2.2.2.1 - 1), x1.2.2.2.2.1, x1.2.2.2.2.2.1, x1.2.2.2.2.2.2.1, x1.2.2.2.2.2.2.2.1, x1.2.2.2.2.2.2.2.2.1, x1.2.2.2.2.2.2.2.2.2.1, x1.2.2.2.2.2.2.2.2.2.2.1, x1.2.2.2.2.2.2.2.2.2.2.2.1, x1.2.2.2.2.2.2.2.2.2.2.2.2.1, x1.2.2.2.2.2.2.2.2.2.2.2.2.2.1, x1.2.2.2.2.2.2.2.2.2.2.2.2.2.2.1, x1.2.2.2.2.2.2.2.2.2.2.2.2.2.2.2.1, x1.2.2.2.2.2.2.2.2.2.2.2.2.2.2.2.2.1, x1.2.2.2.2.2.2.2.2.2.2.2.2.2.2.2.2.2.1, x1.2.2.2.2.2.2.2.2.2.2.2.2.2.2.2.2.2.2.1, x1.2.2.2.2.2.2.2.2.2.2.2.2.2.2.2.2.2.2.2.1, ())
 else
  some (Sum.inr (x1.1, x1.2.1, x1.2.2.1, x1.2.2.2.1, x1.2.2.2.2.1, x1.2.2.2.2.2.1, x1.2.2.2.2.2.2.1, x1.2.2.2.2.2.2.2.1, x1.2.2.2.2.2.2.2.2.1, x1.2.2.2.2.2.2.2.2.2.1, x1.2.2.2.2.2.2.2.2.2.2.1, x1.2.2.2.2.2.2.2.2.2.2.2.1, x1.2.2.2.2.2.2.2.2.2.2.2.2.1, x1.2.2.2.2.2.2.2.2.2.2.2.2.2.1, x1.2.2.2.2.2.2.2.2.2.2.2.2.2.2.1, x1.2.2.2.2.2.2.2.2.2.2.2.2.2.2.2.1, x1.2.2.2.2.2.2.2.2.2.2.2.2.2.2.2.2.1, x1.2.2.2.2.2.2.2.2.2.2.2.2.2.2.2.2.2.1, x1.2.2.2.2.2.2.2.2.2.2.2.2.2.2.2.2.2.2.1, x1.2.2.2.2.2.2.2.2.2.2.2.2.2.2.2.2.2.2.2.1, ()))

abbrev r9_MergeDeeds_x9 : Type := (List D_api_Deed) × (List D_api_Deed) × (List D_api_Deed) × Int × Int × Unit
abbrev r9_MergeDeeds_r9 : Type := (((List D_api_Deed) × Int × Unit) ⊕ ((List D_api_Deed) × Unit))
noncomputable def r9_MergeDeeds_b9  (x1 : r9_MergeDeeds_x9) (again : r9_MergeDeeds_x9 → Option r9_MergeDeeds_r9) : Option r9_MergeDeeds_r9 :=
 bif decide (x1.2.2.2.2.1 < x1.2.2.2.1) then
  Option.bind (idx x1.2.2.1 x1.2.2.2.2.1) fun y2 =>
  joinB (β := (((List D_api_Deed) × Int × Unit) ⊕ ((List D_api_Deed) × Unit))) (γ := ((List D_api_Deed) × (List D_api_Deed) × Bool × (List D_api_Deed) × Int × Int × Int × Int × Int × Int × Int × (List UInt8) × Int × Int × (List UInt8) × Int × Int × Int × Int × Unit)) (
   iter (X := r9_MergeDeeds_x13) (β := r9_MergeDeeds_r13) (List.length x1.1 + (List.length x1.2.1 + (List.length x1.2.2.1 + (Int.natAbs x1.2.2.2.1 + (Int.natAbs x1.2.2.2.2.1 + (List.length x1.1 + (Int.natAbs ((List.length x1.1 : Int)) + (Int.natAbs (0 : Int) + (Int.natAbs y2.1 + (Int.natAbs y2.2.1 + (Int.natAbs y2.2.2.1 + (Int.natAbs y2.2.2.2.1 + (Int.natAbs y2.2.2.2.2.1 + (List.length y2.2.2.2.2.2.1 + (Int.natAbs y2.2.2.2.2.2.2.1.1 + (Int.natAbs y2.2.2.2.2.2.2.1.2 + (List.length y2.2.2.2.2.2.2.2.1 + (Int.natAbs y2.2.2.2.2.2.2.2.2.1.1 + (Int.natAbs y2.2.2.2.2.2.2.2.2.1.2 + (Int.natAbs y2.2.2.2.2.2.2.2.2.2.1 + (Int.natAbs y2.2.2.2.2.2.2.2.2.2.2 + 2))))))))))))))))))))) (x1.1, x1.2.1, false, x1.2.2.1, x1.2.2.2.1, x1.2.2.2.2.1, x1.1, (List.length x1.1 : Int), 0, y2.1, y2.2.1, y2.2.2.1, y2.2.2.2.1, y2.2.2.2.2.1, y2.2.2.2.2.2.1, y2.2.2.2.2.2.2.1.1, y2.2.2.2.2.2.2.1.2, y2.2.2.2.2.2.2.2.1, y2.2.2.2.2.2.2.2.2.1.1, y2.2.2.2.2.2.2.2.2.1.2, y2.2.2.2.2.2.2.2.2.2.1, y2.2.2.2.2.2.2.2.2.2.2, ()) (r9_MergeDeeds_b13)) fun v3 =>
  joinB (β := (((List D_api_Deed) × Int × Unit) ⊕ ((List D_api_Deed) × Unit))) (γ := ((List D_api_Deed) × (List D_api_Deed) × Bool × Int × (List D_api_Deed) × Int × Int × Int × Int × Int × Int × Int × (List UInt8) × Int × Int × (List UInt8) × Int × Int × Int × Int × Unit)) (
   iter (X := r9_MergeDeeds_x21) (β := r9_MergeDeeds_r21) (List.length v3.1 + (List.length v3.2.1 + (Int.natAbs ((List.length v3.2.1 : Int)) + (List.length v3.2.2.2.1 + (Int.natAbs v3.2.2.2.2.1 + (Int.natAbs v3.2.2.2.2.2.1 + (Int.natAbs v3.2.2.2.2.2.2.1 + (Int.natAbs v3.2.2.2.2.2.2.2.1 + (Int.natAbs v3.2.2.2.2.2.2.2.2.1 + (Int.natAbs v3.2.2.2.2.2.2.2.2.2.1 + (Int.natAbs v3.2.2.2.2.2.2.2.2.2.2.1 + (List.length v3.2.2.2.2.2.2.2.2.2.2.2.1 + (Int.natAbs v3.2.2.2.2.2.2.2.2.2.2.2.2.1 + (Int.natAbs v3.2.2.2.2.2.2.2.2.2.2.2.2.2.1 + (List.length v3.2.2.2.2.2.2.2.2.2.2.2.2.2.2.1 + (Int.natAbs v3.2.2.2.2.2.2.2.2.2.2.2.2.2.2.2.1 + (Int.natAbs v3.2.2.2.2.2.2.2.2.2.2.2.2.2.2.2.2.1 + (Int.natAbs v3.2.2.2.2.2.2.2.2.2.2.2.2.2.2.2.2.2.1 + (Int.natAbs v3.2.2.2.2.2.2.2.2.2.2.2.2.2.2.2.2.2.2.1 + 2))))))))))))))))))) (v3.1, v3.2.1, v3.2.2.1, (List.length v3.2.1 : Int), v3.2.2.2.1, v3.2.2.2.2.1, v3.2.2.2.2.2.1, v3.2.2.2.2.2.2.1, v3.2.2.2.2.2.2.2.1, v3.2.2.2.2.2.2.2.2.1, v3.2.2.2.2.2.2.2.2.2.1, v3.2.2.2.2.2.2.2.2.2.2.1, v3.2.2.2.2.2.2.2.2.2.2.2.1, v3.2.2.2.2.2.2.2.2.2.2.2.2.1, v3.2.2.2.2.2.2.2.2.2.2.2.2.2.1, v3.2.2.2.2.2.2.2.2.2.2.2.2.2.2.1, v3.2.2.2.2.2.2.2.2.2.2.2.2.2.2.2.1, v3.2.2.2.2.2.2.2.2.2.2.2.2.2.2.2.2.1, v3.2.2.2.2.2.2.2.2.2.2.2.2.2.2.2.2.2.1, v3.2.2.2.2.2.2.2.2.2.2.2.2.2.2.2.2.2.2.1, ()) (r9_MergeDeeds_b21)) fun v4 =>
  bif !v4.2.2.1 then
   Option.bind (slices_Insert_api_Deed v4.2.1 v4.2.2.2.1 [(v4.2.2.2.2.2.2.2.1, v4.2.2.2.2.2.2.2.2.1, v4.2.2.2.2.2.2.2.2.2.1, v4.2.2.2.2.2.2.2.2.2.2.1, v4.2.2.2.2.2.2.2.2.2.2.2.1, v4.2.2.2.2.2.2.2.2.2.2.2.2.1, (v4.2.2.2.2.2.2.2.2.2.2.2.2.2.1, v4.2.2.2.2.2.2.2.2.2.2.2.2.2.2.1), v4.2.2.2.2.2.2.2.2.2.2.2.2.2.2.2.1, (v4.2.2.2.2.2.2.2.2.2.2.2.2.2.2.2.2.1, v4.2.2.2.2.2.2.2.2.2.2.2.2.2.2.2.2.2.1), v4.2.2.2.2.2.2.2.2.2.2.2.2.2.2.2.2.2.2.1, v4.2.2.2.2.2.2.2.2.2.2.2.2.2.2.2.2.2.2.2.1)]) fun r5 =>
   again (v4.1, r5.1, v4.2.2.2.2.1, v4.2.2.2.2.2.1, w64 (v4.2.2.2.2.2.2.1 + 1), ())
  else
   again (v4.1, v4.2.1, v4.2.2.2.2.1, v4.2.2.2.2.2.1, w64 (v4.2.2.2.2.2.2.1 + 1), ())
 else
  some (Sum.inr (x1.2.1, ()))

noncomputable def r9_MergeDeeds (a0 : List D_api_Deed) (a1 : List D_api_Deed) : Option ((List D_api_Deed) × Int × Unit) :=
 Option.bind (r9_CheckDeeds a0) fun r1 =>
 bif r1.1 != 0 then
  some ([], r1.1, ())
 else
  Option.bind (r9_CheckDeeds a1) fun r2 =>
  bif r2.1 != 0 then
   some ([], r2.1, ())
  else
   Option.bind (slices_Clone_api_Deed a0) fun r3 =>
   joinB (β := ((List D_api_Deed) × Int × Unit)) (γ := ((List D_api_Deed) × Unit)) (
    iter (X := r9_MergeDeeds_x9) (β := r9_MergeDeeds_r9) (List.length a0 + (List.length r3.1 + (List.length a1 + (Int.natAbs ((List.length a1 : Int)) + (Int.natAbs (0 : Int) + 2))))) (a0, r3.1, a1, (List.length a1 : Int), 0, ()) (r9_MergeDeeds_b9)) fun v16 =>
   Option.bind (r9_CheckDeeds v16.1) fun r17 =>
   bif r17.1 != 0 then
    some ([], r17.1, ())
   else
    some (v16.1, 0, ())

def r9_checkLine (a0 : D_api_Order) (a1 : Int) : Option (Int × Unit) :=
 Option.bind (idx a0.2.2.2.2.2 a1) fun y1 =>
 Option.bind (r9_within y1.1 1 99999) fun r2 =>
 bif !r2.1 then
  some (1, ())
 else
  Option.bind (
   bif decide (a1 > 0) then
    Option.bind (idx a0.2.2.2.2.2 (w64 (a1 - 1))) fun y3 =>
    some (decide (y1.1 ≤ y3.1), ())
   else
    some (false, ())) fun v4 =>
  bif v4.1 then
   some (8, ())
  else
   Option.bind (r1_IsName y1.2.1) fun r5 =>
   bif !r5.1 then
    some (5, ())
   else
    Option.bind (r9_checkQuantity y1.2.2.1 false) fun r6 =>
    bif r6.1 != 0 then
     some (1, ())
    else
     Option.bind (r1_IsName y1.2.2.2.1) fun r7 =>
     bif !r7.1 then
      some (5, ())
     else
      Option.bind (r9_checkPrice y1.2.2.2.2.1) fun r8 =>
      bif r8.1 != 0 then
       some (1, ())
      else
       Option.bind (r9_within y1.2.2.2.2.2 a0.2.2.2.1 3652059) fun r9 =>
       bif !r9.1 then
        some (1, ())
       else
        some (0, ())

abbrev r9_CheckOrder_x12 : Type := Int × Int × (List UInt8) × (List UInt8) × (List UInt8) × Int × Int × (List D_api_Line) × Unit
abbrev r9_CheckOrder_r12 : Type := ((Int × Unit) ⊕ Unit)
def r9_CheckOrder_b12  (x1 : r9_CheckOrder_x12) (again : r9_CheckOrder_x12 → Option r9_CheckOrder_r12) : Option r9_CheckOrder_r12 :=
 bif decide (x1.2.1 < x1.1) then
  Option.bind (r9_checkLine (x1.2.2.1, x1.2.2.2.1, x1.2.2.2.2.1, x1.2.2.2.2.2.1, x1.2.2.2.2.2.2.1, x1.2.2.2.2.2.2.2.1) x1.2.1) fun r2 =>
  bif r2.1 != 0 then
   some (Sum.inl (r2.1, ()))
  else
   again (x1.1, w64 (x1.2.1 + 1), x1.2.2.1, x1.2.2.2.1, x1.2.2.2.2.1, x1.2.2.2.2.2.1, x1.2.2.2.2.2.2.1, x1.2.2.2.2.2.2.2.1, ())
 else
  some (Sum.inr ())

def r9_CheckOrder (a0 : D_api_Order) : Option (Int × Unit) :=
 Option.bind (r1_IsName a0.1) fun r1 =>
 bif !r1.1 then
  some (5, ())
 else
  Option.bind (r1_IsName a0.2.1) fun r2 =>
  bif !r2.1 then
   some (5, ())
  else
   Option.bind (r1_IsName a0.2.2.1) fun r3 =>
   bif !r3.1 then
    some (5, ())
   else
    bif a0.2.1 == a0.2.2.1 then
     some (12, ())
    else
     Option.bind (r1_IsDay a0.2.2.2.1) fun r4 =>
     bif !r4.1 then
      some (1, ())
     else
      Option.bind (r9_within a0.2.2.2.2.1 0 1000) fun r5 =>
      bif !r5.1 then
       some (1, ())
      else
       bif ((List.length a0.2.2.2.2.2 : Int)) == 0 then
        some (9, ())
       else
        bif decide (((List.length a0.2.2.2.2.2 : Int)) > 500) then
         some (2, ())
        else
         joinB (β := (Int × Unit)) (γ := Unit) (
          iter (X := r9_CheckOrder_x12) (β := r9_CheckOrder_r12) (Int.natAbs ((List.length a0.2.2.2.2.2 : Int)) + (Int.natAbs (0 : Int) + (List.length a0.1 + (List.length a0.2.1 + (List.length a0.2.2.1 + (Int.natAbs a0.2.2.2.1 + (Int.natAbs a0.2.2.2.2.1 + (List.length a0.2.2.2.2.2 + 2)))))))) ((List.length a0.2.2.2.2.2 : Int), 0, a0.1, a0.2.1, a0.2.2.1, a0.2.2.2.1, a0.2.2.2.2.1, a0.2.2.2.2.2, ()) (r9_CheckOrder_b12)) fun _ =>
         some (0, ())

noncomputable def l9_OrderChecksMatchSpec (a0 : D_api_Order) (a1 : List D_api_Deed) (a2 : List D_api_Deed) : Option (Bool × Unit) :=
 Option.bind (order_MergeDeeds a1 a2) fun r1 =>
 Option.bind (r9_MergeDeeds a1 a2) fun r2 =>
 Option.bind (
  Option.bind (order_CheckOrder a0) fun r3 =>
  Option.bind (r9_CheckOrder a0) fun r4 =>
  bif r3.1 == r4.1 then
   Option.bind (order_CheckDeeds a1) fun r5 =>
   Option.bind (r9_CheckDeeds a1) fun r6 =>
   bif r5.1 == r6.1 then
    bif r1.2.1 == r2.2.1 then
     Option.bind (slices_Equal_api_Deed r1.1 r2.1) fun r7 =>
     bif r7.1 then
      Option.bind (l9_awake) fun r8 =>
      some (r8.1, ())
     else
      some (false, ())
    else
     some (false, ())
   else
    some (false, ())
  else
   some (false, ())) fun v9 =>
 some (v9.1, ())

end
end Go.Md
