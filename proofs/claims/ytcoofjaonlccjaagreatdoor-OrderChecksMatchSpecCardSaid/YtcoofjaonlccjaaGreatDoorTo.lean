/-
 The plain models of the functions that the law reaches, third part. No condition.
-/
import Derived.Test.YtcoofjaonlccjaaGreatDoorTn
import Derived.Test.YtcoofjaonlccjaaGreatDoorTd
import Derived.Lib.Atoi
import Derived.Lib.IndexBytes
set_option linter.all false
namespace Go.Md
open Go.Dn

def internal_stringslite_IndexByte (s : List UInt8) (c : Int) : Option (Int × Unit) := some (Lib.indexByte s c.toNat.toUInt8, ())

def splitOn1 (c : UInt8) : List UInt8 → List (List UInt8)
 | [] => [[]]
 | b :: r => bif b == c then [] :: splitOn1 c r else (match splitOn1 c r with
  | h :: t => (b :: h) :: t
  | [] => [[b]])
def strings_Split (s sep : List UInt8) : Option (List (List UInt8) × Unit) := match sep with
 | [c] => bif decide (s.length < 4294967281) then some (splitOn1 c s, ()) else none
 | _ => none

def isDig (b : UInt8) : Bool := decide (48 ≤ b.toNat) && decide (b.toNat ≤ 57)
def kit_Number (s : List UInt8) (most : Int) : Option (Int × Bool × Unit) :=
 bif decide (most < (s.length : Int)) then some (0, false, ())
 else bif decide (s.length ≤ 18) then (bif !(!(s == []) && s.all isDig) || (decide (1 < s.length) && s.head? == some 48) then some (0, false, ()) else (Lib.atoi s).bind fun n => some (n, true, ())) else none

def deedCf (a b : Int × Int × Int × Int × Int × (List UInt8) × (Int × Int) × (List UInt8) × (Int × Int) × Int × Int) : Int :=
 bif !(a.1 - b.1 == 0) then a.1 - b.1 else bif !(a.2.1 - b.2.1 == 0) then a.2.1 - b.2.1 else a.2.2.1 - b.2.2.1
def deedOk (a : Int × Int × Int × Int × Int × (List UInt8) × (Int × Int) × (List UInt8) × (Int × Int) × Int × Int) : Bool :=
 decide (a.1.natAbs < 4611686018427387904) && (decide (a.2.1.natAbs < 4611686018427387904) && decide (a.2.2.1.natAbs < 4611686018427387904))
noncomputable def slices_SortFunc_api_Deed (l : List (Int × Int × Int × Int × Int × (List UInt8) × (Int × Int) × (List UInt8) × (Int × Int) × Int × Int)) (_ : Unit) : Option (List (Int × Int × Int × Int × Int × (List UInt8) × (Int × Int) × (List UInt8) × (Int × Int) × Int × Int) × Unit) := sortFn deedOk deedCf l
abbrev slices_Grow_api_Deed (l : List (Int × Int × Int × Int × Int × (List UInt8) × (Int × Int) × (List UInt8) × (Int × Int) × Int × Int)) (n : Int) : Option (List (Int × Int × Int × Int × Int × (List UInt8) × (Int × Int) × (List UInt8) × (Int × Int) × Int × Int) × Unit) := growM 120 l n

noncomputable section
abbrev D_order_offer : Type := Int × Int × Int

abbrev t_interchangeref9_uses : Ty := (.st (.pair .bool (.pair .bool (.pair .bool (.pair .bool .bool)))))
abbrev D_interchangeref9_uses : Type := Bool × Bool × Bool × Bool × Bool

abbrev t_order_uses : Ty := (.st (.pair .bool (.pair .bool (.pair .bool (.pair .bool (.pair .bool .bool))))))
abbrev D_order_uses : Type := Bool × Bool × Bool × Bool × Bool × Bool

abbrev t_api_Line : Ty := (.st (.pair tI (.pair .str (.pair t_api_Decimal (.pair .str (.pair t_api_Decimal tI))))))
abbrev D_api_Line : Type := Int × (List UInt8) × D_api_Decimal × (List UInt8) × D_api_Decimal × Int

abbrev t_api_Deed : Ty := (.st (.pair tI (.pair tI (.pair tI (.pair tI (.pair tI (.pair .str (.pair t_api_Decimal (.pair .str (.pair t_api_Decimal (.pair tI tI)))))))))))
abbrev D_api_Deed : Type := Int × Int × Int × Int × Int × (List UInt8) × D_api_Decimal × (List UInt8) × D_api_Decimal × Int × Int

abbrev t_api_Order : Ty := (.st (.pair .str (.pair .str (.pair .str (.pair tI (.pair tI (.slice t_api_Line)))))))
abbrev D_api_Order : Type := (List UInt8) × (List UInt8) × (List UInt8) × Int × Int × (List D_api_Line)

abbrev D_order_line : Type := Int × (List UInt8) × (List UInt8) × Int × Int × Int × Int × D_api_Decimal × Int × Int × D_order_offer

abbrev D_api_Point : Type := Int × D_api_State

def order_lineFault (a0 : D_api_Order) (a1 : Int) : Option (Int × Unit) :=
 Option.bind (idx a0.2.2.2.2.2 a1) fun y1 =>
 Option.bind (kit_Outside y1.1 1 99999) fun r2 =>
 bif r2.1 then
  some (1, ())
 else
  Option.bind (
   bif decide (a1 > 0) then
    Option.bind (idx a0.2.2.2.2.2 (w64 (a1 - 1))) fun y3 =>
    some (decide (y1.1 ≤ y3.1), ())
   else
    some (false, ())) fun v4 =>
  bif v4.1 then
   some (8, ())
  else
   Option.bind (kit_IsName y1.2.1) fun r5 =>
   bif !r5.1 then
    some (5, ())
   else
    Option.bind (order_QuantityFault y1.2.2.1 false) fun r6 =>
    bif r6.1 != 0 then
     some (r6.1, ())
    else
     Option.bind (kit_IsName y1.2.2.2.1) fun r7 =>
     bif !r7.1 then
      some (5, ())
     else
      Option.bind (order_PriceFault y1.2.2.2.2.1) fun r8 =>
      bif r8.1 != 0 then
       some (r8.1, ())
      else
       Option.bind (kit_Outside y1.2.2.2.2.2 a0.2.2.2.1 3652059) fun r9 =>
       bif r9.1 then
        some (1, ())
       else
        some (0, ())

abbrev order_CheckOrder_x12 : Type := Int × Int × (List UInt8) × (List UInt8) × (List UInt8) × Int × Int × (List D_api_Line) × Unit
abbrev order_CheckOrder_r12 : Type := ((Int × Unit) ⊕ Unit)
def order_CheckOrder_b12  (x1 : order_CheckOrder_x12) (again : order_CheckOrder_x12 → Option order_CheckOrder_r12) : Option order_CheckOrder_r12 :=
 bif decide (x1.2.1 < x1.1) then
  Option.bind (order_lineFault (x1.2.2.1, x1.2.2.2.1, x1.2.2.2.2.1, x1.2.2.2.2.2.1, x1.2.2.2.2.2.2.1, x1.2.2.2.2.2.2.2.1) x1.2.1) fun r2 =>
  bif r2.1 != 0 then
   some (Sum.inl (r2.1, ()))
  else
   again (x1.1, w64 (x1.2.1 + 1), x1.2.2.1, x1.2.2.2.1, x1.2.2.2.2.1, x1.2.2.2.2.2.1, x1.2.2.2.2.2.2.1, x1.2.2.2.2.2.2.2.1, ())
 else
  some (Sum.inr ())

def order_CheckOrder (a0 : D_api_Order) : Option (Int × Unit) :=
 Option.bind (kit_IsName a0.1) fun r1 =>
 bif !r1.1 then
  some (5, ())
 else
  Option.bind (kit_IsName a0.2.1) fun r2 =>
  bif !r2.1 then
   some (5, ())
  else
   Option.bind (kit_IsName a0.2.2.1) fun r3 =>
   bif !r3.1 then
    some (5, ())
   else
    bif a0.2.1 == a0.2.2.1 then
     some (12, ())
    else
     Option.bind (kit_IsDay a0.2.2.2.1) fun r4 =>
     bif !r4.1 then
      some (1, ())
     else
      Option.bind (kit_Outside a0.2.2.2.2.1 0 1000) fun r5 =>
      bif r5.1 then
       some (1, ())
      else
       bif ((List.length a0.2.2.2.2.2 : Int)) == 0 then
        some (9, ())
       else
        bif decide (((List.length a0.2.2.2.2.2 : Int)) > 500) then
         some (2, ())
        else
         joinB (β := (Int × Unit)) (γ := Unit) (
          iter (X := order_CheckOrder_x12) (β := order_CheckOrder_r12) (Int.natAbs ((List.length a0.2.2.2.2.2 : Int)) + (Int.natAbs (0 : Int) + (List.length a0.1 + (List.length a0.2.1 + (List.length a0.2.2.1 + (Int.natAbs a0.2.2.2.1 + (Int.natAbs a0.2.2.2.2.1 + (List.length a0.2.2.2.2.2 + 2)))))))) ((List.length a0.2.2.2.2.2 : Int), 0, a0.1, a0.2.1, a0.2.2.1, a0.2.2.2.1, a0.2.2.2.2.1, a0.2.2.2.2.2, ()) (order_CheckOrder_b12)) fun _ =>
         some (0, ())

def order_isSellers (a0 : Int) : Option (Bool × Unit) :=
 bif a0 == 5 then
  some (true, ())
 else
  bif a0 == 6 then
   some (true, ())
  else
   bif a0 == 7 then
    some (true, ())
   else
    some (a0 == 9, ())

def order_usesOf (a0 : Int) : Option (D_order_uses × Unit) :=
 bif a0 == 1 then
  some ((true, true, true, true, true, false), ())
 else
  bif a0 == 3 then
   some ((false, false, false, false, true, false), ())
  else
   bif a0 == 4 then
    some ((false, false, false, true, false, false), ())
   else
    bif a0 == 5 then
     bif a0 == 5 then
      some ((false, false, false, false, false, true), ())
     else
      bif a0 == 7 then
       some ((false, true, false, false, true, false), ())
      else
       some ((false, true, false, false, false, false), ())
    else
     bif a0 == 6 then
      bif a0 == 6 then
       some ((false, false, false, false, false, true), ())
      else
       bif a0 == 7 then
        some ((false, true, false, false, true, false), ())
       else
        some ((false, true, false, false, false, false), ())
     else
      bif a0 == 8 then
       some ((false, false, false, false, false, true), ())
      else
       bif a0 == 7 then
        some ((false, true, false, false, true, false), ())
       else
        some ((false, true, false, false, false, false), ())

def order_usedFault (a0 : D_api_Deed) : Option (Int × Unit) :=
 Option.bind (order_usesOf a0.2.2.2.1) fun r1 =>
 joinB (β := (Int × Unit)) (γ := (Int × Int × Int × Int × Int × (List UInt8) × Int × Int × (List UInt8) × Int × Int × Int × Int × Bool × Bool × Bool × Bool × Bool × Bool × Unit)) (
  bif r1.1.2.1 then
   Option.bind (order_QuantityFault a0.2.2.2.2.2.2.1 (a0.2.2.2.1 == 2)) fun r2 =>
   bif r2.1 != 0 then
    some (Sum.inl (r2.1, ()))
   else
    some (Sum.inr (a0.1, a0.2.1, a0.2.2.1, a0.2.2.2.1, a0.2.2.2.2.1, a0.2.2.2.2.2.1, a0.2.2.2.2.2.2.1.1, a0.2.2.2.2.2.2.1.2, a0.2.2.2.2.2.2.2.1, a0.2.2.2.2.2.2.2.2.1.1, a0.2.2.2.2.2.2.2.2.1.2, a0.2.2.2.2.2.2.2.2.2.1, a0.2.2.2.2.2.2.2.2.2.2, r1.1.1, r1.1.2.1, r1.1.2.2.1, r1.1.2.2.2.1, r1.1.2.2.2.2.1, r1.1.2.2.2.2.2, ()))
  else
   some (Sum.inr (a0.1, a0.2.1, a0.2.2.1, a0.2.2.2.1, a0.2.2.2.2.1, a0.2.2.2.2.2.1, a0.2.2.2.2.2.2.1.1, a0.2.2.2.2.2.2.1.2, a0.2.2.2.2.2.2.2.1, a0.2.2.2.2.2.2.2.2.1.1, a0.2.2.2.2.2.2.2.2.1.2, a0.2.2.2.2.2.2.2.2.2.1, a0.2.2.2.2.2.2.2.2.2.2, r1.1.1, r1.1.2.1, r1.1.2.2.1, r1.1.2.2.2.1, r1.1.2.2.2.2.1, r1.1.2.2.2.2.2, ()))) fun v3 =>
 joinB (β := (Int × Unit)) (γ := (Int × Int × Int × Int × Int × (List UInt8) × Int × Int × (List UInt8) × Int × Int × Int × Int × Bool × Bool × Bool × Bool × Bool × Bool × Unit)) (
  bif v3.2.2.2.2.2.2.2.2.2.2.2.2.2.2.2.2.1 then
   Option.bind (order_PriceFault (v3.2.2.2.2.2.2.2.2.2.1, v3.2.2.2.2.2.2.2.2.2.2.1)) fun r4 =>
   bif r4.1 != 0 then
    some (Sum.inl (r4.1, ()))
   else
    some (Sum.inr (v3.1, v3.2.1, v3.2.2.1, v3.2.2.2.1, v3.2.2.2.2.1, v3.2.2.2.2.2.1, v3.2.2.2.2.2.2.1, v3.2.2.2.2.2.2.2.1, v3.2.2.2.2.2.2.2.2.1, v3.2.2.2.2.2.2.2.2.2.1, v3.2.2.2.2.2.2.2.2.2.2.1, v3.2.2.2.2.2.2.2.2.2.2.2.1, v3.2.2.2.2.2.2.2.2.2.2.2.2.1, v3.2.2.2.2.2.2.2.2.2.2.2.2.2.1, v3.2.2.2.2.2.2.2.2.2.2.2.2.2.2.1, v3.2.2.2.2.2.2.2.2.2.2.2.2.2.2.2.1, v3.2.2.2.2.2.2.2.2.2.2.2.2.2.2.2.2.1, v3.2.2.2.2.2.2.2.2.2.2.2.2.2.2.2.2.2.1, v3.2.2.2.2.2.2.2.2.2.2.2.2.2.2.2.2.2.2.1, ()))
  else
   some (Sum.inr (v3.1, v3.2.1, v3.2.2.1, v3.2.2.2.1, v3.2.2.2.2.1, v3.2.2.2.2.2.1, v3.2.2.2.2.2.2.1, v3.2.2.2.2.2.2.2.1, v3.2.2.2.2.2.2.2.2.1, v3.2.2.2.2.2.2.2.2.2.1, v3.2.2.2.2.2.2.2.2.2.2.1, v3.2.2.2.2.2.2.2.2.2.2.2.1, v3.2.2.2.2.2.2.2.2.2.2.2.2.1, v3.2.2.2.2.2.2.2.2.2.2.2.2.2.1, v3.2.2.2.2.2.2.2.2.2.2.2.2.2.2.1, v3.2.2.2.2.2.2.2.2.2.2.2.2.2.2.2.1, v3.2.2.2.2.2.2.2.2.2.2.2.2.2.2.2.2.1, v3.2.2.2.2.2.2.2.2.2.2.2.2.2.2.2.2.2.1, v3.2.2.2.2.2.2.2.2.2.2.2.2.2.2.2.2.2.2.1, ()))) fun v5 =>
 Option.bind (
  bif v5.2.2.2.2.2.2.2.2.2.2.2.2.2.2.2.2.2.1 then
   Option.bind (kit_IsDay v5.2.2.2.2.2.2.2.2.2.2.2.1) fun r6 =>
   some (!r6.1, ())
  else
   some (false, ())) fun v7 =>
 bif v7.1 then
  some (1, ())
 else
  Option.bind (
   bif v5.2.2.2.2.2.2.2.2.2.2.2.2.2.1 then
    Option.bind (kit_IsName v5.2.2.2.2.2.1) fun r8 =>
    bif !r8.1 then
     some (true, ())
    else
     bif v5.2.2.2.2.2.2.2.2.2.2.2.2.2.2.2.1 then
      Option.bind (kit_IsName v5.2.2.2.2.2.2.2.2.1) fun r9 =>
      some (!r9.1, ())
     else
      some (false, ())
   else
    bif v5.2.2.2.2.2.2.2.2.2.2.2.2.2.2.2.1 then
     Option.bind (kit_IsName v5.2.2.2.2.2.2.2.2.1) fun r10 =>
     some (!r10.1, ())
    else
     some (false, ())) fun v11 =>
  bif v11.1 then
   some (5, ())
  else
   Option.bind (
    bif v5.2.2.2.2.2.2.2.2.2.2.2.2.2.2.2.2.2.2.1 then
     Option.bind (kit_Outside v5.2.2.2.2.2.2.2.2.2.2.2.2.1 1 2000) fun r12 =>
     some (r12.1, ())
    else
     some (false, ())) fun v13 =>
   bif v13.1 then
    some (1, ())
   else
    Option.bind (
     bif !v5.2.2.2.2.2.2.2.2.2.2.2.2.2.1 then
      bif !(v5.2.2.2.2.2.1 == []) then
       some (true, ())
      else
       bif !v5.2.2.2.2.2.2.2.2.2.2.2.2.2.2.1 then
        bif !((v5.2.2.2.2.2.2.1 == 0) && ((v5.2.2.2.2.2.2.2.1 == 0) && true)) then
         some (true, ())
        else
         bif !v5.2.2.2.2.2.2.2.2.2.2.2.2.2.2.2.1 then
          bif !(v5.2.2.2.2.2.2.2.2.1 == []) then
           some (true, ())
          else
           bif !v5.2.2.2.2.2.2.2.2.2.2.2.2.2.2.2.2.1 then
            bif !((v5.2.2.2.2.2.2.2.2.2.1 == 0) && ((v5.2.2.2.2.2.2.2.2.2.2.1 == 0) && true)) then
             some (true, ())
            else
             bif !v5.2.2.2.2.2.2.2.2.2.2.2.2.2.2.2.2.2.1 then
              bif v5.2.2.2.2.2.2.2.2.2.2.2.1 != 0 then
               some (true, ())
              else
               bif !v5.2.2.2.2.2.2.2.2.2.2.2.2.2.2.2.2.2.2.1 then
                some (v5.2.2.2.2.2.2.2.2.2.2.2.2.1 != 0, ())
               else
                some (false, ())
             else
              bif !v5.2.2.2.2.2.2.2.2.2.2.2.2.2.2.2.2.2.2.1 then
               some (v5.2.2.2.2.2.2.2.2.2.2.2.2.1 != 0, ())
              else
               some (false, ())
           else
            bif !v5.2.2.2.2.2.2.2.2.2.2.2.2.2.2.2.2.2.1 then
             bif v5.2.2.2.2.2.2.2.2.2.2.2.1 != 0 then
              some (true, ())
             else
              bif !v5.2.2.2.2.2.2.2.2.2.2.2.2.2.2.2.2.2.2.1 then
               some (v5.2.2.2.2.2.2.2.2.2.2.2.2.1 != 0, ())
              else
               some (false, ())
            else
             bif !v5.2.2.2.2.2.2.2.2.2.2.2.2.2.2.2.2.2.2.1 then
              some (v5.2.2.2.2.2.2.2.2.2.2.2.2.1 != 0, ())
             else
              some (false, ())
         else
          bif !v5.2.2.2.2.2.2.2.2.2.2.2.2.2.2.2.2.1 then
           bif !((v5.2.2.2.2.2.2.2.2.2.1 == 0) && ((v5.2.2.2.2.2.2.2.2.2.2.1 == 0) && true)) then
            some (true, ())
           else
            bif !v5.2.2.2.2.2.2.2.2.2.2.2.2.2.2.2.2.2.1 then
             bif v5.2.2.2.2.2.2.2.2.2.2.2.1 != 0 then
              some (true, ())
             else
              bif !v5.2.2.2.2.2.2.2.2.2.2.2.2.2.2.2.2.2.2.1 then
               some (v5.2.2.2.2.2.2.2.2.2.2.2.2.1 != 0, ())
              else
               some (false, ())
            else
             bif !v5.2.2.2.2.2.2.2.2.2.2.2.2.2.2.2.2.2.2.1 then
              some (v5.2.2.2.2.2.2.2.2.2.2.2.2.1 != 0, ())
             else
              some (false, ())
          else
           bif !v5.2.2.2.2.2.2.2.2.2.2.2.2.2.2.2.2.2.1 then
            bif v5.2.2.2.2.2.2.2.2.2.2.2.1 != 0 then
             some (true, ())
            else
             bif !v5.2.2.2.2.2.2.2.2.2.2.2.2.2.2.2.2.2.2.1 then
              some (v5.2.2.2.2.2.2.2.2.2.2.2.2.1 != 0, ())
             else
              some (false, ())
           else
            bif !v5.2.2.2.2.2.2.2.2.2.2.2.2.2.2.2.2.2.2.1 then
             some (v5.2.2.2.2.2.2.2.2.2.2.2.2.1 != 0, ())
            else
             some (false, ())
       else
        bif !v5.2.2.2.2.2.2.2.2.2.2.2.2.2.2.2.1 then
         bif !(v5.2.2.2.2.2.2.2.2.1 == []) then
          some (true, ())
         else
          bif !v5.2.2.2.2.2.2.2.2.2.2.2.2.2.2.2.2.1 then
           bif !((v5.2.2.2.2.2.2.2.2.2.1 == 0) && ((v5.2.2.2.2.2.2.2.2.2.2.1 == 0) && true)) then
            some (true, ())
           else
            bif !v5.2.2.2.2.2.2.2.2.2.2.2.2.2.2.2.2.2.1 then
             bif v5.2.2.2.2.2.2.2.2.2.2.2.1 != 0 then
              some (true, ())
             else
              bif !v5.2.2.2.2.2.2.2.2.2.2.2.2.2.2.2.2.2.2.1 then
               some (v5.2.2.2.2.2.2.2.2.2.2.2.2.1 != 0, ())
              else
               some (false, ())
            else
             bif !v5.2.2.2.2.2.2.2.2.2.2.2.2.2.2.2.2.2.2.1 then
              some (v5.2.2.2.2.2.2.2.2.2.2.2.2.1 != 0, ())
             else
              some (false, ())
          else
           bif !v5.2.2.2.2.2.2.2.2.2.2.2.2.2.2.2.2.2.1 then
            bif v5.2.2.2.2.2.2.2.2.2.2.2.1 != 0 then
             some (true, ())
            else
             bif !v5.2.2.2.2.2.2.2.2.2.2.2.2.2.2.2.2.2.2.1 then
              some (v5.2.2.2.2.2.2.2.2.2.2.2.2.1 != 0, ())
             else
              some (false, ())
           else
            bif !v5.2.2.2.2.2.2.2.2.2.2.2.2.2.2.2.2.2.2.1 then
             some (v5.2.2.2.2.2.2.2.2.2.2.2.2.1 != 0, ())
            else
             some (false, ())
        else
         bif !v5.2.2.2.2.2.2.2.2.2.2.2.2.2.2.2.2.1 then
          bif !((v5.2.2.2.2.2.2.2.2.2.1 == 0) && ((v5.2.2.2.2.2.2.2.2.2.2.1 == 0) && true)) then
           some (true, ())
          else
           bif !v5.2.2.2.2.2.2.2.2.2.2.2.2.2.2.2.2.2.1 then
            bif v5.2.2.2.2.2.2.2.2.2.2.2.1 != 0 then
             some (true, ())
            else
             bif !v5.2.2.2.2.2.2.2.2.2.2.2.2.2.2.2.2.2.2.1 then
              some (v5.2.2.2.2.2.2.2.2.2.2.2.2.1 != 0, ())
             else
              some (false, ())
           else
            bif !v5.2.2.2.2.2.2.2.2.2.2.2.2.2.2.2.2.2.2.1 then
             some (v5.2.2.2.2.2.2.2.2.2.2.2.2.1 != 0, ())
            else
             some (false, ())
         else
          bif !v5.2.2.2.2.2.2.2.2.2.2.2.2.2.2.2.2.2.1 then
           bif v5.2.2.2.2.2.2.2.2.2.2.2.1 != 0 then
            some (true, ())
           else
            bif !v5.2.2.2.2.2.2.2.2.2.2.2.2.2.2.2.2.2.2.1 then
             some (v5.2.2.2.2.2.2.2.2.2.2.2.2.1 != 0, ())
            else
             some (false, ())
          else
           bif !v5.2.2.2.2.2.2.2.2.2.2.2.2.2.2.2.2.2.2.1 then
            some (v5.2.2.2.2.2.2.2.2.2.2.2.2.1 != 0, ())
           else
            some (false, ())
     else
      bif !v5.2.2.2.2.2.2.2.2.2.2.2.2.2.2.1 then
       bif !((v5.2.2.2.2.2.2.1 == 0) && ((v5.2.2.2.2.2.2.2.1 == 0) && true)) then
        some (true, ())
       else
        bif !v5.2.2.2.2.2.2.2.2.2.2.2.2.2.2.2.1 then
         bif !(v5.2.2.2.2.2.2.2.2.1 == []) then
          some (true, ())
         else
          bif !v5.2.2.2.2.2.2.2.2.2.2.2.2.2.2.2.2.1 then
           bif !((v5.2.2.2.2.2.2.2.2.2.1 == 0) && ((v5.2.2.2.2.2.2.2.2.2.2.1 == 0) && true)) then
            some (true, ())
           else
            bif !v5.2.2.2.2.2.2.2.2.2.2.2.2.2.2.2.2.2.1 then
             bif v5.2.2.2.2.2.2.2.2.2.2.2.1 != 0 then
              some (true, ())
             else
              bif !v5.2.2.2.2.2.2.2.2.2.2.2.2.2.2.2.2.2.2.1 then
               some (v5.2.2.2.2.2.2.2.2.2.2.2.2.1 != 0, ())
              else
               some (false, ())
            else
             bif !v5.2.2.2.2.2.2.2.2.2.2.2.2.2.2.2.2.2.2.1 then
              some (v5.2.2.2.2.2.2.2.2.2.2.2.2.1 != 0, ())
             else
              some (false, ())
          else
           bif !v5.2.2.2.2.2.2.2.2.2.2.2.2.2.2.2.2.2.1 then
            bif v5.2.2.2.2.2.2.2.2.2.2.2.1 != 0 then
             some (true, ())
            else
             bif !v5.2.2.2.2.2.2.2.2.2.2.2.2.2.2.2.2.2.2.1 then
              some (v5.2.2.2.2.2.2.2.2.2.2.2.2.1 != 0, ())
             else
              some (false, ())
           else
            bif !v5.2.2.2.2.2.2.2.2.2.2.2.2.2.2.2.2.2.2.1 then
             some (v5.2.2.2.2.2.2.2.2.2.2.2.2.1 != 0, ())
            else
             some (false, ())
        else
         bif !v5.2.2.2.2.2.2.2.2.2.2.2.2.2.2.2.2.1 then
          bif !((v5.2.2.2.2.2.2.2.2.2.1 == 0) && ((v5.2.2.2.2.2.2.2.2.2.2.1 == 0) && true)) then
           some (true, ())
          else
           bif !v5.2.2.2.2.2.2.2.2.2.2.2.2.2.2.2.2.2.1 then
            bif v5.2.2.2.2.2.2.2.2.2.2.2.1 != 0 then
             some (true, ())
            else
             bif !v5.2.2.2.2.2.2.2.2.2.2.2.2.2.2.2.2.2.2.1 then
              some (v5.2.2.2.2.2.2.2.2.2.2.2.2.1 != 0, ())
             else
              some (false, ())
           else
            bif !v5.2.2.2.2.2.2.2.2.2.2.2.2.2.2.2.2.2.2.1 then
             some (v5.2.2.2.2.2.2.2.2.2.2.2.2.1 != 0, ())
            else
             some (false, ())
         else
          bif !v5.2.2.2.2.2.2.2.2.2.2.2.2.2.2.2.2.2.1 then
           bif v5.2.2.2.2.2.2.2.2.2.2.2.1 != 0 then
            some (true, ())
           else
            bif !v5.2.2.2.2.2.2.2.2.2.2.2.2.2.2.2.2.2.2.1 then
             some (v5.2.2.2.2.2.2.2.2.2.2.2.2.1 != 0, ())
            else
             some (false, ())
          else
           bif !v5.2.2.2.2.2.2.2.2.2.2.2.2.2.2.2.2.2.2.1 then
            some (v5.2.2.2.2.2.2.2.2.2.2.2.2.1 != 0, ())
           else
            some (false, ())
      else
       bif !v5.2.2.2.2.2.2.2.2.2.2.2.2.2.2.2.1 then
        bif !(v5.2.2.2.2.2.2.2.2.1 == []) then
         some (true, ())
        else
         bif !v5.2.2.2.2.2.2.2.2.2.2.2.2.2.2.2.2.1 then
          bif !((v5.2.2.2.2.2.2.2.2.2.1 == 0) && ((v5.2.2.2.2.2.2.2.2.2.2.1 == 0) && true)) then
           some (true, ())
          else
           bif !v5.2.2.2.2.2.2.2.2.2.2.2.2.2.2.2.2.2.1 then
            bif v5.2.2.2.2.2.2.2.2.2.2.2.1 != 0 then
             some (true, ())
            else
             bif !v5.2.2.2.2.2.2.2.2.2.2.2.2.2.2.2.2.2.2.1 then
              some (v5.2.2.2.2.2.2.2.2.2.2.2.2.1 != 0, ())
             else
              some (false, ())
           else
            bif !v5.2.2.2.2.2.2.2.2.2.2.2.2.2.2.2.2.2.2.1 then
             some (v5.2.2.2.2.2.2.2.2.2.2.2.2.1 != 0, ())
            else
             some (false, ())
         else
          bif !v5.2.2.2.2.2.2.2.2.2.2.2.2.2.2.2.2.2.1 then
           bif v5.2.2.2.2.2.2.2.2.2.2.2.1 != 0 then
            some (true, ())
           else
            bif !v5.2.2.2.2.2.2.2.2.2.2.2.2.2.2.2.2.2.2.1 then
             some (v5.2.2.2.2.2.2.2.2.2.2.2.2.1 != 0, ())
            else
             some (false, ())
          else
           bif !v5.2.2.2.2.2.2.2.2.2.2.2.2.2.2.2.2.2.2.1 then
            some (v5.2.2.2.2.2.2.2.2.2.2.2.2.1 != 0, ())
           else
            some (false, ())
       else
        bif !v5.2.2.2.2.2.2.2.2.2.2.2.2.2.2.2.2.1 then
         bif !((v5.2.2.2.2.2.2.2.2.2.1 == 0) && ((v5.2.2.2.2.2.2.2.2.2.2.1 == 0) && true)) then
          some (true, ())
         else
          bif !v5.2.2.2.2.2.2.2.2.2.2.2.2.2.2.2.2.2.1 then
           bif v5.2.2.2.2.2.2.2.2.2.2.2.1 != 0 then
            some (true, ())
           else
            bif !v5.2.2.2.2.2.2.2.2.2.2.2.2.2.2.2.2.2.2.1 then
             some (v5.2.2.2.2.2.2.2.2.2.2.2.2.1 != 0, ())
            else
             some (false, ())
          else
           bif !v5.2.2.2.2.2.2.2.2.2.2.2.2.2.2.2.2.2.2.1 then
            some (v5.2.2.2.2.2.2.2.2.2.2.2.2.1 != 0, ())
           else
            some (false, ())
        else
         bif !v5.2.2.2.2.2.2.2.2.2.2.2.2.2.2.2.2.2.1 then
          bif v5.2.2.2.2.2.2.2.2.2.2.2.1 != 0 then
           some (true, ())
          else
           bif !v5.2.2.2.2.2.2.2.2.2.2.2.2.2.2.2.2.2.2.1 then
            some (v5.2.2.2.2.2.2.2.2.2.2.2.2.1 != 0, ())
           else
            some (false, ())
         else
          bif !v5.2.2.2.2.2.2.2.2.2.2.2.2.2.2.2.2.2.2.1 then
           some (v5.2.2.2.2.2.2.2.2.2.2.2.2.1 != 0, ())
          else
           some (false, ())) fun v14 =>
    bif v14.1 then
     some (3, ())
    else
     some (0, ())

def order_deedFault (a0 : D_api_Deed) : Option (Int × Unit) :=
 Option.bind (kit_IsDay a0.1) fun r1 =>
 bif !r1.1 then
  some (1, ())
 else
  Option.bind (kit_Outside a0.2.1 1 2) fun r2 =>
  bif r2.1 then
   some (4, ())
  else
   Option.bind (kit_Outside a0.2.2.1 1 2000) fun r3 =>
   bif r3.1 then
    some (1, ())
   else
    Option.bind (kit_Outside a0.2.2.2.1 1 11) fun r4 =>
    bif r4.1 then
     some (4, ())
    else
     Option.bind (order_isSellers a0.2.2.2.1) fun r5 =>
     bif !(r5.1 == (a0.2.1 == 2)) then
      some (4, ())
     else
      Option.bind (kit_Outside a0.2.2.2.2.1 1 99999) fun r6 =>
      bif r6.1 then
       some (1, ())
      else
       Option.bind (order_usedFault a0) fun r7 =>
       some (r7.1, ())

abbrev order_compareDeeds_x2 : Type := Int × Int × (List Int) × Unit
abbrev order_compareDeeds_r2 : Type := ((Int × Unit) ⊕ Unit)
def order_compareDeeds_b2  (x1 : order_compareDeeds_x2) (again : order_compareDeeds_x2 → Option order_compareDeeds_r2) : Option order_compareDeeds_r2 :=
 bif decide (x1.2.1 < x1.1) then
  chk (decide (0 ≤ x1.2.1) && decide (x1.2.1 < (List.length x1.2.2.1 : Int))) <|
  Option.bind (x1.2.2.1[x1.2.1.toNat]?) fun y2 =>
  bif y2 != 0 then
   some (Sum.inl (y2, ()))
  else
   again (x1.1, w64 (x1.2.1 + 1), x1.2.2.1, ())
 else
  some (Sum.inr ())

def order_compareDeeds (a0 : D_api_Deed) (a1 : D_api_Deed) : Option (Int × Unit) :=
 joinB (β := (Int × Unit)) (γ := Unit) (
  iter (X := order_compareDeeds_x2) (β := order_compareDeeds_r2) (Int.natAbs ((List.length [(w64 (a0.1 - a1.1)), (w64 (a0.2.1 - a1.2.1)), (w64 (a0.2.2.1 - a1.2.2.1))] : Int)) + (Int.natAbs (0 : Int) + (List.length ([(w64 (a0.1 - a1.1)), (w64 (a0.2.1 - a1.2.1)), (w64 (a0.2.2.1 - a1.2.2.1))] : List Int) + 2))) ((List.length [(w64 (a0.1 - a1.1)), (w64 (a0.2.1 - a1.2.1)), (w64 (a0.2.2.1 - a1.2.2.1))] : Int), 0, [(w64 (a0.1 - a1.1)), (w64 (a0.2.1 - a1.2.1)), (w64 (a0.2.2.1 - a1.2.2.1))], ()) (order_compareDeeds_b2)) fun _ =>
 some (0, ())

abbrev order_CheckDeeds_x5 : Type := (List D_api_Deed) × (List D_api_Deed) × Int × Int × Int × Int × Int × Unit
abbrev order_CheckDeeds_r5 : Type := ((Int × Unit) ⊕ Unit)
def order_CheckDeeds_b5  (x1 : order_CheckDeeds_x5) (again : order_CheckDeeds_x5 → Option order_CheckDeeds_r5) : Option order_CheckDeeds_r5 :=
 bif decide (x1.2.2.2.1 < x1.2.2.1) then
  Option.bind (idx x1.2.1 x1.2.2.2.1) fun y2 =>
  Option.bind (order_deedFault y2) fun r3 =>
  bif r3.1 != 0 then
   some (Sum.inl (r3.1, ()))
  else
   Option.bind (
    bif decide (x1.2.2.2.1 > 0) then
     Option.bind (idx x1.1 (w64 (x1.2.2.2.1 - 1))) fun y4 =>
     Option.bind (order_compareDeeds y4 y2) fun r5 =>
     some (decide (r5.1 ≥ 0), ())
    else
     some (false, ())) fun v6 =>
   bif v6.1 then
    some (Sum.inl (8, ()))
   else
    bif y2.2.1 == 0 then
     bif y2.2.2.1 != (w64 (x1.2.2.2.2.1 + 1)) then
      some (Sum.inl (9, ()))
     else
      bif y2.2.1 == 0 then
       again (x1.1, x1.2.1, x1.2.2.1, w64 (x1.2.2.2.1 + 1), y2.2.2.1, x1.2.2.2.2.2.1, x1.2.2.2.2.2.2.1, ())
      else
       bif y2.2.1 == 1 then
        again (x1.1, x1.2.1, x1.2.2.1, w64 (x1.2.2.2.1 + 1), x1.2.2.2.2.1, y2.2.2.1, x1.2.2.2.2.2.2.1, ())
       else
        bif y2.2.1 == 2 then
         again (x1.1, x1.2.1, x1.2.2.1, w64 (x1.2.2.2.1 + 1), x1.2.2.2.2.1, x1.2.2.2.2.2.1, y2.2.2.1, ())
        else
         none
    else
     bif y2.2.1 == 1 then
      bif y2.2.2.1 != (w64 (x1.2.2.2.2.2.1 + 1)) then
       some (Sum.inl (9, ()))
      else
       bif y2.2.1 == 0 then
        again (x1.1, x1.2.1, x1.2.2.1, w64 (x1.2.2.2.1 + 1), y2.2.2.1, x1.2.2.2.2.2.1, x1.2.2.2.2.2.2.1, ())
       else
        bif y2.2.1 == 1 then
         again (x1.1, x1.2.1, x1.2.2.1, w64 (x1.2.2.2.1 + 1), x1.2.2.2.2.1, y2.2.2.1, x1.2.2.2.2.2.2.1, ())
        else
         bif y2.2.1 == 2 then
          again (x1.1, x1.2.1, x1.2.2.1, w64 (x1.2.2.2.1 + 1), x1.2.2.2.2.1, x1.2.2.2.2.2.1, y2.2.2.1, ())
         else
          none
     else
      bif y2.2.1 == 2 then
       bif y2.2.2.1 != (w64 (x1.2.2.2.2.2.2.1 + 1)) then
        some (Sum.inl (9, ()))
       else
        bif y2.2.1 == 0 then
         again (x1.1, x1.2.1, x1.2.2.1, w64 (x1.2.2.2.1 + 1), y2.2.2.1, x1.2.2.2.2.2.1, x1.2.2.2.2.2.2.1, ())
        else
         bif y2.2.1 == 1 then
          again (x1.1, x1.2.1, x1.2.2.1, w64 (x1.2.2.2.1 + 1), x1.2.2.2.2.1, y2.2.2.1, x1.2.2.2.2.2.2.1, ())
         else
          bif y2.2.1 == 2 then
           again (x1.1, x1.2.1, x1.2.2.1, w64 (x1.2.2.2.1 + 1), x1.2.2.2.2.1, x1.2.2.2.2.2.1, y2.2.2.1, ())
          else
           none
      else
       none
 else
  some (Sum.inr ())

def order_CheckDeeds (a0 : List D_api_Deed) : Option (Int × Unit) :=
 bif decide (((List.length a0 : Int)) > 2000) then
  some (2, ())
 else
  joinB (β := (Int × Unit)) (γ := Unit) (
   iter (X := order_CheckDeeds_x5) (β := order_CheckDeeds_r5) (List.length a0 + (List.length a0 + (Int.natAbs ((List.length a0 : Int)) + (Int.natAbs (0 : Int) + (Int.natAbs (0 : Int) + (Int.natAbs (0 : Int) + (Int.natAbs (0 : Int) + 2))))))) (a0, a0, (List.length a0 : Int), 0, 0, 0, 0, ()) (order_CheckDeeds_b5)) fun _ =>
  some (0, ())

def internal_stringslite_HasSuffix (a0 : List UInt8) (a1 : List UInt8) : Option (Bool × Unit) :=
 bif decide (((List.length a0 : Int)) ≥ ((List.length a1 : Int))) then
  chk (decide (0 ≤ (w64 (((List.length a0 : Int)) - ((List.length a1 : Int))))) && decide ((w64 (((List.length a0 : Int)) - ((List.length a1 : Int)))) ≤ ((List.length a0 : Int))) && decide (((List.length a0 : Int)) ≤ (List.length a0 : Int))) <|
  some ((List.drop (Int.toNat (w64 (((List.length a0 : Int)) - ((List.length a1 : Int))))) (List.take (Int.toNat ((List.length a0 : Int))) a0)) == a1, ())
 else
  some (false, ())

def internal_stringslite_CutSuffix (a0 : List UInt8) (a1 : List UInt8) : Option ((List UInt8) × Bool × Unit) :=
 Option.bind (internal_stringslite_HasSuffix a0 a1) fun r1 =>
 bif !r1.1 then
  some (a0, false, ())
 else
  chk (decide (0 ≤ (0 : Int)) && decide ((0 : Int) ≤ (w64 (((List.length a0 : Int)) - ((List.length a1 : Int))))) && decide ((w64 (((List.length a0 : Int)) - ((List.length a1 : Int)))) ≤ (List.length a0 : Int))) <|
  some (List.drop 0 (List.take (Int.toNat (w64 (((List.length a0 : Int)) - ((List.length a1 : Int))))) a0), true, ())

def strings_CutSuffix (a0 : List UInt8) (a1 : List UInt8) : Option ((List UInt8) × Bool × Unit) :=
 Option.bind (internal_stringslite_CutSuffix a0 a1) fun r1 =>
 some (r1.1, r1.2.1, ())

def kit_Lines (a0 : List UInt8) : Option ((List (List UInt8)) × Bool × Unit) :=
 bif a0 == [] then
  some ([], true, ())
 else
  Option.bind (strings_CutSuffix a0 [10]) fun r1 =>
  Option.bind (strings_Split r1.1 [10]) fun r2 =>
  some (r2.1, r1.2.1, ())

abbrev kit_Words_x3 : Type := Int × Int × (List (List UInt8)) × Unit
abbrev kit_Words_r3 : Type := (((List (List UInt8)) × Bool × Unit) ⊕ ((List (List UInt8)) × Unit))
def kit_Words_b3  (x1 : kit_Words_x3) (again : kit_Words_x3 → Option kit_Words_r3) : Option kit_Words_r3 :=
 bif decide (x1.2.1 < x1.1) then
  chk (decide (0 ≤ x1.2.1) && decide (x1.2.1 < (List.length x1.2.2.1 : Int))) <|
  Option.bind (x1.2.2.1[x1.2.1.toNat]?) fun y2 =>
  bif y2 == [] then
   some (Sum.inl ([], false, ()))
  else
   again (x1.1, w64 (x1.2.1 + 1), x1.2.2.1, ())
 else
  some (Sum.inr (x1.2.2.1, ()))

def kit_Words (a0 : List UInt8) : Option ((List (List UInt8)) × Bool × Unit) :=
 Option.bind (strings_Split a0 [32]) fun r1 =>
 joinB (β := ((List (List UInt8)) × Bool × Unit)) (γ := ((List (List UInt8)) × Unit)) (
  iter (X := kit_Words_x3) (β := kit_Words_r3) (Int.natAbs ((List.length r1.1 : Int)) + (Int.natAbs (0 : Int) + (List.length r1.1 + 2))) ((List.length r1.1 : Int), 0, r1.1, ()) (kit_Words_b3)) fun v4 =>
 some (v4.1, true, ())

def order_words_next (a0 : (List (List UInt8)) × Bool × Unit) : Option ((List UInt8) × ((List (List UInt8)) × Bool × Unit) × Unit) :=
 bif ((List.length a0.1 : Int)) == 0 then
  some ([], (a0.1, true, ()), ())
 else
  Option.bind (idx a0.1 0) fun y1 =>
  chk (decide (0 ≤ (1 : Int)) && decide ((1 : Int) ≤ ((List.length a0.1 : Int))) && decide (((List.length a0.1 : Int)) ≤ (List.length a0.1 : Int))) <|
  some (y1, (List.drop 1 (List.take (Int.toNat ((List.length a0.1 : Int))) a0.1), a0.2.1, ()), ())

def order_words_number (a0 : (List (List UInt8)) × Bool × Unit) : Option (Int × ((List (List UInt8)) × Bool × Unit) × Unit) :=
 Option.bind (order_words_next (a0.1, a0.2.1, ())) fun r1 =>
 Option.bind (kit_Number r1.1 16) fun r2 =>
 bif r1.2.1.2.1 then
  some (r2.1, (r1.2.1.1, true, ()), ())
 else
  some (r2.1, (r1.2.1.1, !r2.2.1, ()), ())

def order_byWords  : Option ((List (List UInt8)) × Unit) :=
 some ([[], [98, 117, 121, 101, 114], [115, 101, 108, 108, 101, 114]], ())

def order_words_index (a0 : (List (List UInt8)) × Bool × Unit) (a1 : List (List UInt8)) : Option (Int × ((List (List UInt8)) × Bool × Unit) × Unit) :=
 Option.bind (order_words_next (a0.1, a0.2.1, ())) fun r1 =>
 Option.bind (slices_Index_string a1 r1.1) fun r2 =>
 bif r1.2.1.2.1 then
  some (r2.1, (r1.2.1.1, true, ()), ())
 else
  some (r2.1, (r1.2.1.1, decide (r2.1 < 1), ()), ())

def order_kindWords  : Option ((List (List UInt8)) × Unit) :=
 some ([[], [97, 100, 100], [113, 117, 97, 110, 116, 105, 116, 121], [100, 117, 101], [112, 114, 105, 99, 101], [121, 101, 115], [110, 111], [111, 102, 102, 101, 114], [116, 97, 107, 101], [115, 104, 105, 112], [114, 101, 99, 101, 105, 118, 101], [114, 101, 116, 117, 114, 110]], ())

def internal_stringslite_HasPrefix (a0 : List UInt8) (a1 : List UInt8) : Option (Bool × Unit) :=
 bif decide (((List.length a0 : Int)) ≥ ((List.length a1 : Int))) then
  chk (decide (0 ≤ (0 : Int)) && decide ((0 : Int) ≤ ((List.length a1 : Int))) && decide (((List.length a1 : Int)) ≤ (List.length a0 : Int))) <|
  some ((List.drop 0 (List.take (Int.toNat ((List.length a1 : Int))) a0)) == a1, ())
 else
  some (false, ())

def internal_stringslite_CutPrefix (a0 : List UInt8) (a1 : List UInt8) : Option ((List UInt8) × Bool × Unit) :=
 Option.bind (internal_stringslite_HasPrefix a0 a1) fun r1 =>
 bif !r1.1 then
  some (a0, false, ())
 else
  chk (decide (0 ≤ ((List.length a1 : Int))) && decide (((List.length a1 : Int)) ≤ ((List.length a0 : Int))) && decide (((List.length a0 : Int)) ≤ (List.length a0 : Int))) <|
  some (List.drop (Int.toNat ((List.length a1 : Int))) (List.take (Int.toNat ((List.length a0 : Int))) a0), true, ())

def strings_CutPrefix (a0 : List UInt8) (a1 : List UInt8) : Option ((List UInt8) × Bool × Unit) :=
 Option.bind (internal_stringslite_CutPrefix a0 a1) fun r1 =>
 some (r1.1, r1.2.1, ())

def internal_stringslite_Index (a0 : List UInt8) (a1 : List UInt8) : Option (Int × Unit) :=
 bif ((List.length a1 : Int)) == 0 then
  some (0, ())
 else
  bif a1 == a0 then
   some (0, ())
  else
   bif ((List.length a1 : Int)) == 1 then
    Option.bind (sidx a1 0) fun c1 =>
    Option.bind (internal_stringslite_IndexByte a0 (c1.toNat : Int)) fun r2 =>
    some (r2.1, ())
   else
    bif decide (((List.length a1 : Int)) ≥ ((List.length a0 : Int))) then
     some ((-1), ())
    else
     none

def internal_stringslite_Cut (a0 : List UInt8) (a1 : List UInt8) : Option ((List UInt8) × (List UInt8) × Bool × Unit) :=
 Option.bind (internal_stringslite_Index a0 a1) fun r1 =>
 bif decide (r1.1 ≥ 0) then
  chk (decide (0 ≤ (0 : Int)) && decide ((0 : Int) ≤ r1.1) && decide (r1.1 ≤ (List.length a0 : Int))) <|
  chk (decide (0 ≤ (w64 (r1.1 + ((List.length a1 : Int))))) && decide ((w64 (r1.1 + ((List.length a1 : Int)))) ≤ ((List.length a0 : Int))) && decide (((List.length a0 : Int)) ≤ (List.length a0 : Int))) <|
  some (List.drop 0 (List.take (Int.toNat r1.1) a0), List.drop (Int.toNat (w64 (r1.1 + ((List.length a1 : Int))))) (List.take (Int.toNat ((List.length a0 : Int))) a0), true, ())
 else
  some (a0, [], false, ())

def strings_Cut (a0 : List UInt8) (a1 : List UInt8) : Option ((List UInt8) × (List UInt8) × Bool × Unit) :=
 Option.bind (internal_stringslite_Cut a0 a1) fun r1 =>
 some (r1.1, r1.2.1, r1.2.2.1, ())

def amount_isWhole (a0 : List UInt8) : Option (Bool × Unit) :=
 Option.bind (
  Option.bind (kit_IsDigits a0) fun r1 =>
  bif r1.1 then
   bif ((List.length a0 : Int)) == 1 then
    some (true, ())
   else
    Option.bind (sidx a0 0) fun c2 =>
    some ((c2.toNat : Int) != 48, ())
  else
   some (false, ())) fun v3 =>
 some (v3.1, ())

abbrev amount_read_x3 : Type := Bool × (List UInt8) × (List UInt8) × Int × Int × Int × Int × Bool × (List Int) × Unit
abbrev amount_read_r3 : Type := ((D_api_Decimal × Int × Unit) ⊕ (Bool × (List UInt8) × Int × Int × Bool × (List Int) × Unit))
def amount_read_b3  (x1 : amount_read_x3) (again : amount_read_x3 → Option amount_read_r3) : Option amount_read_r3 :=
 bif decide (x1.2.2.2.2.1 < x1.2.2.2.1) then
  Option.bind (whole_Of 10) fun r2 =>
  Option.bind (whole_Int_Times (x1.2.2.2.2.2.2.2.1, x1.2.2.2.2.2.2.2.2.1) r2.1) fun r3 =>
  chk (decide (List.length x1.2.1 + List.length x1.2.2.1 ≤ maxLen)) <|
  Option.bind (sidx (x1.2.1 ++ x1.2.2.1) x1.2.2.2.2.1) fun c4 =>
  Option.bind (whole_Of (w64 (wu8 ((c4.toNat : Int) - 48)))) fun r5 =>
  Option.bind (whole_Int_Plus r3.1 r5.1) fun r6 =>
  again (x1.1, x1.2.1, x1.2.2.1, x1.2.2.2.1, w64 (x1.2.2.2.2.1 + 1), x1.2.2.2.2.2.1, x1.2.2.2.2.2.2.1, r6.1.1, r6.1.2, ())
 else
  some (Sum.inr (x1.1, x1.2.2.1, x1.2.2.2.2.2.1, x1.2.2.2.2.2.2.1, x1.2.2.2.2.2.2.2.1, x1.2.2.2.2.2.2.2.2.1, ()))

def amount_read (a0 : Bool) (a1 : List UInt8) (a2 : List UInt8) : Option (D_api_Decimal × Int × Unit) :=
 Option.bind (whole_Of 0) fun r1 =>
 chk (decide (List.length a1 + List.length a2 ≤ maxLen)) <|
 joinB (β := (D_api_Decimal × Int × Unit)) (γ := (Bool × (List UInt8) × Int × Int × Bool × (List Int) × Unit)) (
  iter (X := amount_read_x3) (β := amount_read_r3) (List.length a1 + (List.length a2 + (Int.natAbs ((List.length (a1 ++ a2) : Int)) + (Int.natAbs (0 : Int) + (Int.natAbs (0 : Int) + (Int.natAbs (0 : Int) + (List.length r1.1.2 + 2))))))) (a0, a1, a2, (List.length (a1 ++ a2) : Int), 0, 0, 0, r1.1.1, r1.1.2, ()) (amount_read_b3)) fun v8 =>
 bif v8.1 then
  Option.bind (whole_Int_Sign (v8.2.2.2.2.1, v8.2.2.2.2.2.1)) fun r9 =>
  bif r9.1 == 0 then
   some ((0, 0), 10, ())
  else
   Option.bind (whole_Int_Minus (v8.2.2.2.2.1, v8.2.2.2.2.2.1)) fun r10 =>
   Option.bind (amount_Made r10.1 ((List.length v8.2.1 : Int))) fun r11 =>
   some (r11.1, r11.2.1, ())
 else
  Option.bind (amount_Made (v8.2.2.2.2.1, v8.2.2.2.2.2.1) ((List.length v8.2.1 : Int))) fun r12 =>
  some (r12.1, r12.2.1, ())

def amount_ReadText (a0 : List UInt8) : Option (D_api_Decimal × Int × Unit) :=
 Option.bind (strings_CutPrefix a0 [45]) fun r1 =>
 Option.bind (strings_Cut r1.1 [46]) fun r2 =>
 Option.bind (
  bif decide (((List.length a0 : Int)) > 40) then
   some (true, ())
  else
   Option.bind (amount_isWhole r2.1) fun r3 =>
   bif !r3.1 then
    some (true, ())
   else
    bif r2.2.2.1 then
     Option.bind (kit_IsDigits r2.2.1) fun r4 =>
     bif !r4.1 then
      some (true, ())
     else
      some (decide (((List.length r2.2.1 : Int)) > 9), ())
    else
     some (false, ())) fun v5 =>
 bif v5.1 then
  some ((0, 0), 10, ())
 else
  Option.bind (amount_read r1.2.1 r2.1 r2.2.1) fun r6 =>
  some (r6.1, r6.2.1, ())

def order_words_decimal (a0 : (List (List UInt8)) × Bool × Unit) : Option (D_api_Decimal × ((List (List UInt8)) × Bool × Unit) × Unit) :=
 Option.bind (order_words_next (a0.1, a0.2.1, ())) fun r1 =>
 Option.bind (amount_ReadText r1.1) fun r2 =>
 bif r1.2.1.2.1 then
  some (r2.1, (r1.2.1.1, true, ()), ())
 else
  some (r2.1, (r1.2.1.1, r2.2.1 != 0, ()), ())

def order_readDeed (a0 : List UInt8) : Option (D_api_Deed × Bool × Unit) :=
 Option.bind (kit_Words a0) fun r1 =>
 bif !r1.2.1 then
  some ((0, 0, 0, 0, 0, [], (0, 0), [], (0, 0), 0, 0), false, ())
 else
  Option.bind (order_words_number (r1.1, false, ())) fun r2 =>
  Option.bind (order_byWords) fun r3 =>
  Option.bind (order_words_index (r2.2.1.1, r2.2.1.2.1, ()) r3.1) fun r4 =>
  Option.bind (order_words_number (r4.2.1.1, r4.2.1.2.1, ())) fun r5 =>
  Option.bind (order_kindWords) fun r6 =>
  Option.bind (order_words_index (r5.2.1.1, r5.2.1.2.1, ()) r6.1) fun r7 =>
  Option.bind (order_words_number (r7.2.1.1, r7.2.1.2.1, ())) fun r8 =>
  Option.bind (order_usesOf r7.1) fun r9 =>
  joinB (β := (D_api_Deed × Bool × Unit)) (γ := (Int × Int × Int × Int × Int × (List UInt8) × Int × Int × (List UInt8) × Int × Int × Int × Int × Int × Int × Int × Int × Int × (List UInt8) × Int × Int × (List UInt8) × Int × Int × Int × Int × Bool × Bool × Bool × Bool × Bool × Bool × (List (List UInt8)) × Bool × Unit)) (
   bif r9.1.1 then
    Option.bind (order_words_next (r8.2.1.1, r8.2.1.2.1, ())) fun r10 =>
    some (Sum.inr (0, 0, 0, 0, 0, [], 0, 0, [], 0, 0, 0, 0, r2.1, r4.1, r5.1, r7.1, r8.1, r10.1, 0, 0, [], 0, 0, 0, 0, r9.1.1, r9.1.2.1, r9.1.2.2.1, r9.1.2.2.2.1, r9.1.2.2.2.2.1, r9.1.2.2.2.2.2, r10.2.1.1, r10.2.1.2.1, ()))
   else
    some (Sum.inr (0, 0, 0, 0, 0, [], 0, 0, [], 0, 0, 0, 0, r2.1, r4.1, r5.1, r7.1, r8.1, [], 0, 0, [], 0, 0, 0, 0, r9.1.1, r9.1.2.1, r9.1.2.2.1, r9.1.2.2.2.1, r9.1.2.2.2.2.1, r9.1.2.2.2.2.2, r8.2.1.1, r8.2.1.2.1, ()))) fun v11 =>
  joinB (β := (D_api_Deed × Bool × Unit)) (γ := (Int × Int × Int × Int × Int × (List UInt8) × Int × Int × (List UInt8) × Int × Int × Int × Int × Int × Int × Int × Int × Int × (List UInt8) × Int × Int × (List UInt8) × Int × Int × Int × Int × Bool × Bool × Bool × Bool × Bool × Bool × (List (List UInt8)) × Bool × Unit)) (
   bif v11.2.2.2.2.2.2.2.2.2.2.2.2.2.2.2.2.2.2.2.2.2.2.2.2.2.2.2.1 then
    Option.bind (order_words_decimal (v11.2.2.2.2.2.2.2.2.2.2.2.2.2.2.2.2.2.2.2.2.2.2.2.2.2.2.2.2.2.2.2.2.1, v11.2.2.2.2.2.2.2.2.2.2.2.2.2.2.2.2.2.2.2.2.2.2.2.2.2.2.2.2.2.2.2.2.2.1, ())) fun r12 =>
    some (Sum.inr (v11.1, v11.2.1, v11.2.2.1, v11.2.2.2.1, v11.2.2.2.2.1, v11.2.2.2.2.2.1, v11.2.2.2.2.2.2.1, v11.2.2.2.2.2.2.2.1, v11.2.2.2.2.2.2.2.2.1, v11.2.2.2.2.2.2.2.2.2.1, v11.2.2.2.2.2.2.2.2.2.2.1, v11.2.2.2.2.2.2.2.2.2.2.2.1, v11.2.2.2.2.2.2.2.2.2.2.2.2.1, v11.2.2.2.2.2.2.2.2.2.2.2.2.2.1, v11.2.2.2.2.2.2.2.2.2.2.2.2.2.2.1, v11.2.2.2.2.2.2.2.2.2.2.2.2.2.2.2.1, v11.2.2.2.2.2.2.2.2.2.2.2.2.2.2.2.2.1, v11.2.2.2.2.2.2.2.2.2.2.2.2.2.2.2.2.2.1, v11.2.2.2.2.2.2.2.2.2.2.2.2.2.2.2.2.2.2.1, r12.1.1, r12.1.2, v11.2.2.2.2.2.2.2.2.2.2.2.2.2.2.2.2.2.2.2.2.2.1, v11.2.2.2.2.2.2.2.2.2.2.2.2.2.2.2.2.2.2.2.2.2.2.1, v11.2.2.2.2.2.2.2.2.2.2.2.2.2.2.2.2.2.2.2.2.2.2.2.1, v11.2.2.2.2.2.2.2.2.2.2.2.2.2.2.2.2.2.2.2.2.2.2.2.2.1, v11.2.2.2.2.2.2.2.2.2.2.2.2.2.2.2.2.2.2.2.2.2.2.2.2.2.1, v11.2.2.2.2.2.2.2.2.2.2.2.2.2.2.2.2.2.2.2.2.2.2.2.2.2.2.1, v11.2.2.2.2.2.2.2.2.2.2.2.2.2.2.2.2.2.2.2.2.2.2.2.2.2.2.2.1, v11.2.2.2.2.2.2.2.2.2.2.2.2.2.2.2.2.2.2.2.2.2.2.2.2.2.2.2.2.1, v11.2.2.2.2.2.2.2.2.2.2.2.2.2.2.2.2.2.2.2.2.2.2.2.2.2.2.2.2.2.1, v11.2.2.2.2.2.2.2.2.2.2.2.2.2.2.2.2.2.2.2.2.2.2.2.2.2.2.2.2.2.2.1, v11.2.2.2.2.2.2.2.2.2.2.2.2.2.2.2.2.2.2.2.2.2.2.2.2.2.2.2.2.2.2.2.1, r12.2.1.1, r12.2.1.2.1, ()))
   else
    some (Sum.inr (v11.1, v11.2.1, v11.2.2.1, v11.2.2.2.1, v11.2.2.2.2.1, v11.2.2.2.2.2.1, v11.2.2.2.2.2.2.1, v11.2.2.2.2.2.2.2.1, v11.2.2.2.2.2.2.2.2.1, v11.2.2.2.2.2.2.2.2.2.1, v11.2.2.2.2.2.2.2.2.2.2.1, v11.2.2.2.2.2.2.2.2.2.2.2.1, v11.2.2.2.2.2.2.2.2.2.2.2.2.1, v11.2.2.2.2.2.2.2.2.2.2.2.2.2.1, v11.2.2.2.2.2.2.2.2.2.2.2.2.2.2.1, v11.2.2.2.2.2.2.2.2.2.2.2.2.2.2.2.1, v11.2.2.2.2.2.2.2.2.2.2.2.2.2.2.2.2.1, v11.2.2.2.2.2.2.2.2.2.2.2.2.2.2.2.2.2.1, v11.2.2.2.2.2.2.2.2.2.2.2.2.2.2.2.2.2.2.1, v11.2.2.2.2.2.2.2.2.2.2.2.2.2.2.2.2.2.2.2.1, v11.2.2.2.2.2.2.2.2.2.2.2.2.2.2.2.2.2.2.2.2.1, v11.2.2.2.2.2.2.2.2.2.2.2.2.2.2.2.2.2.2.2.2.2.1, v11.2.2.2.2.2.2.2.2.2.2.2.2.2.2.2.2.2.2.2.2.2.2.1, v11.2.2.2.2.2.2.2.2.2.2.2.2.2.2.2.2.2.2.2.2.2.2.2.1, v11.2.2.2.2.2.2.2.2.2.2.2.2.2.2.2.2.2.2.2.2.2.2.2.2.1, v11.2.2.2.2.2.2.2.2.2.2.2.2.2.2.2.2.2.2.2.2.2.2.2.2.2.1, v11.2.2.2.2.2.2.2.2.2.2.2.2.2.2.2.2.2.2.2.2.2.2.2.2.2.2.1, v11.2.2.2.2.2.2.2.2.2.2.2.2.2.2.2.2.2.2.2.2.2.2.2.2.2.2.2.1, v11.2.2.2.2.2.2.2.2.2.2.2.2.2.2.2.2.2.2.2.2.2.2.2.2.2.2.2.2.1, v11.2.2.2.2.2.2.2.2.2.2.2.2.2.2.2.2.2.2.2.2.2.2.2.2.2.2.2.2.2.1, v11.2.2.2.2.2.2.2.2.2.2.2.2.2.2.2.2.2.2.2.2.2.2.2.2.2.2.2.2.2.2.1, v11.2.2.2.2.2.2.2.2.2.2.2.2.2.2.2.2.2.2.2.2.2.2.2.2.2.2.2.2.2.2.2.1, v11.2.2.2.2.2.2.2.2.2.2.2.2.2.2.2.2.2.2.2.2.2.2.2.2.2.2.2.2.2.2.2.2.1, v11.2.2.2.2.2.2.2.2.2.2.2.2.2.2.2.2.2.2.2.2.2.2.2.2.2.2.2.2.2.2.2.2.2.1, ()))) fun v13 =>
  joinB (β := (D_api_Deed × Bool × Unit)) (γ := (Int × Int × Int × Int × Int × (List UInt8) × Int × Int × (List UInt8) × Int × Int × Int × Int × Int × Int × Int × Int × Int × (List UInt8) × Int × Int × (List UInt8) × Int × Int × Int × Int × Bool × Bool × Bool × Bool × Bool × Bool × (List (List UInt8)) × Bool × Unit)) (
   bif v13.2.2.2.2.2.2.2.2.2.2.2.2.2.2.2.2.2.2.2.2.2.2.2.2.2.2.2.2.1 then
    Option.bind (order_words_next (v13.2.2.2.2.2.2.2.2.2.2.2.2.2.2.2.2.2.2.2.2.2.2.2.2.2.2.2.2.2.2.2.2.1, v13.2.2.2.2.2.2.2.2.2.2.2.2.2.2.2.2.2.2.2.2.2.2.2.2.2.2.2.2.2.2.2.2.2.1, ())) fun r14 =>
    some (Sum.inr (v13.1, v13.2.1, v13.2.2.1, v13.2.2.2.1, v13.2.2.2.2.1, v13.2.2.2.2.2.1, v13.2.2.2.2.2.2.1, v13.2.2.2.2.2.2.2.1, v13.2.2.2.2.2.2.2.2.1, v13.2.2.2.2.2.2.2.2.2.1, v13.2.2.2.2.2.2.2.2.2.2.1, v13.2.2.2.2.2.2.2.2.2.2.2.1, v13.2.2.2.2.2.2.2.2.2.2.2.2.1, v13.2.2.2.2.2.2.2.2.2.2.2.2.2.1, v13.2.2.2.2.2.2.2.2.2.2.2.2.2.2.1, v13.2.2.2.2.2.2.2.2.2.2.2.2.2.2.2.1, v13.2.2.2.2.2.2.2.2.2.2.2.2.2.2.2.2.1, v13.2.2.2.2.2.2.2.2.2.2.2.2.2.2.2.2.2.1, v13.2.2.2.2.2.2.2.2.2.2.2.2.2.2.2.2.2.2.1, v13.2.2.2.2.2.2.2.2.2.2.2.2.2.2.2.2.2.2.2.1, v13.2.2.2.2.2.2.2.2.2.2.2.2.2.2.2.2.2.2.2.2.1, r14.1, v13.2.2.2.2.2.2.2.2.2.2.2.2.2.2.2.2.2.2.2.2.2.2.1, v13.2.2.2.2.2.2.2.2.2.2.2.2.2.2.2.2.2.2.2.2.2.2.2.1, v13.2.2.2.2.2.2.2.2.2.2.2.2.2.2.2.2.2.2.2.2.2.2.2.2.1, v13.2.2.2.2.2.2.2.2.2.2.2.2.2.2.2.2.2.2.2.2.2.2.2.2.2.1, v13.2.2.2.2.2.2.2.2.2.2.2.2.2.2.2.2.2.2.2.2.2.2.2.2.2.2.1, v13.2.2.2.2.2.2.2.2.2.2.2.2.2.2.2.2.2.2.2.2.2.2.2.2.2.2.2.1, v13.2.2.2.2.2.2.2.2.2.2.2.2.2.2.2.2.2.2.2.2.2.2.2.2.2.2.2.2.1, v13.2.2.2.2.2.2.2.2.2.2.2.2.2.2.2.2.2.2.2.2.2.2.2.2.2.2.2.2.2.1, v13.2.2.2.2.2.2.2.2.2.2.2.2.2.2.2.2.2.2.2.2.2.2.2.2.2.2.2.2.2.2.1, v13.2.2.2.2.2.2.2.2.2.2.2.2.2.2.2.2.2.2.2.2.2.2.2.2.2.2.2.2.2.2.2.1, r14.2.1.1, r14.2.1.2.1, ()))
   else
    some (Sum.inr (v13.1, v13.2.1, v13.2.2.1, v13.2.2.2.1, v13.2.2.2.2.1, v13.2.2.2.2.2.1, v13.2.2.2.2.2.2.1, v13.2.2.2.2.2.2.2.1, v13.2.2.2.2.2.2.2.2.1, v13.2.2.2.2.2.2.2.2.2.1, v13.2.2.2.2.2.2.2.2.2.2.1, v13.2.2.2.2.2.2.2.2.2.2.2.1, v13.2.2.2.2.2.2.2.2.2.2.2.2.1, v13.2.2.2.2.2.2.2.2.2.2.2.2.2.1, v13.2.2.2.2.2.2.2.2.2.2.2.2.2.2.1, v13.2.2.2.2.2.2.2.2.2.2.2.2.2.2.2.1, v13.2.2.2.2.2.2.2.2.2.2.2.2.2.2.2.2.1, v13.2.2.2.2.2.2.2.2.2.2.2.2.2.2.2.2.2.1, v13.2.2.2.2.2.2.2.2.2.2.2.2.2.2.2.2.2.2.1, v13.2.2.2.2.2.2.2.2.2.2.2.2.2.2.2.2.2.2.2.1, v13.2.2.2.2.2.2.2.2.2.2.2.2.2.2.2.2.2.2.2.2.1, v13.2.2.2.2.2.2.2.2.2.2.2.2.2.2.2.2.2.2.2.2.2.1, v13.2.2.2.2.2.2.2.2.2.2.2.2.2.2.2.2.2.2.2.2.2.2.1, v13.2.2.2.2.2.2.2.2.2.2.2.2.2.2.2.2.2.2.2.2.2.2.2.1, v13.2.2.2.2.2.2.2.2.2.2.2.2.2.2.2.2.2.2.2.2.2.2.2.2.1, v13.2.2.2.2.2.2.2.2.2.2.2.2.2.2.2.2.2.2.2.2.2.2.2.2.2.1, v13.2.2.2.2.2.2.2.2.2.2.2.2.2.2.2.2.2.2.2.2.2.2.2.2.2.2.1, v13.2.2.2.2.2.2.2.2.2.2.2.2.2.2.2.2.2.2.2.2.2.2.2.2.2.2.2.1, v13.2.2.2.2.2.2.2.2.2.2.2.2.2.2.2.2.2.2.2.2.2.2.2.2.2.2.2.2.1, v13.2.2.2.2.2.2.2.2.2.2.2.2.2.2.2.2.2.2.2.2.2.2.2.2.2.2.2.2.2.1, v13.2.2.2.2.2.2.2.2.2.2.2.2.2.2.2.2.2.2.2.2.2.2.2.2.2.2.2.2.2.2.1, v13.2.2.2.2.2.2.2.2.2.2.2.2.2.2.2.2.2.2.2.2.2.2.2.2.2.2.2.2.2.2.2.1, v13.2.2.2.2.2.2.2.2.2.2.2.2.2.2.2.2.2.2.2.2.2.2.2.2.2.2.2.2.2.2.2.2.1, v13.2.2.2.2.2.2.2.2.2.2.2.2.2.2.2.2.2.2.2.2.2.2.2.2.2.2.2.2.2.2.2.2.2.1, ()))) fun v15 =>
  joinB (β := (D_api_Deed × Bool × Unit)) (γ := (Int × Int × Int × Int × Int × (List UInt8) × Int × Int × (List UInt8) × Int × Int × Int × Int × Int × Int × Int × Int × Int × (List UInt8) × Int × Int × (List UInt8) × Int × Int × Int × Int × Bool × Bool × Bool × Bool × Bool × Bool × (List (List UInt8)) × Bool × Unit)) (
   bif v15.2.2.2.2.2.2.2.2.2.2.2.2.2.2.2.2.2.2.2.2.2.2.2.2.2.2.2.2.2.1 then
    Option.bind (order_words_decimal (v15.2.2.2.2.2.2.2.2.2.2.2.2.2.2.2.2.2.2.2.2.2.2.2.2.2.2.2.2.2.2.2.2.1, v15.2.2.2.2.2.2.2.2.2.2.2.2.2.2.2.2.2.2.2.2.2.2.2.2.2.2.2.2.2.2.2.2.2.1, ())) fun r16 =>
    some (Sum.inr (v15.1, v15.2.1, v15.2.2.1, v15.2.2.2.1, v15.2.2.2.2.1, v15.2.2.2.2.2.1, v15.2.2.2.2.2.2.1, v15.2.2.2.2.2.2.2.1, v15.2.2.2.2.2.2.2.2.1, v15.2.2.2.2.2.2.2.2.2.1, v15.2.2.2.2.2.2.2.2.2.2.1, v15.2.2.2.2.2.2.2.2.2.2.2.1, v15.2.2.2.2.2.2.2.2.2.2.2.2.1, v15.2.2.2.2.2.2.2.2.2.2.2.2.2.1, v15.2.2.2.2.2.2.2.2.2.2.2.2.2.2.1, v15.2.2.2.2.2.2.2.2.2.2.2.2.2.2.2.1, v15.2.2.2.2.2.2.2.2.2.2.2.2.2.2.2.2.1, v15.2.2.2.2.2.2.2.2.2.2.2.2.2.2.2.2.2.1, v15.2.2.2.2.2.2.2.2.2.2.2.2.2.2.2.2.2.2.1, v15.2.2.2.2.2.2.2.2.2.2.2.2.2.2.2.2.2.2.2.1, v15.2.2.2.2.2.2.2.2.2.2.2.2.2.2.2.2.2.2.2.2.1, v15.2.2.2.2.2.2.2.2.2.2.2.2.2.2.2.2.2.2.2.2.2.1, r16.1.1, r16.1.2, v15.2.2.2.2.2.2.2.2.2.2.2.2.2.2.2.2.2.2.2.2.2.2.2.2.1, v15.2.2.2.2.2.2.2.2.2.2.2.2.2.2.2.2.2.2.2.2.2.2.2.2.2.1, v15.2.2.2.2.2.2.2.2.2.2.2.2.2.2.2.2.2.2.2.2.2.2.2.2.2.2.1, v15.2.2.2.2.2.2.2.2.2.2.2.2.2.2.2.2.2.2.2.2.2.2.2.2.2.2.2.1, v15.2.2.2.2.2.2.2.2.2.2.2.2.2.2.2.2.2.2.2.2.2.2.2.2.2.2.2.2.1, v15.2.2.2.2.2.2.2.2.2.2.2.2.2.2.2.2.2.2.2.2.2.2.2.2.2.2.2.2.2.1, v15.2.2.2.2.2.2.2.2.2.2.2.2.2.2.2.2.2.2.2.2.2.2.2.2.2.2.2.2.2.2.1, v15.2.2.2.2.2.2.2.2.2.2.2.2.2.2.2.2.2.2.2.2.2.2.2.2.2.2.2.2.2.2.2.1, r16.2.1.1, r16.2.1.2.1, ()))
   else
    some (Sum.inr (v15.1, v15.2.1, v15.2.2.1, v15.2.2.2.1, v15.2.2.2.2.1, v15.2.2.2.2.2.1, v15.2.2.2.2.2.2.1, v15.2.2.2.2.2.2.2.1, v15.2.2.2.2.2.2.2.2.1, v15.2.2.2.2.2.2.2.2.2.1, v15.2.2.2.2.2.2.2.2.2.2.1, v15.2.2.2.2.2.2.2.2.2.2.2.1, v15.2.2.2.2.2.2.2.2.2.2.2.2.1, v15.2.2.2.2.2.2.2.2.2.2.2.2.2.1, v15.2.2.2.2.2.2.2.2.2.2.2.2.2.2.1, v15.2.2.2.2.2.2.2.2.2.2.2.2.2.2.2.1, v15.2.2.2.2.2.2.2.2.2.2.2.2.2.2.2.2.1, v15.2.2.2.2.2.2.2.2.2.2.2.2.2.2.2.2.2.1, v15.2.2.2.2.2.2.2.2.2.2.2.2.2.2.2.2.2.2.1, v15.2.2.2.2.2.2.2.2.2.2.2.2.2.2.2.2.2.2.2.1, v15.2.2.2.2.2.2.2.2.2.2.2.2.2.2.2.2.2.2.2.2.1, v15.2.2.2.2.2.2.2.2.2.2.2.2.2.2.2.2.2.2.2.2.2.1, v15.2.2.2.2.2.2.2.2.2.2.2.2.2.2.2.2.2.2.2.2.2.2.1, v15.2.2.2.2.2.2.2.2.2.2.2.2.2.2.2.2.2.2.2.2.2.2.2.1, v15.2.2.2.2.2.2.2.2.2.2.2.2.2.2.2.2.2.2.2.2.2.2.2.2.1, v15.2.2.2.2.2.2.2.2.2.2.2.2.2.2.2.2.2.2.2.2.2.2.2.2.2.1, v15.2.2.2.2.2.2.2.2.2.2.2.2.2.2.2.2.2.2.2.2.2.2.2.2.2.2.1, v15.2.2.2.2.2.2.2.2.2.2.2.2.2.2.2.2.2.2.2.2.2.2.2.2.2.2.2.1, v15.2.2.2.2.2.2.2.2.2.2.2.2.2.2.2.2.2.2.2.2.2.2.2.2.2.2.2.2.1, v15.2.2.2.2.2.2.2.2.2.2.2.2.2.2.2.2.2.2.2.2.2.2.2.2.2.2.2.2.2.1, v15.2.2.2.2.2.2.2.2.2.2.2.2.2.2.2.2.2.2.2.2.2.2.2.2.2.2.2.2.2.2.1, v15.2.2.2.2.2.2.2.2.2.2.2.2.2.2.2.2.2.2.2.2.2.2.2.2.2.2.2.2.2.2.2.1, v15.2.2.2.2.2.2.2.2.2.2.2.2.2.2.2.2.2.2.2.2.2.2.2.2.2.2.2.2.2.2.2.2.1, v15.2.2.2.2.2.2.2.2.2.2.2.2.2.2.2.2.2.2.2.2.2.2.2.2.2.2.2.2.2.2.2.2.2.1, ()))) fun v17 =>
  joinB (β := (D_api_Deed × Bool × Unit)) (γ := (Int × Int × Int × Int × Int × (List UInt8) × Int × Int × (List UInt8) × Int × Int × Int × Int × Int × Int × Int × Int × Int × (List UInt8) × Int × Int × (List UInt8) × Int × Int × Int × Int × Bool × Bool × Bool × Bool × Bool × Bool × (List (List UInt8)) × Bool × Unit)) (
   bif v17.2.2.2.2.2.2.2.2.2.2.2.2.2.2.2.2.2.2.2.2.2.2.2.2.2.2.2.2.2.2.1 then
    Option.bind (order_words_number (v17.2.2.2.2.2.2.2.2.2.2.2.2.2.2.2.2.2.2.2.2.2.2.2.2.2.2.2.2.2.2.2.2.1, v17.2.2.2.2.2.2.2.2.2.2.2.2.2.2.2.2.2.2.2.2.2.2.2.2.2.2.2.2.2.2.2.2.2.1, ())) fun r18 =>
    some (Sum.inr (v17.1, v17.2.1, v17.2.2.1, v17.2.2.2.1, v17.2.2.2.2.1, v17.2.2.2.2.2.1, v17.2.2.2.2.2.2.1, v17.2.2.2.2.2.2.2.1, v17.2.2.2.2.2.2.2.2.1, v17.2.2.2.2.2.2.2.2.2.1, v17.2.2.2.2.2.2.2.2.2.2.1, v17.2.2.2.2.2.2.2.2.2.2.2.1, v17.2.2.2.2.2.2.2.2.2.2.2.2.1, v17.2.2.2.2.2.2.2.2.2.2.2.2.2.1, v17.2.2.2.2.2.2.2.2.2.2.2.2.2.2.1, v17.2.2.2.2.2.2.2.2.2.2.2.2.2.2.2.1, v17.2.2.2.2.2.2.2.2.2.2.2.2.2.2.2.2.1, v17.2.2.2.2.2.2.2.2.2.2.2.2.2.2.2.2.2.1, v17.2.2.2.2.2.2.2.2.2.2.2.2.2.2.2.2.2.2.1, v17.2.2.2.2.2.2.2.2.2.2.2.2.2.2.2.2.2.2.2.1, v17.2.2.2.2.2.2.2.2.2.2.2.2.2.2.2.2.2.2.2.2.1, v17.2.2.2.2.2.2.2.2.2.2.2.2.2.2.2.2.2.2.2.2.2.1, v17.2.2.2.2.2.2.2.2.2.2.2.2.2.2.2.2.2.2.2.2.2.2.1, v17.2.2.2.2.2.2.2.2.2.2.2.2.2.2.2.2.2.2.2.2.2.2.2.1, r18.1, v17.2.2.2.2.2.2.2.2.2.2.2.2.2.2.2.2.2.2.2.2.2.2.2.2.2.1, v17.2.2.2.2.2.2.2.2.2.2.2.2.2.2.2.2.2.2.2.2.2.2.2.2.2.2.1, v17.2.2.2.2.2.2.2.2.2.2.2.2.2.2.2.2.2.2.2.2.2.2.2.2.2.2.2.1, v17.2.2.2.2.2.2.2.2.2.2.2.2.2.2.2.2.2.2.2.2.2.2.2.2.2.2.2.2.1, v17.2.2.2.2.2.2.2.2.2.2.2.2.2.2.2.2.2.2.2.2.2.2.2.2.2.2.2.2.2.1, v17.2.2.2.2.2.2.2.2.2.2.2.2.2.2.2.2.2.2.2.2.2.2.2.2.2.2.2.2.2.2.1, v17.2.2.2.2.2.2.2.2.2.2.2.2.2.2.2.2.2.2.2.2.2.2.2.2.2.2.2.2.2.2.2.1, r18.2.1.1, r18.2.1.2.1, ()))
   else
    some (Sum.inr (v17.1, v17.2.1, v17.2.2.1, v17.2.2.2.1, v17.2.2.2.2.1, v17.2.2.2.2.2.1, v17.2.2.2.2.2.2.1, v17.2.2.2.2.2.2.2.1, v17.2.2.2.2.2.2.2.2.1, v17.2.2.2.2.2.2.2.2.2.1, v17.2.2.2.2.2.2.2.2.2.2.1, v17.2.2.2.2.2.2.2.2.2.2.2.1, v17.2.2.2.2.2.2.2.2.2.2.2.2.1, v17.2.2.2.2.2.2.2.2.2.2.2.2.2.1, v17.2.2.2.2.2.2.2.2.2.2.2.2.2.2.1, v17.2.2.2.2.2.2.2.2.2.2.2.2.2.2.2.1, v17.2.2.2.2.2.2.2.2.2.2.2.2.2.2.2.2.1, v17.2.2.2.2.2.2.2.2.2.2.2.2.2.2.2.2.2.1, v17.2.2.2.2.2.2.2.2.2.2.2.2.2.2.2.2.2.2.1, v17.2.2.2.2.2.2.2.2.2.2.2.2.2.2.2.2.2.2.2.1, v17.2.2.2.2.2.2.2.2.2.2.2.2.2.2.2.2.2.2.2.2.1, v17.2.2.2.2.2.2.2.2.2.2.2.2.2.2.2.2.2.2.2.2.2.1, v17.2.2.2.2.2.2.2.2.2.2.2.2.2.2.2.2.2.2.2.2.2.2.1, v17.2.2.2.2.2.2.2.2.2.2.2.2.2.2.2.2.2.2.2.2.2.2.2.1, v17.2.2.2.2.2.2.2.2.2.2.2.2.2.2.2.2.2.2.2.2.2.2.2.2.1, v17.2.2.2.2.2.2.2.2.2.2.2.2.2.2.2.2.2.2.2.2.2.2.2.2.2.1, v17.2.2.2.2.2.2.2.2.2.2.2.2.2.2.2.2.2.2.2.2.2.2.2.2.2.2.1, v17.2.2.2.2.2.2.2.2.2.2.2.2.2.2.2.2.2.2.2.2.2.2.2.2.2.2.2.1, v17.2.2.2.2.2.2.2.2.2.2.2.2.2.2.2.2.2.2.2.2.2.2.2.2.2.2.2.2.1, v17.2.2.2.2.2.2.2.2.2.2.2.2.2.2.2.2.2.2.2.2.2.2.2.2.2.2.2.2.2.1, v17.2.2.2.2.2.2.2.2.2.2.2.2.2.2.2.2.2.2.2.2.2.2.2.2.2.2.2.2.2.2.1, v17.2.2.2.2.2.2.2.2.2.2.2.2.2.2.2.2.2.2.2.2.2.2.2.2.2.2.2.2.2.2.2.1, v17.2.2.2.2.2.2.2.2.2.2.2.2.2.2.2.2.2.2.2.2.2.2.2.2.2.2.2.2.2.2.2.2.1, v17.2.2.2.2.2.2.2.2.2.2.2.2.2.2.2.2.2.2.2.2.2.2.2.2.2.2.2.2.2.2.2.2.2.1, ()))) fun v19 =>
  joinB (β := (D_api_Deed × Bool × Unit)) (γ := (Int × Int × Int × Int × Int × (List UInt8) × Int × Int × (List UInt8) × Int × Int × Int × Int × Int × Int × Int × Int × Int × (List UInt8) × Int × Int × (List UInt8) × Int × Int × Int × Int × (List (List UInt8)) × Bool × Unit)) (
   bif v19.2.2.2.2.2.2.2.2.2.2.2.2.2.2.2.2.2.2.2.2.2.2.2.2.2.2.2.2.2.2.2.1 then
    Option.bind (order_words_number (v19.2.2.2.2.2.2.2.2.2.2.2.2.2.2.2.2.2.2.2.2.2.2.2.2.2.2.2.2.2.2.2.2.1, v19.2.2.2.2.2.2.2.2.2.2.2.2.2.2.2.2.2.2.2.2.2.2.2.2.2.2.2.2.2.2.2.2.2.1, ())) fun r20 =>
    some (Sum.inr (v19.1, v19.2.1, v19.2.2.1, v19.2.2.2.1, v19.2.2.2.2.1, v19.2.2.2.2.2.1, v19.2.2.2.2.2.2.1, v19.2.2.2.2.2.2.2.1, v19.2.2.2.2.2.2.2.2.1, v19.2.2.2.2.2.2.2.2.2.1, v19.2.2.2.2.2.2.2.2.2.2.1, v19.2.2.2.2.2.2.2.2.2.2.2.1, v19.2.2.2.2.2.2.2.2.2.2.2.2.1, v19.2.2.2.2.2.2.2.2.2.2.2.2.2.1, v19.2.2.2.2.2.2.2.2.2.2.2.2.2.2.1, v19.2.2.2.2.2.2.2.2.2.2.2.2.2.2.2.1, v19.2.2.2.2.2.2.2.2.2.2.2.2.2.2.2.2.1, v19.2.2.2.2.2.2.2.2.2.2.2.2.2.2.2.2.2.1, v19.2.2.2.2.2.2.2.2.2.2.2.2.2.2.2.2.2.2.1, v19.2.2.2.2.2.2.2.2.2.2.2.2.2.2.2.2.2.2.2.1, v19.2.2.2.2.2.2.2.2.2.2.2.2.2.2.2.2.2.2.2.2.1, v19.2.2.2.2.2.2.2.2.2.2.2.2.2.2.2.2.2.2.2.2.2.1, v19.2.2.2.2.2.2.2.2.2.2.2.2.2.2.2.2.2.2.2.2.2.2.1, v19.2.2.2.2.2.2.2.2.2.2.2.2.2.2.2.2.2.2.2.2.2.2.2.1, v19.2.2.2.2.2.2.2.2.2.2.2.2.2.2.2.2.2.2.2.2.2.2.2.2.1, r20.1, r20.2.1.1, r20.2.1.2.1, ()))
   else
    some (Sum.inr (v19.1, v19.2.1, v19.2.2.1, v19.2.2.2.1, v19.2.2.2.2.1, v19.2.2.2.2.2.1, v19.2.2.2.2.2.2.1, v19.2.2.2.2.2.2.2.1, v19.2.2.2.2.2.2.2.2.1, v19.2.2.2.2.2.2.2.2.2.1, v19.2.2.2.2.2.2.2.2.2.2.1, v19.2.2.2.2.2.2.2.2.2.2.2.1, v19.2.2.2.2.2.2.2.2.2.2.2.2.1, v19.2.2.2.2.2.2.2.2.2.2.2.2.2.1, v19.2.2.2.2.2.2.2.2.2.2.2.2.2.2.1, v19.2.2.2.2.2.2.2.2.2.2.2.2.2.2.2.1, v19.2.2.2.2.2.2.2.2.2.2.2.2.2.2.2.2.1, v19.2.2.2.2.2.2.2.2.2.2.2.2.2.2.2.2.2.1, v19.2.2.2.2.2.2.2.2.2.2.2.2.2.2.2.2.2.2.1, v19.2.2.2.2.2.2.2.2.2.2.2.2.2.2.2.2.2.2.2.1, v19.2.2.2.2.2.2.2.2.2.2.2.2.2.2.2.2.2.2.2.2.1, v19.2.2.2.2.2.2.2.2.2.2.2.2.2.2.2.2.2.2.2.2.2.1, v19.2.2.2.2.2.2.2.2.2.2.2.2.2.2.2.2.2.2.2.2.2.2.1, v19.2.2.2.2.2.2.2.2.2.2.2.2.2.2.2.2.2.2.2.2.2.2.2.1, v19.2.2.2.2.2.2.2.2.2.2.2.2.2.2.2.2.2.2.2.2.2.2.2.2.1, v19.2.2.2.2.2.2.2.2.2.2.2.2.2.2.2.2.2.2.2.2.2.2.2.2.2.1, v19.2.2.2.2.2.2.2.2.2.2.2.2.2.2.2.2.2.2.2.2.2.2.2.2.2.2.2.2.2.2.2.2.1, v19.2.2.2.2.2.2.2.2.2.2.2.2.2.2.2.2.2.2.2.2.2.2.2.2.2.2.2.2.2.2.2.2.2.1, ()))) fun v21 =>
  bif !v21.2.2.2.2.2.2.2.2.2.2.2.2.2.2.2.2.2.2.2.2.2.2.2.2.2.2.2.1 then
   some ((v21.2.2.2.2.2.2.2.2.2.2.2.2.2.1, v21.2.2.2.2.2.2.2.2.2.2.2.2.2.2.1, v21.2.2.2.2.2.2.2.2.2.2.2.2.2.2.2.1, v21.2.2.2.2.2.2.2.2.2.2.2.2.2.2.2.2.1, v21.2.2.2.2.2.2.2.2.2.2.2.2.2.2.2.2.2.1, v21.2.2.2.2.2.2.2.2.2.2.2.2.2.2.2.2.2.2.1, (v21.2.2.2.2.2.2.2.2.2.2.2.2.2.2.2.2.2.2.2.1, v21.2.2.2.2.2.2.2.2.2.2.2.2.2.2.2.2.2.2.2.2.1), v21.2.2.2.2.2.2.2.2.2.2.2.2.2.2.2.2.2.2.2.2.2.1, (v21.2.2.2.2.2.2.2.2.2.2.2.2.2.2.2.2.2.2.2.2.2.2.1, v21.2.2.2.2.2.2.2.2.2.2.2.2.2.2.2.2.2.2.2.2.2.2.2.1), v21.2.2.2.2.2.2.2.2.2.2.2.2.2.2.2.2.2.2.2.2.2.2.2.2.1, v21.2.2.2.2.2.2.2.2.2.2.2.2.2.2.2.2.2.2.2.2.2.2.2.2.2.1), ((List.length v21.2.2.2.2.2.2.2.2.2.2.2.2.2.2.2.2.2.2.2.2.2.2.2.2.2.2.1 : Int)) == 0, ())
  else
   some ((v21.2.2.2.2.2.2.2.2.2.2.2.2.2.1, v21.2.2.2.2.2.2.2.2.2.2.2.2.2.2.1, v21.2.2.2.2.2.2.2.2.2.2.2.2.2.2.2.1, v21.2.2.2.2.2.2.2.2.2.2.2.2.2.2.2.2.1, v21.2.2.2.2.2.2.2.2.2.2.2.2.2.2.2.2.2.1, v21.2.2.2.2.2.2.2.2.2.2.2.2.2.2.2.2.2.2.1, (v21.2.2.2.2.2.2.2.2.2.2.2.2.2.2.2.2.2.2.2.1, v21.2.2.2.2.2.2.2.2.2.2.2.2.2.2.2.2.2.2.2.2.1), v21.2.2.2.2.2.2.2.2.2.2.2.2.2.2.2.2.2.2.2.2.2.1, (v21.2.2.2.2.2.2.2.2.2.2.2.2.2.2.2.2.2.2.2.2.2.2.1, v21.2.2.2.2.2.2.2.2.2.2.2.2.2.2.2.2.2.2.2.2.2.2.2.1), v21.2.2.2.2.2.2.2.2.2.2.2.2.2.2.2.2.2.2.2.2.2.2.2.2.1, v21.2.2.2.2.2.2.2.2.2.2.2.2.2.2.2.2.2.2.2.2.2.2.2.2.2.1), false, ())

abbrev order_Read_x6 : Type := (List (List UInt8)) × Bool × (List D_api_Deed) × (List (List UInt8)) × Int × Int × Unit
abbrev order_Read_r6 : Type := (((List D_api_Deed) × Int × Int × Unit) ⊕ ((List D_api_Deed) × Unit))
def order_Read_b6  (x1 : order_Read_x6) (again : order_Read_x6 → Option order_Read_r6) : Option order_Read_r6 :=
 bif decide (x1.2.2.2.2.2.1 < x1.2.2.2.2.1) then
  Option.bind (idx x1.2.2.2.1 x1.2.2.2.2.2.1) fun y2 =>
  Option.bind (order_readDeed y2) fun r3 =>
  Option.bind (
   bif !r3.2.1 then
    some (true, ())
   else
    bif !x1.2.1 then
     some (x1.2.2.2.2.2.1 == (w64 (((List.length x1.1 : Int)) - 1)), ())
    else
     some (false, ())) fun v4 =>
  bif v4.1 then
   some (Sum.inl ([], w64 (x1.2.2.2.2.2.1 + 1), 10, ()))
  else
   chk (decide (((List.length x1.2.2.1) + 1) * 120 ≤ 140737488355328) && decide ((List.length x1.2.2.1) + 1 ≤ maxLen)) <|
   again (x1.1, x1.2.1, x1.2.2.1 ++ [r3.1], x1.2.2.2.1, x1.2.2.2.2.1, w64 (x1.2.2.2.2.2.1 + 1), ())
 else
  some (Sum.inr (x1.2.2.1, ()))

def order_Read (a0 : List UInt8) : Option ((List D_api_Deed) × Int × Int × Unit) :=
 bif decide (((List.length a0 : Int)) > 200000) then
  some ([], 0, 2, ())
 else
  Option.bind (kit_Lines a0) fun r1 =>
  joinB (β := ((List D_api_Deed) × Int × Int × Unit)) (γ := ((List D_api_Deed) × Unit)) (
   iter (X := order_Read_x6) (β := order_Read_r6) (List.length r1.1 + (List.length ([] : List D_api_Deed) + (List.length r1.1 + (Int.natAbs ((List.length r1.1 : Int)) + (Int.natAbs (0 : Int) + 2))))) (r1.1, r1.2.1, [], r1.1, (List.length r1.1 : Int), 0, ()) (order_Read_b6)) fun v6 =>
  Option.bind (order_CheckDeeds v6.1) fun r7 =>
  bif r7.1 != 0 then
   some ([], 0, r7.1, ())
  else
   some (v6.1, 0, 0, ())

def l9_awake  : Option (Bool × Unit) :=
 Option.bind (order_Read [53, 32, 98, 117, 121, 101, 114, 32, 49, 32, 100, 117, 101, 32, 50, 32, 55, 10]) fun r1 =>
 Option.bind (
  bif r1.2.2.1 == 0 then
   bif r1.2.1 == 0 then
    bif ((List.length r1.1 : Int)) == 1 then
     chk (decide (0 ≤ (0 : Int)) && decide ((0 : Int) < (List.length r1.1 : Int))) <|
     Option.bind (r1.1[0]?) fun y2 =>
     some (y2.2.2.2.2.2.2.2.2.2.1 == 7, ())
    else
     some (false, ())
   else
    some (false, ())
  else
   some (false, ())) fun v3 =>
 some (v3.1, ())

noncomputable def slices_Clone_api_Deed (a0 : List D_api_Deed) : Option ((List D_api_Deed) × Unit) :=
 bif List.isEmpty a0 then
  both (
   some ([], ())) (
   chk (decide ((0 + (List.length a0)) * 120 ≤ 140737488355328) && decide (0 + (List.length a0) ≤ maxLen)) <|
   some (a0, ()))
 else
  chk (decide ((0 + (List.length a0)) * 120 ≤ 140737488355328) && decide (0 + (List.length a0) ≤ maxLen)) <|
  some (a0, ())

abbrev slices_Equal_api_Deed_x4 : Type := (List D_api_Deed) × (List D_api_Deed) × Int × Int × Unit
abbrev slices_Equal_api_Deed_r4 : Type := ((Bool × Unit) ⊕ Unit)
def slices_Equal_api_Deed_b4  (x1 : slices_Equal_api_Deed_x4) (again : slices_Equal_api_Deed_x4 → Option slices_Equal_api_Deed_r4) : Option slices_Equal_api_Deed_r4 :=
 bif decide (x1.2.2.2.1 < x1.2.2.1) then
  Option.bind (idx x1.1 x1.2.2.2.1) fun y2 =>
  Option.bind (idx x1.2.1 x1.2.2.2.1) fun y3 =>
  bif !((y2.1 == y3.1) && ((y2.2.1 == y3.2.1) && ((y2.2.2.1 == y3.2.2.1) && ((y2.2.2.2.1 == y3.2.2.2.1) && ((y2.2.2.2.2.1 == y3.2.2.2.2.1) && ((y2.2.2.2.2.2.1 == y3.2.2.2.2.2.1) && (((y2.2.2.2.2.2.2.1.1 == y3.2.2.2.2.2.2.1.1) && ((y2.2.2.2.2.2.2.1.2 == y3.2.2.2.2.2.2.1.2) && true)) && ((y2.2.2.2.2.2.2.2.1 == y3.2.2.2.2.2.2.2.1) && (((y2.2.2.2.2.2.2.2.2.1.1 == y3.2.2.2.2.2.2.2.2.1.1) && ((y2.2.2.2.2.2.2.2.2.1.2 == y3.2.2.2.2.2.2.2.2.1.2) && true)) && ((y2.2.2.2.2.2.2.2.2.2.1 == y3.2.2.2.2.2.2.2.2.2.1) && ((y2.2.2.2.2.2.2.2.2.2.2 == y3.2.2.2.2.2.2.2.2.2.2) && true))))))))))) then
   some (Sum.inl (false, ()))
  else
   again (x1.1, x1.2.1, x1.2.2.1, w64 (x1.2.2.2.1 + 1), ())
 else
  some (Sum.inr ())

def slices_Equal_api_Deed (a0 : List D_api_Deed) (a1 : List D_api_Deed) : Option (Bool × Unit) :=
 bif ((List.length a0 : Int)) != ((List.length a1 : Int)) then
  some (false, ())
 else
  joinB (β := (Bool × Unit)) (γ := Unit) (
   iter (X := slices_Equal_api_Deed_x4) (β := slices_Equal_api_Deed_r4) (List.length a0 + (List.length a1 + (Int.natAbs ((List.length a0 : Int)) + (Int.natAbs (0 : Int) + 2)))) (a0, a1, (List.length a0 : Int), 0, ()) (slices_Equal_api_Deed_b4)) fun _ =>
  some (true, ())

def r9_within (a0 : Int) (a1 : Int) (a2 : Int) : Option (Bool × Unit) :=
 Option.bind (
  bif decide (a1 ≤ a0) then
   some (decide (a0 ≤ a2), ())
  else
   some (false, ())) fun v1 =>
 some (v1.1, ())

def r9_isBuyers (a0 : Int) : Option (Bool × Unit) :=
 Option.bind (r9_within a0 1 4) fun r1 =>
 bif r1.1 then
  some (true, ())
 else
  bif a0 == 8 then
   some (true, ())
  else
   bif a0 == 10 then
    some (true, ())
   else
    some (a0 == 11, ())

def r9_usesOf (a0 : Int) : Option (D_interchangeref9_uses × Unit) :=
 bif a0 == 1 then
  some ((true, true, true, true, false), ())
 else
  joinB (β := (D_interchangeref9_uses × Unit)) (γ := (Int × Bool × Bool × Bool × Bool × Bool × Bool × Unit)) (
   bif a0 == 2 then
    some (Sum.inr (a0, a0 == 2, false, false, false, false, false, ()))
   else
    bif a0 == 9 then
     some (Sum.inr (a0, a0 == 9, false, false, false, false, false, ()))
    else
     bif a0 == 10 then
      some (Sum.inr (a0, a0 == 10, false, false, false, false, false, ()))
     else
      some (Sum.inr (a0, a0 == 11, false, false, false, false, false, ()))) fun v1 =>
  bif v1.2.1 then
   some ((true, false, false, false, false), ())
  else
   bif v1.1 == 3 then
    some ((false, false, true, false, false), ())
   else
    bif v1.1 == 4 then
     some ((false, true, false, false, false), ())
    else
     bif v1.1 == 7 then
      some ((true, false, true, false, false), ())
     else
      some ((false, false, false, false, true), ())

def r9_whole (a0 : Int) : Option (D_api_Decimal × Unit) :=
 some ((a0, 0), ())

def r9_cmp (a0 : D_api_Decimal) (a1 : D_api_Decimal) : Option (Int × Unit) :=
 Option.bind (r1_At a0 9) fun r1 =>
 Option.bind (r1_At a1 9) fun r2 =>
 Option.bind (r1_Cmp r1.1 r2.1) fun r3 =>
 some (r3.1, ())

def r9_checkQuantity (a0 : D_api_Decimal) (a1 : Bool) : Option (Int × Unit) :=
 Option.bind (
  Option.bind (r1_CheckDecimal a0) fun r1 =>
  bif r1.1 != 0 then
   some (true, ())
  else
   bif decide (a0.1 < 0) then
    some (true, ())
   else
    bif a0.1 == 0 then
     bif !a1 then
      some (true, ())
     else
      Option.bind (r9_whole 1000000000) fun r2 =>
      Option.bind (r9_cmp a0 r2.1) fun r3 =>
      bif decide (r3.1 > 0) then
       some (true, ())
      else
       some (decide (a0.2 > 3), ())
    else
     Option.bind (r9_whole 1000000000) fun r4 =>
     Option.bind (r9_cmp a0 r4.1) fun r5 =>
     bif decide (r5.1 > 0) then
      some (true, ())
     else
      some (decide (a0.2 > 3), ())) fun v6 =>
 bif v6.1 then
  some (1, ())
 else
  some (0, ())

def r9_checkPrice (a0 : D_api_Decimal) : Option (Int × Unit) :=
 Option.bind (r1_CheckDecimal a0) fun r1 =>
 bif r1.1 != 0 then
  some (1, ())
 else
  bif decide (a0.1 < 0) then
   some (1, ())
  else
   Option.bind (r9_whole 1000000000) fun r2 =>
   Option.bind (r9_cmp a0 r2.1) fun r3 =>
   bif decide (r3.1 > 0) then
    some (1, ())
   else
    bif decide (a0.2 > 4) then
     some (1, ())
    else
     some (0, ())

def r9_checkFields (a0 : D_api_Deed) : Option (Int × Unit) :=
 Option.bind (r9_usesOf a0.2.2.2.1) fun r1 =>
 Option.bind (
  bif r1.1.1 then
   Option.bind (r9_checkQuantity a0.2.2.2.2.2.2.1 (a0.2.2.2.1 == 2)) fun r2 =>
   some (r2.1 != 0, ())
  else
   some (false, ())) fun v3 =>
 bif v3.1 then
  some (1, ())
 else
  Option.bind (
   bif r1.1.2.1 then
    Option.bind (r9_checkPrice a0.2.2.2.2.2.2.2.2.1) fun r4 =>
    some (r4.1 != 0, ())
   else
    some (false, ())) fun v5 =>
  bif v5.1 then
   some (1, ())
  else
   Option.bind (
    bif r1.1.2.2.1 then
     Option.bind (r1_IsDay a0.2.2.2.2.2.2.2.2.2.1) fun r6 =>
     some (!r6.1, ())
    else
     some (false, ())) fun v7 =>
   bif v7.1 then
    some (1, ())
   else
    Option.bind (
     bif r1.1.2.2.2.1 then
      Option.bind (r1_IsName a0.2.2.2.2.2.1) fun r8 =>
      bif !r8.1 then
       some (true, ())
      else
       Option.bind (r1_IsName a0.2.2.2.2.2.2.2.1) fun r9 =>
       some (!r9.1, ())
     else
      some (false, ())) fun v10 =>
    bif v10.1 then
     some (5, ())
    else
     Option.bind (
      bif r1.1.2.2.2.2 then
       Option.bind (r9_within a0.2.2.2.2.2.2.2.2.2.2 1 2000) fun r11 =>
       some (!r11.1, ())
      else
       some (false, ())) fun v12 =>
     bif v12.1 then
      some (1, ())
     else
      Option.bind (
       bif !r1.1.1 then
        bif !((a0.2.2.2.2.2.2.1.1 == 0) && ((a0.2.2.2.2.2.2.1.2 == 0) && true)) then
         some (true, ())
        else
         bif !r1.1.2.1 then
          bif !((a0.2.2.2.2.2.2.2.2.1.1 == 0) && ((a0.2.2.2.2.2.2.2.2.1.2 == 0) && true)) then
           some (true, ())
          else
           bif !r1.1.2.2.1 then
            bif a0.2.2.2.2.2.2.2.2.2.1 != 0 then
             some (true, ())
            else
             bif !r1.1.2.2.2.1 then
              chk (decide (List.length a0.2.2.2.2.2.1 + List.length a0.2.2.2.2.2.2.2.1 ≤ maxLen)) <|
              bif !((a0.2.2.2.2.2.1 ++ a0.2.2.2.2.2.2.2.1) == []) then
               some (true, ())
              else
               bif !r1.1.2.2.2.2 then
                some (a0.2.2.2.2.2.2.2.2.2.2 != 0, ())
               else
                some (false, ())
             else
              bif !r1.1.2.2.2.2 then
               some (a0.2.2.2.2.2.2.2.2.2.2 != 0, ())
              else
               some (false, ())
           else
            bif !r1.1.2.2.2.1 then
             chk (decide (List.length a0.2.2.2.2.2.1 + List.length a0.2.2.2.2.2.2.2.1 ≤ maxLen)) <|
             bif !((a0.2.2.2.2.2.1 ++ a0.2.2.2.2.2.2.2.1) == []) then
              some (true, ())
             else
              bif !r1.1.2.2.2.2 then
               some (a0.2.2.2.2.2.2.2.2.2.2 != 0, ())
              else
               some (false, ())
            else
             bif !r1.1.2.2.2.2 then
              some (a0.2.2.2.2.2.2.2.2.2.2 != 0, ())
             else
              some (false, ())
         else
          bif !r1.1.2.2.1 then
           bif a0.2.2.2.2.2.2.2.2.2.1 != 0 then
            some (true, ())
           else
            bif !r1.1.2.2.2.1 then
             chk (decide (List.length a0.2.2.2.2.2.1 + List.length a0.2.2.2.2.2.2.2.1 ≤ maxLen)) <|
             bif !((a0.2.2.2.2.2.1 ++ a0.2.2.2.2.2.2.2.1) == []) then
              some (true, ())
             else
              bif !r1.1.2.2.2.2 then
               some (a0.2.2.2.2.2.2.2.2.2.2 != 0, ())
              else
               some (false, ())
            else
             bif !r1.1.2.2.2.2 then
              some (a0.2.2.2.2.2.2.2.2.2.2 != 0, ())
             else
              some (false, ())
          else
           bif !r1.1.2.2.2.1 then
            chk (decide (List.length a0.2.2.2.2.2.1 + List.length a0.2.2.2.2.2.2.2.1 ≤ maxLen)) <|
            bif !((a0.2.2.2.2.2.1 ++ a0.2.2.2.2.2.2.2.1) == []) then
             some (true, ())
            else
             bif !r1.1.2.2.2.2 then
              some (a0.2.2.2.2.2.2.2.2.2.2 != 0, ())
             else
              some (false, ())
           else
            bif !r1.1.2.2.2.2 then
             some (a0.2.2.2.2.2.2.2.2.2.2 != 0, ())
            else
             some (false, ())
       else
        bif !r1.1.2.1 then
         bif !((a0.2.2.2.2.2.2.2.2.1.1 == 0) && ((a0.2.2.2.2.2.2.2.2.1.2 == 0) && true)) then
          some (true, ())
         else
          bif !r1.1.2.2.1 then
           bif a0.2.2.2.2.2.2.2.2.2.1 != 0 then
            some (true, ())
           else
            bif !r1.1.2.2.2.1 then
             chk (decide (List.length a0.2.2.2.2.2.1 + List.length a0.2.2.2.2.2.2.2.1 ≤ maxLen)) <|
             bif !((a0.2.2.2.2.2.1 ++ a0.2.2.2.2.2.2.2.1) == []) then
              some (true, ())
             else
              bif !r1.1.2.2.2.2 then
               some (a0.2.2.2.2.2.2.2.2.2.2 != 0, ())
              else
               some (false, ())
            else
             bif !r1.1.2.2.2.2 then
              some (a0.2.2.2.2.2.2.2.2.2.2 != 0, ())
             else
              some (false, ())
          else
           bif !r1.1.2.2.2.1 then
            chk (decide (List.length a0.2.2.2.2.2.1 + List.length a0.2.2.2.2.2.2.2.1 ≤ maxLen)) <|
            bif !((a0.2.2.2.2.2.1 ++ a0.2.2.2.2.2.2.2.1) == []) then
             some (true, ())
            else
             bif !r1.1.2.2.2.2 then
              some (a0.2.2.2.2.2.2.2.2.2.2 != 0, ())
             else
              some (false, ())
           else
            bif !r1.1.2.2.2.2 then
             some (a0.2.2.2.2.2.2.2.2.2.2 != 0, ())
            else
             some (false, ())
        else
         bif !r1.1.2.2.1 then
          bif a0.2.2.2.2.2.2.2.2.2.1 != 0 then
           some (true, ())
          else
           bif !r1.1.2.2.2.1 then
            chk (decide (List.length a0.2.2.2.2.2.1 + List.length a0.2.2.2.2.2.2.2.1 ≤ maxLen)) <|
            bif !((a0.2.2.2.2.2.1 ++ a0.2.2.2.2.2.2.2.1) == []) then
             some (true, ())
            else
             bif !r1.1.2.2.2.2 then
              some (a0.2.2.2.2.2.2.2.2.2.2 != 0, ())
             else
              some (false, ())
           else
            bif !r1.1.2.2.2.2 then
             some (a0.2.2.2.2.2.2.2.2.2.2 != 0, ())
            else
             some (false, ())
         else
          bif !r1.1.2.2.2.1 then
           chk (decide (List.length a0.2.2.2.2.2.1 + List.length a0.2.2.2.2.2.2.2.1 ≤ maxLen)) <|
           bif !((a0.2.2.2.2.2.1 ++ a0.2.2.2.2.2.2.2.1) == []) then
            some (true, ())
           else
            bif !r1.1.2.2.2.2 then
             some (a0.2.2.2.2.2.2.2.2.2.2 != 0, ())
            else
             some (false, ())
          else
           bif !r1.1.2.2.2.2 then
            some (a0.2.2.2.2.2.2.2.2.2.2 != 0, ())
           else
            some (false, ())) fun v13 =>
      bif v13.1 then
       some (3, ())
      else
       some (0, ())

abbrev r9_deedOrder_x2 : Type := Int × Int × (List Int) × Unit
abbrev r9_deedOrder_r2 : Type := ((Int × Unit) ⊕ Unit)
def r9_deedOrder_b2  (x1 : r9_deedOrder_x2) (again : r9_deedOrder_x2 → Option r9_deedOrder_r2) : Option r9_deedOrder_r2 :=
 bif decide (x1.2.1 < x1.1) then
  chk (decide (0 ≤ x1.2.1) && decide (x1.2.1 < (List.length x1.2.2.1 : Int))) <|
  Option.bind (x1.2.2.1[x1.2.1.toNat]?) fun y2 =>
  bif y2 != 0 then
   some (Sum.inl (y2, ()))
  else
   again (x1.1, w64 (x1.2.1 + 1), x1.2.2.1, ())
 else
  some (Sum.inr ())

def r9_deedOrder (a0 : D_api_Deed) (a1 : D_api_Deed) : Option (Int × Unit) :=
 joinB (β := (Int × Unit)) (γ := Unit) (
  iter (X := r9_deedOrder_x2) (β := r9_deedOrder_r2) (Int.natAbs ((List.length [(w64 (a0.1 - a1.1)), (w64 (a0.2.1 - a1.2.1)), (w64 (a0.2.2.1 - a1.2.2.1))] : Int)) + (Int.natAbs (0 : Int) + (List.length ([(w64 (a0.1 - a1.1)), (w64 (a0.2.1 - a1.2.1)), (w64 (a0.2.2.1 - a1.2.2.1))] : List Int) + 2))) ((List.length [(w64 (a0.1 - a1.1)), (w64 (a0.2.1 - a1.2.1)), (w64 (a0.2.2.1 - a1.2.2.1))] : Int), 0, [(w64 (a0.1 - a1.1)), (w64 (a0.2.1 - a1.2.1)), (w64 (a0.2.2.1 - a1.2.2.1))], ()) (r9_deedOrder_b2)) fun _ =>
 some (0, ())

abbrev r9_lastNo_x3 : Type := Int × Int × (List D_api_Deed) × Int × Int × Unit
abbrev r9_lastNo_r3 : Type := ((Int × Unit) ⊕ (Int × Unit))
def r9_lastNo_b3  (x1 : r9_lastNo_x3) (again : r9_lastNo_x3 → Option r9_lastNo_r3) : Option r9_lastNo_r3 :=
 bif decide (x1.2.2.2.2.1 < x1.2.2.2.1) then
  Option.bind (idx x1.2.2.1 x1.2.2.2.2.1) fun y2 =>
  bif y2.2.1 == x1.1 then
   again (x1.1, y2.2.2.1, x1.2.2.1, x1.2.2.2.1, w64 (x1.2.2.2.2.1 + 1), ())
  else
   again (x1.1, x1.2.1, x1.2.2.1, x1.2.2.2.1, w64 (x1.2.2.2.2.1 + 1), ())
 else
  some (Sum.inr (x1.2.1, ()))

def r9_lastNo (a0 : List D_api_Deed) (a1 : Int) : Option (Int × Unit) :=
 joinB (β := (Int × Unit)) (γ := (Int × Unit)) (
  iter (X := r9_lastNo_x3) (β := r9_lastNo_r3) (Int.natAbs a1 + (Int.natAbs (0 : Int) + (List.length a0 + (Int.natAbs ((List.length a0 : Int)) + (Int.natAbs (0 : Int) + 2))))) (a1, 0, a0, (List.length a0 : Int), 0, ()) (r9_lastNo_b3)) fun v3 =>
 some (v3.1, ())

abbrev r9_CheckDeeds_x4 : Type := (List D_api_Deed) × (List D_api_Deed) × Int × Int × Unit
abbrev r9_CheckDeeds_r4 : Type := ((Int × Unit) ⊕ Unit)
def r9_CheckDeeds_b4  (x1 : r9_CheckDeeds_x4) (again : r9_CheckDeeds_x4 → Option r9_CheckDeeds_r4) : Option r9_CheckDeeds_r4 :=
 bif decide (x1.2.2.2.1 < x1.2.2.1) then
  Option.bind (idx x1.2.1 x1.2.2.2.1) fun y2 =>
  Option.bind (r1_IsDay y2.1) fun r3 =>
  bif !r3.1 then
   some (Sum.inl (1, ()))
  else
   Option.bind (
    bif y2.2.1 != 1 then
     some (y2.2.1 != 2, ())
    else
     some (false, ())) fun v4 =>
   bif v4.1 then
    some (Sum.inl (4, ()))
   else
    Option.bind (r9_within y2.2.2.1 1 2000) fun r5 =>
    bif !r5.1 then
     some (Sum.inl (1, ()))
    else
     Option.bind (r9_within y2.2.2.2.1 1 11) fun r6 =>
     bif !r6.1 then
      some (Sum.inl (4, ()))
     else
      Option.bind (r9_isBuyers y2.2.2.2.1) fun r7 =>
      bif !(r7.1 == (y2.2.1 == 1)) then
       some (Sum.inl (4, ()))
      else
       Option.bind (r9_within y2.2.2.2.2.1 1 99999) fun r8 =>
       bif !r8.1 then
        some (Sum.inl (1, ()))
       else
        Option.bind (r9_checkFields y2) fun r9 =>
        bif r9.1 != 0 then
         some (Sum.inl (r9.1, ()))
        else
         Option.bind (
          bif decide (x1.2.2.2.1 > 0) then
           Option.bind (idx x1.1 (w64 (x1.2.2.2.1 - 1))) fun y10 =>
           Option.bind (r9_deedOrder y2 y10) fun r11 =>
           some (decide (r11.1 ≤ 0), ())
          else
           some (false, ())) fun v12 =>
         bif v12.1 then
          some (Sum.inl (8, ()))
         else
          chk (decide (0 ≤ (0 : Int)) && decide ((0 : Int) ≤ x1.2.2.2.1) && decide (x1.2.2.2.1 ≤ (List.length x1.1 : Int))) <|
          Option.bind (r9_lastNo (List.drop 0 (List.take (Int.toNat x1.2.2.2.1) x1.1)) y2.2.1) fun r13 =>
          bif y2.2.2.1 != (w64 (r13.1 + 1)) then
           some (Sum.inl (9, ()))
          else
           again (x1.1, x1.2.1, x1.2.2.1, w64 (x1.2.2.2.1 + 1), ())
 else
  some (Sum.inr ())

def r9_CheckDeeds (a0 : List D_api_Deed) : Option (Int × Unit) :=
 bif decide (((List.length a0 : Int)) > 2000) then
  some (2, ())
 else
  joinB (β := (Int × Unit)) (γ := Unit) (
   iter (X := r9_CheckDeeds_x4) (β := r9_CheckDeeds_r4) (List.length a0 + (List.length a0 + (Int.natAbs ((List.length a0 : Int)) + (Int.natAbs (0 : Int) + 2)))) (a0, a0, (List.length a0 : Int), 0, ()) (r9_CheckDeeds_b4)) fun _ =>
  some (0, ())

abbrev slices_Concat_api_Deed_x3 : Type := (List (List D_api_Deed)) × Int × (List (List D_api_Deed)) × Int × Int × Unit
abbrev slices_Concat_api_Deed_r3 : Type := (((List D_api_Deed) × Unit) ⊕ ((List (List D_api_Deed)) × Int × Unit))
def slices_Concat_api_Deed_b3  (x1 : slices_Concat_api_Deed_x3) (again : slices_Concat_api_Deed_x3 → Option slices_Concat_api_Deed_r3) : Option slices_Concat_api_Deed_r3 :=
 bif decide (x1.2.2.2.2.1 < x1.2.2.2.1) then
  Option.bind (idx x1.2.2.1 x1.2.2.2.2.1) fun y2 =>
  bif decide ((w64 (x1.2.1 + ((List.length y2 : Int)))) < 0) then
   none
  else
   again (x1.1, w64 (x1.2.1 + ((List.length y2 : Int))), x1.2.2.1, x1.2.2.2.1, w64 (x1.2.2.2.2.1 + 1), ())
 else
  some (Sum.inr (x1.1, x1.2.1, ()))

abbrev slices_Concat_api_Deed_x11 : Type := (List D_api_Deed) × (List (List D_api_Deed)) × Int × Int × Unit
abbrev slices_Concat_api_Deed_r11 : Type := (((List D_api_Deed) × Unit) ⊕ ((List D_api_Deed) × Unit))
def slices_Concat_api_Deed_b11  (x1 : slices_Concat_api_Deed_x11) (again : slices_Concat_api_Deed_x11 → Option slices_Concat_api_Deed_r11) : Option slices_Concat_api_Deed_r11 :=
 bif decide (x1.2.2.2.1 < x1.2.2.1) then
  Option.bind (idx x1.2.1 x1.2.2.2.1) fun y2 =>
  chk (decide (((List.length x1.1) + (List.length y2)) * 120 ≤ 140737488355328) && decide ((List.length x1.1) + (List.length y2) ≤ maxLen)) <|
  again (x1.1 ++ y2, x1.2.1, x1.2.2.1, w64 (x1.2.2.2.1 + 1), ())
 else
  some (Sum.inr (x1.1, ()))

def slices_Concat_api_Deed (a0 : List (List D_api_Deed)) : Option ((List D_api_Deed) × Unit) :=
 joinB (β := ((List D_api_Deed) × Unit)) (γ := ((List (List D_api_Deed)) × Int × Unit)) (
  iter (X := slices_Concat_api_Deed_x3) (β := slices_Concat_api_Deed_r3) (List.length a0 + (Int.natAbs (0 : Int) + (List.length a0 + (Int.natAbs ((List.length a0 : Int)) + (Int.natAbs (0 : Int) + 2))))) (a0, 0, a0, (List.length a0 : Int), 0, ()) (slices_Concat_api_Deed_b3)) fun v3 =>
 Option.bind (slices_Grow_api_Deed [] v3.2.1) fun r4 =>
 joinB (β := ((List D_api_Deed) × Unit)) (γ := ((List D_api_Deed) × Unit)) (
  iter (X := slices_Concat_api_Deed_x11) (β := slices_Concat_api_Deed_r11) (List.length r4.1 + (List.length v3.1 + (Int.natAbs ((List.length v3.1 : Int)) + (Int.natAbs (0 : Int) + 2)))) (r4.1, v3.1, (List.length v3.1 : Int), 0, ()) (slices_Concat_api_Deed_b11)) fun v7 =>
 some (v7.1, ())

abbrev order_MergeDeeds_x2 : Type := (List D_api_Deed) × (List D_api_Deed) × Int × Int × (List (List D_api_Deed)) × Unit
abbrev order_MergeDeeds_r2 : Type := (((List D_api_Deed) × Int × Unit) ⊕ ((List D_api_Deed) × (List D_api_Deed) × Unit))
def order_MergeDeeds_b2  (x1 : order_MergeDeeds_x2) (again : order_MergeDeeds_x2 → Option order_MergeDeeds_r2) : Option order_MergeDeeds_r2 :=
 bif decide (x1.2.2.2.1 < x1.2.2.1) then
  chk (decide (0 ≤ x1.2.2.2.1) && decide (x1.2.2.2.1 < (List.length x1.2.2.2.2.1 : Int))) <|
  Option.bind (x1.2.2.2.2.1[x1.2.2.2.1.toNat]?) fun y2 =>
  Option.bind (order_CheckDeeds y2) fun r3 =>
  bif r3.1 != 0 then
   some (Sum.inl ([], r3.1, ()))
  else
   again (x1.1, x1.2.1, x1.2.2.1, w64 (x1.2.2.2.1 + 1), x1.2.2.2.2.1, ())
 else
  some (Sum.inr (x1.1, x1.2.1, ()))

abbrev order_MergeDeeds_x11 : Type := (List D_api_Deed) × Int × Int × (List D_api_Deed) × (List (D_api_Decimal × D_api_Deed)) × Unit
abbrev order_MergeDeeds_r11 : Type := (((List D_api_Deed) × Int × Unit) ⊕ ((List D_api_Deed) × Unit))
def order_MergeDeeds_b11  (x1 : order_MergeDeeds_x11) (again : order_MergeDeeds_x11 → Option order_MergeDeeds_r11) : Option order_MergeDeeds_r11 :=
 bif decide (x1.2.2.1 < x1.2.1) then
  chk (decide (0 ≤ x1.2.2.1) && decide (x1.2.2.1 < (List.length x1.2.2.2.1 : Int))) <|
  Option.bind (x1.2.2.2.1[x1.2.2.1.toNat]?) fun y2 =>
  bif !(Option.isSome (mget (k := t_api_Decimal) (v := t_api_Deed) x1.2.2.2.2.1 (y2.2.1, y2.2.2.1))) then
   chk (decide (((List.length x1.1) + 1) * 120 ≤ 140737488355328) && decide ((List.length x1.1) + 1 ≤ maxLen)) <|
   again (x1.1 ++ [y2], x1.2.1, w64 (x1.2.2.1 + 1), x1.2.2.2.1, mset (k := t_api_Decimal) (v := t_api_Deed) x1.2.2.2.2.1 (y2.2.1, y2.2.2.1) y2, ())
  else
   bif !(((Option.getD (α := D_api_Deed) (mget (k := t_api_Decimal) (v := t_api_Deed) x1.2.2.2.2.1 (y2.2.1, y2.2.2.1)) (0, 0, 0, 0, 0, [], (0, 0), [], (0, 0), 0, 0)).1 == y2.1) && (((Option.getD (α := D_api_Deed) (mget (k := t_api_Decimal) (v := t_api_Deed) x1.2.2.2.2.1 (y2.2.1, y2.2.2.1)) (0, 0, 0, 0, 0, [], (0, 0), [], (0, 0), 0, 0)).2.1 == y2.2.1) && (((Option.getD (α := D_api_Deed) (mget (k := t_api_Decimal) (v := t_api_Deed) x1.2.2.2.2.1 (y2.2.1, y2.2.2.1)) (0, 0, 0, 0, 0, [], (0, 0), [], (0, 0), 0, 0)).2.2.1 == y2.2.2.1) && (((Option.getD (α := D_api_Deed) (mget (k := t_api_Decimal) (v := t_api_Deed) x1.2.2.2.2.1 (y2.2.1, y2.2.2.1)) (0, 0, 0, 0, 0, [], (0, 0), [], (0, 0), 0, 0)).2.2.2.1 == y2.2.2.2.1) && (((Option.getD (α := D_api_Deed) (mget (k := t_api_Decimal) (v := t_api_Deed) x1.2.2.2.2.1 (y2.2.1, y2.2.2.1)) (0, 0, 0, 0, 0, [], (0, 0), [], (0, 0), 0, 0)).2.2.2.2.1 == y2.2.2.2.2.1) && (((Option.getD (α := D_api_Deed) (mget (k := t_api_Decimal) (v := t_api_Deed) x1.2.2.2.2.1 (y2.2.1, y2.2.2.1)) (0, 0, 0, 0, 0, [], (0, 0), [], (0, 0), 0, 0)).2.2.2.2.2.1 == y2.2.2.2.2.2.1) && ((((Option.getD (α := D_api_Deed) (mget (k := t_api_Decimal) (v := t_api_Deed) x1.2.2.2.2.1 (y2.2.1, y2.2.2.1)) (0, 0, 0, 0, 0, [], (0, 0), [], (0, 0), 0, 0)).2.2.2.2.2.2.1.1 == y2.2.2.2.2.2.2.1.1) && (((Option.getD (α := D_api_Deed) (mget (k := t_api_Decimal) (v := t_api_Deed) x1.2.2.2.2.1 (y2.2.1, y2.2.2.1)) (0, 0, 0, 0, 0, [], (0, 0), [], (0, 0), 0, 0)).2.2.2.2.2.2.1.2 == y2.2.2.2.2.2.2.1.2) && true)) && (((Option.getD (α := D_api_Deed) (mget (k := t_api_Decimal) (v := t_api_Deed) x1.2.2.2.2.1 (y2.2.1, y2.2.2.1)) (0, 0, 0, 0, 0, [], (0, 0), [], (0, 0), 0, 0)).2.2.2.2.2.2.2.1 == y2.2.2.2.2.2.2.2.1) && ((((Option.getD (α := D_api_Deed) (mget (k := t_api_Decimal) (v := t_api_Deed) x1.2.2.2.2.1 (y2.2.1, y2.2.2.1)) (0, 0, 0, 0, 0, [], (0, 0), [], (0, 0), 0, 0)).2.2.2.2.2.2.2.2.1.1 == y2.2.2.2.2.2.2.2.2.1.1) && (((Option.getD (α := D_api_Deed) (mget (k := t_api_Decimal) (v := t_api_Deed) x1.2.2.2.2.1 (y2.2.1, y2.2.2.1)) (0, 0, 0, 0, 0, [], (0, 0), [], (0, 0), 0, 0)).2.2.2.2.2.2.2.2.1.2 == y2.2.2.2.2.2.2.2.2.1.2) && true)) && (((Option.getD (α := D_api_Deed) (mget (k := t_api_Decimal) (v := t_api_Deed) x1.2.2.2.2.1 (y2.2.1, y2.2.2.1)) (0, 0, 0, 0, 0, [], (0, 0), [], (0, 0), 0, 0)).2.2.2.2.2.2.2.2.2.1 == y2.2.2.2.2.2.2.2.2.2.1) && (((Option.getD (α := D_api_Deed) (mget (k := t_api_Decimal) (v := t_api_Deed) x1.2.2.2.2.1 (y2.2.1, y2.2.2.1)) (0, 0, 0, 0, 0, [], (0, 0), [], (0, 0), 0, 0)).2.2.2.2.2.2.2.2.2.2 == y2.2.2.2.2.2.2.2.2.2.2) && true))))))))))) then
    some (Sum.inl ([], 12, ()))
   else
    again (x1.1, x1.2.1, w64 (x1.2.2.1 + 1), x1.2.2.2.1, x1.2.2.2.2.1, ())
 else
  some (Sum.inr (x1.1, ()))

def order_MergeDeeds (a0 : List D_api_Deed) (a1 : List D_api_Deed) : Option ((List D_api_Deed) × Int × Unit) :=
 joinB (β := ((List D_api_Deed) × Int × Unit)) (γ := ((List D_api_Deed) × (List D_api_Deed) × Unit)) (
  iter (X := order_MergeDeeds_x2) (β := order_MergeDeeds_r2) (List.length a0 + (List.length a1 + (Int.natAbs ((List.length [a0, a1] : Int)) + (Int.natAbs (0 : Int) + (List.length ([a0, a1] : List (List D_api_Deed)) + 2))))) (a0, a1, (List.length [a0, a1] : Int), 0, [a0, a1], ()) (order_MergeDeeds_b2)) fun v4 =>
 Option.bind (slices_Concat_api_Deed [v4.1, v4.2.1]) fun r5 =>
 joinB (β := ((List D_api_Deed) × Int × Unit)) (γ := ((List D_api_Deed) × Unit)) (
  iter (X := order_MergeDeeds_x11) (β := order_MergeDeeds_r11) (List.length ([] : List D_api_Deed) + (Int.natAbs ((List.length r5.1 : Int)) + (Int.natAbs (0 : Int) + (List.length r5.1 + (List.length ([] : List (D_api_Decimal × D_api_Deed)) + 2))))) ([], (List.length r5.1 : Int), 0, r5.1, [], ()) (order_MergeDeeds_b11)) fun v8 =>
 Option.bind (slices_SortFunc_api_Deed v8.1 ()) fun r9 =>
 Option.bind (order_CheckDeeds r9.1) fun r10 =>
 bif r10.1 != 0 then
  some ([], r10.1, ())
 else
  some (r9.1, 0, ())

end
end Go.Md
