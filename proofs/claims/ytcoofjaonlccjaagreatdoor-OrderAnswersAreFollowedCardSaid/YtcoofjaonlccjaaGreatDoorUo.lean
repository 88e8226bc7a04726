/-
 The plain models of the functions that the law reaches, third part. No condition.
-/
import Derived.Test.YtcoofjaonlccjaaGreatDoorUn
import Derived.Test.YtcoofjaonlccjaaGreatDoorUd
import Derived.Lib.Atoi
import Derived.Lib.IndexBytes
set_option linter.all false
namespace Go.Md
open Go.Dn

def internal_stringslite_IndexByte (s : List UInt8) (c : Int) : Option (Int × Unit) := some (Lib.indexByte s c.toNat.toUInt8, ())

def splitOn1 (c : UInt8) : List UInt8 → List (List UInt8)
 | [] => [[]]
 | b :: r => bif b == c then [] :: splitOn1 c r else (match splitOn1 c r with
  | h :: t => (b :: h) :: t
  | [] => [[b]])
def strings_Split (s sep : List UInt8) : Option (List (List UInt8) × Unit) := match sep with
 | [c] => bif decide (s.length < 4294967281) then some (splitOn1 c s, ()) else none
 | _ => none

def isDig (b : UInt8) : Bool := decide (48 ≤ b.toNat) && decide (b.toNat ≤ 57)
def kit_Number (s : List UInt8) (most : Int) : Option (Int × Bool × Unit) :=
 bif decide (most < (s.length : Int)) then some (0, false, ())
 else bif decide (s.length ≤ 18) then (bif !(!(s == []) && s.all isDig) || (decide (1 < s.length) && s.head? == some 48) then some (0, false, ()) else (Lib.atoi s).bind fun n => some (n, true, ())) else none

noncomputable section
abbrev t_order_offer : Ty := (.st (.pair tI (.pair tI tI)))
abbrev D_order_offer : Type := Int × Int × Int

abbrev t_order_uses : Ty := (.st (.pair .bool (.pair .bool (.pair .bool (.pair .bool (.pair .bool .bool))))))
abbrev D_order_uses : Type := Bool × Bool × Bool × Bool × Bool × Bool

abbrev t_api_Line : Ty := (.st (.pair tI (.pair .str (.pair t_api_Decimal (.pair .str (.pair t_api_Decimal tI))))))
abbrev D_api_Line : Type := Int × (List UInt8) × D_api_Decimal × (List UInt8) × D_api_Decimal × Int

abbrev t_api_Deed : Ty := (.st (.pair tI (.pair tI (.pair tI (.pair tI (.pair tI (.pair .str (.pair t_api_Decimal (.pair .str (.pair t_api_Decimal (.pair tI tI)))))))))))
abbrev D_api_Deed : Type := Int × Int × Int × Int × Int × (List UInt8) × D_api_Decimal × (List UInt8) × D_api_Decimal × Int × Int

abbrev t_api_Order : Ty := (.st (.pair .str (.pair .str (.pair .str (.pair tI (.pair tI (.slice t_api_Line)))))))
abbrev D_api_Order : Type := (List UInt8) × (List UInt8) × (List UInt8) × Int × Int × (List D_api_Line)

abbrev t_order_line : Ty := (.st (.pair tI (.pair .str (.pair .str (.pair tI (.pair tI (.pair tI (.pair tI (.pair t_api_Decimal (.pair tI (.pair tI t_order_offer)))))))))))
abbrev D_order_line : Type := Int × (List UInt8) × (List UInt8) × Int × Int × Int × Int × D_api_Decimal × Int × Int × D_order_offer

abbrev t_api_Point : Ty := (.st (.pair tI t_api_State))
abbrev D_api_Point : Type := Int × D_api_State

def order_lineFault (a0 : D_api_Order) (a1 : Int) : Option (Int × Unit) :=
 Option.bind (idx a0.2.2.2.2.2 a1) fun y1 =>
 Option.bind (kit_Outside y1.1 1 99999) fun r2 =>
 bif r2.1 then
  some (1, ())
 else
  Option.bind (
   bif decide (a1 > 0) then
    Option.bind (idx a0.2.2.2.2.2 (w64 (a1 - 1))) fun y3 =>
    some (decide (y1.1 ≤ y3.1), ())
   else
    some (false, ())) fun v4 =>
  bif v4.1 then
   some (8, ())
  else
   Option.bind (kit_IsName y1.2.1) fun r5 =>
   bif !r5.1 then
    some (5, ())
   else
    Option.bind (order_QuantityFault y1.2.2.1 false) fun r6 =>
    bif r6.1 != 0 then
     some (r6.1, ())
    else
     Option.bind (kit_IsName y1.2.2.2.1) fun r7 =>
     bif !r7.1 then
      some (5, ())
     else
      Option.bind (order_PriceFault y1.2.2.2.2.1) fun r8 =>
      bif r8.1 != 0 then
       some (r8.1, ())
      else
       Option.bind (kit_Outside y1.2.2.2.2.2 a0.2.2.2.1 3652059) fun r9 =>
       bif r9.1 then
        some (1, ())
       else
        some (0, ())

abbrev order_CheckOrder_x12 : Type := Int × Int × (List UInt8) × (List UInt8) × (List UInt8) × Int × Int × (List D_api_Line) × Unit
abbrev order_CheckOrder_r12 : Type := ((Int × Unit) ⊕ Unit)
def order_CheckOrder_b12  (x1 : order_CheckOrder_x12) (again : order_CheckOrder_x12 → Option order_CheckOrder_r12) : Option order_CheckOrder_r12 :=
 bif decide (x1.2.1 < x1.1) then
  Option.bind (order_lineFault (x1.2.2.1, x1.2.2.2.1, x1.2.2.2.2.1, x1.2.2.2.2.2.1, x1.2.2.2.2.2.2.1, x1.2.2.2.2.2.2.2.1) x1.2.1) fun r2 =>
  bif r2.1 != 0 then
   some (Sum.inl (r2.1, ()))
  else
   again (x1.1, w64 (x1.2.1 + 1), x1.2.2.1, x1.2.2.2.1, x1.2.2.2.2.1, x1.2.2.2.2.2.1, x1.2.2.2.2.2.2.1, x1.2.2.2.2.2.2.2.1, ())
 else
  some (Sum.inr ())

def order_CheckOrder (a0 : D_api_Order) : Option (Int × Unit) :=
 Option.bind (kit_IsName a0.1) fun r1 =>
 bif !r1.1 then
  some (5, ())
 else
  Option.bind (kit_IsName a0.2.1) fun r2 =>
  bif !r2.1 then
   some (5, ())
  else
   Option.bind (kit_IsName a0.2.2.1) fun r3 =>
   bif !r3.1 then
    some (5, ())
   else
    bif a0.2.1 == a0.2.2.1 then
     some (12, ())
    else
     Option.bind (kit_IsDay a0.2.2.2.1) fun r4 =>
     bif !r4.1 then
      some (1, ())
     else
      Option.bind (kit_Outside a0.2.2.2.2.1 0 1000) fun r5 =>
      bif r5.1 then
       some (1, ())
      else
       bif ((List.length a0.2.2.2.2.2 : Int)) == 0 then
        some (9, ())
       else
        bif decide (((List.length a0.2.2.2.2.2 : Int)) > 500) then
         some (2, ())
        else
         joinB (β := (Int × Unit)) (γ := Unit) (
          iter (X := order_CheckOrder_x12) (β := order_CheckOrder_r12) (Int.natAbs ((List.length a0.2.2.2.2.2 : Int)) + (Int.natAbs (0 : Int) + (List.length a0.1 + (List.length a0.2.1 + (List.length a0.2.2.1 + (Int.natAbs a0.2.2.2.1 + (Int.natAbs a0.2.2.2.2.1 + (List.length a0.2.2.2.2.2 + 2)))))))) ((List.length a0.2.2.2.2.2 : Int), 0, a0.1, a0.2.1, a0.2.2.1, a0.2.2.2.1, a0.2.2.2.2.1, a0.2.2.2.2.2, ()) (order_CheckOrder_b12)) fun _ =>
         some (0, ())

def order_isSellers (a0 : Int) : Option (Bool × Unit) :=
 bif a0 == 5 then
  some (true, ())
 else
  bif a0 == 6 then
   some (true, ())
  else
   bif a0 == 7 then
    some (true, ())
   else
    some (a0 == 9, ())

def order_usesOf (a0 : Int) : Option (D_order_uses × Unit) :=
 bif a0 == 1 then
  some ((true, true, true, true, true, false), ())
 else
  bif a0 == 3 then
   some ((false, false, false, false, true, false), ())
  else
   bif a0 == 4 then
    some ((false, false, false, true, false, false), ())
   else
    bif a0 == 5 then
     bif a0 == 5 then
      some ((false, false, false, false, false, true), ())
     else
      bif a0 == 7 then
       some ((false, true, false, false, true, false), ())
      else
       some ((false, true, false, false, false, false), ())
    else
     bif a0 == 6 then
      bif a0 == 6 then
       some ((false, false, false, false, false, true), ())
      else
       bif a0 == 7 then
        some ((false, true, false, false, true, false), ())
       else
        some ((false, true, false, false, false, false), ())
     else
      bif a0 == 8 then
       some ((false, false, false, false, false, true), ())
      else
       bif a0 == 7 then
        some ((false, true, false, false, true, false), ())
       else
        some ((false, true, false, false, false, false), ())

def order_usedFault (a0 : D_api_Deed) : Option (Int × Unit) :=
 Option.bind (order_usesOf a0.2.2.2.1) fun r1 =>
 joinB (β := (Int × Unit)) (γ := (Int × Int × Int × Int × Int × (List UInt8) × Int × Int × (List UInt8) × Int × Int × Int × Int × Bool × Bool × Bool × Bool × Bool × Bool × Unit)) (
  bif r1.1.2.1 then
   Option.bind (order_QuantityFault a0.2.2.2.2.2.2.1 (a0.2.2.2.1 == 2)) fun r2 =>
   bif r2.1 != 0 then
    some (Sum.inl (r2.1, ()))
   else
    some (Sum.inr (a0.1, a0.2.1, a0.2.2.1, a0.2.2.2.1, a0.2.2.2.2.1, a0.2.2.2.2.2.1, a0.2.2.2.2.2.2.1.1, a0.2.2.2.2.2.2.1.2, a0.2.2.2.2.2.2.2.1, a0.2.2.2.2.2.2.2.2.1.1, a0.2.2.2.2.2.2.2.2.1.2, a0.2.2.2.2.2.2.2.2.2.1, a0.2.2.2.2.2.2.2.2.2.2, r1.1.1, r1.1.2.1, r1.1.2.2.1, r1.1.2.2.2.1, r1.1.2.2.2.2.1, r1.1.2.2.2.2.2, ()))
  else
   some (Sum.inr (a0.1, a0.2.1, a0.2.2.1, a0.2.2.2.1, a0.2.2.2.2.1, a0.2.2.2.2.2.1, a0.2.2.2.2.2.2.1.1, a0.2.2.2.2.2.2.1.2, a0.2.2.2.2.2.2.2.1, a0.2.2.2.2.2.2.2.2.1.1, a0.2.2.2.2.2.2.2.2.1.2, a0.2.2.2.2.2.2.2.2.2.1, a0.2.2.2.2.2.2.2.2.2.2, r1.1.1, r1.1.2.1, r1.1.2.2.1, r1.1.2.2.2.1, r1.1.2.2.2.2.1, r1.1.2.2.2.2.2, ()))) fun v3 =>
 joinB (β := (Int × Unit)) (γ := (Int × Int × Int × Int × Int × (List UInt8) × Int × Int × (List UInt8) × Int × Int × Int × Int × Bool × Bool × Bool × Bool × Bool × Bool × Unit)) (
  bif v3.2.2.2.2.2.2.2.2.2.2.2.2.2.2.2.2.1 then
   Option.bind (order_PriceFault (v3.2.2.2.2.2.2.2.2.2.1, v3.2.2.2.2.2.2.2.2.2.2.1)) fun r4 =>
   bif r4.1 != 0 then
    some (Sum.inl (r4.1, ()))
   else
    some (Sum.inr (v3.1, v3.2.1, v3.2.2.1, v3.2.2.2.1, v3.2.2.2.2.1, v3.2.2.2.2.2.1, v3.2.2.2.2.2.2.1, v3.2.2.2.2.2.2.2.1, v3.2.2.2.2.2.2.2.2.1, v3.2.2.2.2.2.2.2.2.2.1, v3.2.2.2.2.2.2.2.2.2.2.1, v3.2.2.2.2.2.2.2.2.2.2.2.1, v3.2.2.2.2.2.2.2.2.2.2.2.2.1, v3.2.2.2.2.2.2.2.2.2.2.2.2.2.1, v3.2.2.2.2.2.2.2.2.2.2.2.2.2.2.1, v3.2.2.2.2.2.2.2.2.2.2.2.2.2.2.2.1, v3.2.2.2.2.2.2.2.2.2.2.2.2.2.2.2.2.1, v3.2.2.2.2.2.2.2.2.2.2.2.2.2.2.2.2.2.1, v3.2.2.2.2.2.2.2.2.2.2.2.2.2.2.2.2.2.2.1, ()))
  else
   some (Sum.inr (v3.1, v3.2.1, v3.2.2.1, v3.2.2.2.1, v3.2.2.2.2.1, v3.2.2.2.2.2.1, v3.2.2.2.2.2.2.1, v3.2.2.2.2.2.2.2.1, v3.2.2.2.2.2.2.2.2.1, v3.2.2.2.2.2.2.2.2.2.1, v3.2.2.2.2.2.2.2.2.2.2.1, v3.2.2.2.2.2.2.2.2.2.2.2.1, v3.2.2.2.2.2.2.2.2.2.2.2.2.1, v3.2.2.2.2.2.2.2.2.2.2.2.2.2.1, v3.2.2.2.2.2.2.2.2.2.2.2.2.2.2.1, v3.2.2.2.2.2.2.2.2.2.2.2.2.2.2.2.1, v3.2.2.2.2.2.2.2.2.2.2.2.2.2.2.2.2.1, v3.2.2.2.2.2.2.2.2.2.2.2.2.2.2.2.2.2.1, v3.2.2.2.2.2.2.2.2.2.2.2.2.2.2.2.2.2.2.1, ()))) fun v5 =>
 Option.bind (
  bif v5.2.2.2.2.2.2.2.2.2.2.2.2.2.2.2.2.2.1 then
   Option.bind (kit_IsDay v5.2.2.2.2.2.2.2.2.2.2.2.1) fun r6 =>
   some (!r6.1, ())
  else
   some (false, ())) fun v7 =>
 bif v7.1 then
  some (1, ())
 else
  Option.bind (
   bif v5.2.2.2.2.2.2.2.2.2.2.2.2.2.1 then
    Option.bind (kit_IsName v5.2.2.2.2.2.1) fun r8 =>
    bif !r8.1 then
     some (true, ())
    else
     bif v5.2.2.2.2.2.2.2.2.2.2.2.2.2.2.2.1 then
      Option.bind (kit_IsName v5.2.2.2.2.2.2.2.2.1) fun r9 =>
      some (!r9.1, ())
     else
      some (false, ())
   else
    bif v5.2.2.2.2.2.2.2.2.2.2.2.2.2.2.2.1 then
     Option.bind (kit_IsName v5.2.2.2.2.2.2.2.2.1) fun r10 =>
     some (!r10.1, ())
    else
     some (false, ())) fun v11 =>
  bif v11.1 then
   some (5, ())
  else
   Option.bind (
    bif v5.2.2.2.2.2.2.2.2.2.2.2.2.2.2.2.2.2.2.1 then
     Option.bind (kit_Outside v5.2.2.2.2.2.2.2.2.2.2.2.2.1 1 2000) fun r12 =>
     some (r12.1, ())
    else
     some (false, ())) fun v13 =>
   bif v13.1 then
    some (1, ())
   else
    Option.bind (
     bif !v5.2.2.2.2.2.2.2.2.2.2.2.2.2.1 then
      bif !(v5.2.2.2.2.2.1 == []) then
       some (true, ())
      else
       bif !v5.2.2.2.2.2.2.2.2.2.2.2.2.2.2.1 then
        bif !((v5.2.2.2.2.2.2.1 == 0) && ((v5.2.2.2.2.2.2.2.1 == 0) && true)) then
         some (true, ())
        else
         bif !v5.2.2.2.2.2.2.2.2.2.2.2.2.2.2.2.1 then
          bif !(v5.2.2.2.2.2.2.2.2.1 == []) then
           some (true, ())
          else
           bif !v5.2.2.2.2.2.2.2.2.2.2.2.2.2.2.2.2.1 then
            bif !((v5.2.2.2.2.2.2.2.2.2.1 == 0) && ((v5.2.2.2.2.2.2.2.2.2.2.1 == 0) && true)) then
             some (true, ())
            else
             bif !v5.2.2.2.2.2.2.2.2.2.2.2.2.2.2.2.2.2.1 then
              bif v5.2.2.2.2.2.2.2.2.2.2.2.1 != 0 then
               some (true, ())
              else
               bif !v5.2.2.2.2.2.2.2.2.2.2.2.2.2.2.2.2.2.2.1 then
                some (v5.2.2.2.2.2.2.2.2.2.2.2.2.1 != 0, ())
               else
                some (false, ())
             else
              bif !v5.2.2.2.2.2.2.2.2.2.2.2.2.2.2.2.2.2.2.1 then
               some (v5.2.2.2.2.2.2.2.2.2.2.2.2.1 != 0, ())
              else
               some (false, ())
           else
            bif !v5.2.2.2.2.2.2.2.2.2.2.2.2.2.2.2.2.2.1 then
             bif v5.2.2.2.2.2.2.2.2.2.2.2.1 != 0 then
              some (true, ())
             else
              bif !v5.2.2.2.2.2.2.2.2.2.2.2.2.2.2.2.2.2.2.1 then
               some (v5.2.2.2.2.2.2.2.2.2.2.2.2.1 != 0, ())
              else
               some (false, ())
            else
             bif !v5.2.2.2.2.2.2.2.2.2.2.2.2.2.2.2.2.2.2.1 then
              some (v5.2.2.2.2.2.2.2.2.2.2.2.2.1 != 0, ())
             else
              some (false, ())
         else
          bif !v5.2.2.2.2.2.2.2.2.2.2.2.2.2.2.2.2.1 then
           bif !((v5.2.2.2.2.2.2.2.2.2.1 == 0) && ((v5.2.2.2.2.2.2.2.2.2.2.1 == 0) && true)) then
            some (true, ())
           else
            bif !v5.2.2.2.2.2.2.2.2.2.2.2.2.2.2.2.2.2.1 then
             bif v5.2.2.2.2.2.2.2.2.2.2.2.1 != 0 then
              some (true, ())
             else
              bif !v5.2.2.2.2.2.2.2.2.2.2.2.2.2.2.2.2.2.2.1 then
               some (v5.2.2.2.2.2.2.2.2.2.2.2.2.1 != 0, ())
              else
               some (false, ())
            else
             bif !v5.2.2.2.2.2.2.2.2.2.2.2.2.2.2.2.2.2.2.1 then
              some (v5.2.2.2.2.2.2.2.2.2.2.2.2.1 != 0, ())
             else
              some (false, ())
          else
           bif !v5.2.2.2.2.2.2.2.2.2.2.2.2.2.2.2.2.2.1 then
            bif v5.2.2.2.2.2.2.2.2.2.2.2.1 != 0 then
             some (true, ())
            else
             bif !v5.2.2.2.2.2.2.2.2.2.2.2.2.2.2.2.2.2.2.1 then
              some (v5.2.2.2.2.2.2.2.2.2.2.2.2.1 != 0, ())
             else
              some (false, ())
           else
            bif !v5.2.2.2.2.2.2.2.2.2.2.2.2.2.2.2.2.2.2.1 then
             some (v5.2.2.2.2.2.2.2.2.2.2.2.2.1 != 0, ())
            else
             some (false, ())
       else
        bif !v5.2.2.2.2.2.2.2.2.2.2.2.2.2.2.2.1 then
         bif !(v5.2.2.2.2.2.2.2.2.1 == []) then
          some (true, ())
         else
          bif !v5.2.2.2.2.2.2.2.2.2.2.2.2.2.2.2.2.1 then
           bif !((v5.2.2.2.2.2.2.2.2.2.1 == 0) && ((v5.2.2.2.2.2.2.2.2.2.2.1 == 0) && true)) then
            some (true, ())
           else
            bif !v5.2.2.2.2.2.2.2.2.2.2.2.2.2.2.2.2.2.1 then
             bif v5.2.2.2.2.2.2.2.2.2.2.2.1 != 0 then
              some (true, ())
             else
              bif !v5.2.2.2.2.2.2.2.2.2.2.2.2.2.2.2.2.2.2.1 then
               some (v5.2.2.2.2.2.2.2.2.2.2.2.2.1 != 0, ())
              else
               some (false, ())
            else
             bif !v5.2.2.2.2.2.2.2.2.2.2.2.2.2.2.2.2.2.2.1 then
              some (v5.2.2.2.2.2.2.2.2.2.2.2.2.1 != 0, ())
             else
              some (false, ())
          else
           bif !v5.2.2.2.2.2.2.2.2.2.2.2.2.2.2.2.2.2.1 then
            bif v5.2.2.2.2.2.2.2.2.2.2.2.1 != 0 then
             some (true, ())
            else
             bif !v5.2.2.2.2.2.2.2.2.2.2.2.2.2.2.2.2.2.2.1 then
              some (v5.2.2.2.2.2.2.2.2.2.2.2.2.1 != 0, ())
             else
              some (false, ())
           else
            bif !v5.2.2.2.2.2.2.2.2.2.2.2.2.2.2.2.2.2.2.1 then
             some (v5.2.2.2.2.2.2.2.2.2.2.2.2.1 != 0, ())
            else
             some (false, ())
        else
         bif !v5.2.2.2.2.2.2.2.2.2.2.2.2.2.2.2.2.1 then
          bif !((v5.2.2.2.2.2.2.2.2.2.1 == 0) && ((v5.2.2.2.2.2.2.2.2.2.2.1 == 0) && true)) then
           some (true, ())
          else
           bif !v5.2.2.2.2.2.2.2.2.2.2.2.2.2.2.2.2.2.1 then
            bif v5.2.2.2.2.2.2.2.2.2.2.2.1 != 0 then
             some (true, ())
            else
             bif !v5.2.2.2.2.2.2.2.2.2.2.2.2.2.2.2.2.2.2.1 then
              some (v5.2.2.2.2.2.2.2.2.2.2.2.2.1 != 0, ())
             else
              some (false, ())
           else
            bif !v5.2.2.2.2.2.2.2.2.2.2.2.2.2.2.2.2.2.2.1 then
             some (v5.2.2.2.2.2.2.2.2.2.2.2.2.1 != 0, ())
            else
             some (false, ())
         else
          bif !v5.2.2.2.2.2.2.2.2.2.2.2.2.2.2.2.2.2.1 then
           bif v5.2.2.2.2.2.2.2.2.2.2.2.1 != 0 then
            some (true, ())
           else
            bif !v5.2.2.2.2.2.2.2.2.2.2.2.2.2.2.2.2.2.2.1 then
             some (v5.2.2.2.2.2.2.2.2.2.2.2.2.1 != 0, ())
            else
             some (false, ())
          else
           bif !v5.2.2.2.2.2.2.2.2.2.2.2.2.2.2.2.2.2.2.1 then
            some (v5.2.2.2.2.2.2.2.2.2.2.2.2.1 != 0, ())
           else
            some (false, ())
     else
      bif !v5.2.2.2.2.2.2.2.2.2.2.2.2.2.2.1 then
       bif !((v5.2.2.2.2.2.2.1 == 0) && ((v5.2.2.2.2.2.2.2.1 == 0) && true)) then
        some (true, ())
       else
        bif !v5.2.2.2.2.2.2.2.2.2.2.2.2.2.2.2.1 then
         bif !(v5.2.2.2.2.2.2.2.2.1 == []) then
          some (true, ())
         else
          bif !v5.2.2.2.2.2.2.2.2.2.2.2.2.2.2.2.2.1 then
           bif !((v5.2.2.2.2.2.2.2.2.2.1 == 0) && ((v5.2.2.2.2.2.2.2.2.2.2.1 == 0) && true)) then
            some (true, ())
           else
            bif !v5.2.2.2.2.2.2.2.2.2.2.2.2.2.2.2.2.2.1 then
             bif v5.2.2.2.2.2.2.2.2.2.2.2.1 != 0 then
              some (true, ())
             else
              bif !v5.2.2.2.2.2.2.2.2.2.2.2.2.2.2.2.2.2.2.1 then
               some (v5.2.2.2.2.2.2.2.2.2.2.2.2.1 != 0, ())
              else
               some (false, ())
            else
             bif !v5.2.2.2.2.2.2.2.2.2.2.2.2.2.2.2.2.2.2.1 then
              some (v5.2.2.2.2.2.2.2.2.2.2.2.2.1 != 0, ())
             else
              some (false, ())
          else
           bif !v5.2.2.2.2.2.2.2.2.2.2.2.2.2.2.2.2.2.1 then
            bif v5.2.2.2.2.2.2.2.2.2.2.2.1 != 0 then
             some (true, ())
            else
             bif !v5.2.2.2.2.2.2.2.2.2.2.2.2.2.2.2.2.2.2.1 then
              some (v5.2.2.2.2.2.2.2.2.2.2.2.2.1 != 0, ())
             else
              some (false, ())
           else
            bif !v5.2.2.2.2.2.2.2.2.2.2.2.2.2.2.2.2.2.2.1 then
             some (v5.2.2.2.2.2.2.2.2.2.2.2.2.1 != 0, ())
            else
             some (false, ())
        else
         bif !v5.2.2.2.2.2.2.2.2.2.2.2.2.2.2.2.2.1 then
          bif !((v5.2.2.2.2.2.2.2.2.2.1 == 0) && ((v5.2.2.2.2.2.2.2.2.2.2.1 == 0) && true)) then
           some (true, ())
          else
           bif !v5.2.2.2.2.2.2.2.2.2.2.2.2.2.2.2.2.2.1 then
            bif v5.2.2.2.2.2.2.2.2.2.2.2.1 != 0 then
             some (true, ())
            else
             bif !v5.2.2.2.2.2.2.2.2.2.2.2.2.2.2.2.2.2.2.1 then
              some (v5.2.2.2.2.2.2.2.2.2.2.2.2.1 != 0, ())
             else
              some (false, ())
           else
            bif !v5.2.2.2.2.2.2.2.2.2.2.2.2.2.2.2.2.2.2.1 then
             some (v5.2.2.2.2.2.2.2.2.2.2.2.2.1 != 0, ())
            else
             some (false, ())
         else
          bif !v5.2.2.2.2.2.2.2.2.2.2.2.2.2.2.2.2.2.1 then
           bif v5.2.2.2.2.2.2.2.2.2.2.2.1 != 0 then
            some (true, ())
           else
            bif !v5.2.2.2.2.2.2.2.2.2.2.2.2.2.2.2.2.2.2.1 then
             some (v5.2.2.2.2.2.2.2.2.2.2.2.2.1 != 0, ())
            else
             some (false, ())
          else
           bif !v5.2.2.2.2.2.2.2.2.2.2.2.2.2.2.2.2.2.2.1 then
            some (v5.2.2.2.2.2.2.2.2.2.2.2.2.1 != 0, ())
           else
            some (false, ())
      else
       bif !v5.2.2.2.2.2.2.2.2.2.2.2.2.2.2.2.1 then
        bif !(v5.2.2.2.2.2.2.2.2.1 == []) then
         some (true, ())
        else
         bif !v5.2.2.2.2.2.2.2.2.2.2.2.2.2.2.2.2.1 then
          bif !((v5.2.2.2.2.2.2.2.2.2.1 == 0) && ((v5.2.2.2.2.2.2.2.2.2.2.1 == 0) && true)) then
           some (true, ())
          else
           bif !v5.2.2.2.2.2.2.2.2.2.2.2.2.2.2.2.2.2.1 then
            bif v5.2.2.2.2.2.2.2.2.2.2.2.1 != 0 then
             some (true, ())
            else
             bif !v5.2.2.2.2.2.2.2.2.2.2.2.2.2.2.2.2.2.2.1 then
              some (v5.2.2.2.2.2.2.2.2.2.2.2.2.1 != 0, ())
             else
              some (false, ())
           else
            bif !v5.2.2.2.2.2.2.2.2.2.2.2.2.2.2.2.2.2.2.1 then
             some (v5.2.2.2.2.2.2.2.2.2.2.2.2.1 != 0, ())
            else
             some (false, ())
         else
          bif !v5.2.2.2.2.2.2.2.2.2.2.2.2.2.2.2.2.2.1 then
           bif v5.2.2.2.2.2.2.2.2.2.2.2.1 != 0 then
            some (true, ())
           else
            bif !v5.2.2.2.2.2.2.2.2.2.2.2.2.2.2.2.2.2.2.1 then
             some (v5.2.2.2.2.2.2.2.2.2.2.2.2.1 != 0, ())
            else
             some (false, ())
          else
           bif !v5.2.2.2.2.2.2.2.2.2.2.2.2.2.2.2.2.2.2.1 then
            some (v5.2.2.2.2.2.2.2.2.2.2.2.2.1 != 0, ())
           else
            some (false, ())
       else
        bif !v5.2.2.2.2.2.2.2.2.2.2.2.2.2.2.2.2.1 then
         bif !((v5.2.2.2.2.2.2.2.2.2.1 == 0) && ((v5.2.2.2.2.2.2.2.2.2.2.1 == 0) && true)) then
          some (true, ())
         else
          bif !v5.2.2.2.2.2.2.2.2.2.2.2.2.2.2.2.2.2.1 then
           bif v5.2.2.2.2.2.2.2.2.2.2.2.1 != 0 then
            some (true, ())
           else
            bif !v5.2.2.2.2.2.2.2.2.2.2.2.2.2.2.2.2.2.2.1 then
             some (v5.2.2.2.2.2.2.2.2.2.2.2.2.1 != 0, ())
            else
             some (false, ())
          else
           bif !v5.2.2.2.2.2.2.2.2.2.2.2.2.2.2.2.2.2.2.1 then
            some (v5.2.2.2.2.2.2.2.2.2.2.2.2.1 != 0, ())
           else
            some (false, ())
        else
         bif !v5.2.2.2.2.2.2.2.2.2.2.2.2.2.2.2.2.2.1 then
          bif v5.2.2.2.2.2.2.2.2.2.2.2.1 != 0 then
           some (true, ())
          else
           bif !v5.2.2.2.2.2.2.2.2.2.2.2.2.2.2.2.2.2.2.1 then
            some (v5.2.2.2.2.2.2.2.2.2.2.2.2.1 != 0, ())
           else
            some (false, ())
         else
          bif !v5.2.2.2.2.2.2.2.2.2.2.2.2.2.2.2.2.2.2.1 then
           some (v5.2.2.2.2.2.2.2.2.2.2.2.2.1 != 0, ())
          else
           some (false, ())) fun v14 =>
    bif v14.1 then
     some (3, ())
    else
     some (0, ())

def order_deedFault (a0 : D_api_Deed) : Option (Int × Unit) :=
 Option.bind (kit_IsDay a0.1) fun r1 =>
 bif !r1.1 then
  some (1, ())
 else
  Option.bind (kit_Outside a0.2.1 1 2) fun r2 =>
  bif r2.1 then
   some (4, ())
  else
   Option.bind (kit_Outside a0.2.2.1 1 2000) fun r3 =>
   bif r3.1 then
    some (1, ())
   else
    Option.bind (kit_Outside a0.2.2.2.1 1 11) fun r4 =>
    bif r4.1 then
     some (4, ())
    else
     Option.bind (order_isSellers a0.2.2.2.1) fun r5 =>
     bif !(r5.1 == (a0.2.1 == 2)) then
      some (4, ())
     else
      Option.bind (kit_Outside a0.2.2.2.2.1 1 99999) fun r6 =>
      bif r6.1 then
       some (1, ())
      else
       Option.bind (order_usedFault a0) fun r7 =>
       some (r7.1, ())

abbrev order_compareDeeds_x2 : Type := Int × Int × (List Int) × Unit
abbrev order_compareDeeds_r2 : Type := ((Int × Unit) ⊕ Unit)
def order_compareDeeds_b2  (x1 : order_compareDeeds_x2) (again : order_compareDeeds_x2 → Option order_compareDeeds_r2) : Option order_compareDeeds_r2 :=
 bif decide (x1.2.1 < x1.1) then
  chk (decide (0 ≤ x1.2.1) && decide (x1.2.1 < (List.length x1.2.2.1 : Int))) <|
  Option.bind (x1.2.2.1[x1.2.1.toNat]?) fun y2 =>
  bif y2 != 0 then
   some (Sum.inl (y2, ()))
  else
   again (x1.1, w64 (x1.2.1 + 1), x1.2.2.1, ())
 else
  some (Sum.inr ())

def order_compareDeeds (a0 : D_api_Deed) (a1 : D_api_Deed) : Option (Int × Unit) :=
 joinB (β := (Int × Unit)) (γ := Unit) (
  iter (X := order_compareDeeds_x2) (β := order_compareDeeds_r2) (Int.natAbs ((List.length [(w64 (a0.1 - a1.1)), (w64 (a0.2.1 - a1.2.1)), (w64 (a0.2.2.1 - a1.2.2.1))] : Int)) + (Int.natAbs (0 : Int) + (List.length ([(w64 (a0.1 - a1.1)), (w64 (a0.2.1 - a1.2.1)), (w64 (a0.2.2.1 - a1.2.2.1))] : List Int) + 2))) ((List.length [(w64 (a0.1 - a1.1)), (w64 (a0.2.1 - a1.2.1)), (w64 (a0.2.2.1 - a1.2.2.1))] : Int), 0, [(w64 (a0.1 - a1.1)), (w64 (a0.2.1 - a1.2.1)), (w64 (a0.2.2.1 - a1.2.2.1))], ()) (order_compareDeeds_b2)) fun _ =>
 some (0, ())

abbrev order_CheckDeeds_x5 : Type := (List D_api_Deed) × (List D_api_Deed) × Int × Int × Int × Int × Int × Unit
abbrev order_CheckDeeds_r5 : Type := ((Int × Unit) ⊕ Unit)
def order_CheckDeeds_b5  (x1 : order_CheckDeeds_x5) (again : order_CheckDeeds_x5 → Option order_CheckDeeds_r5) : Option order_CheckDeeds_r5 :=
 bif decide (x1.2.2.2.1 < x1.2.2.1) then
  Option.bind (idx x1.2.1 x1.2.2.2.1) fun y2 =>
  Option.bind (order_deedFault y2) fun r3 =>
  bif r3.1 != 0 then
   some (Sum.inl (r3.1, ()))
  else
   Option.bind (
    bif decide (x1.2.2.2.1 > 0) then
     Option.bind (idx x1.1 (w64 (x1.2.2.2.1 - 1))) fun y4 =>
     Option.bind (order_compareDeeds y4 y2) fun r5 =>
     some (decide (r5.1 ≥ 0), ())
    else
     some (false, ())) fun v6 =>
   bif v6.1 then
    some (Sum.inl (8, ()))
   else
    bif y2.2.1 == 0 then
     bif y2.2.2.1 != (w64 (x1.2.2.2.2.1 + 1)) then
      some (Sum.inl (9, ()))
     else
      bif y2.2.1 == 0 then
       again (x1.1, x1.2.1, x1.2.2.1, w64 (x1.2.2.2.1 + 1), y2.2.2.1, x1.2.2.2.2.2.1, x1.2.2.2.2.2.2.1, ())
      else
       bif y2.2.1 == 1 then
        again (x1.1, x1.2.1, x1.2.2.1, w64 (x1.2.2.2.1 + 1), x1.2.2.2.2.1, y2.2.2.1, x1.2.2.2.2.2.2.1, ())
       else
        bif y2.2.1 == 2 then
         again (x1.1, x1.2.1, x1.2.2.1, w64 (x1.2.2.2.1 + 1), x1.2.2.2.2.1, x1.2.2.2.2.2.1, y2.2.2.1, ())
        else
         none
    else
     bif y2.2.1 == 1 then
      bif y2.2.2.1 != (w64 (x1.2.2.2.2.2.1 + 1)) then
       some (Sum.inl (9, ()))
      else
       bif y2.2.1 == 0 then
        again (x1.1, x1.2.1, x1.2.2.1, w64 (x1.2.2.2.1 + 1), y2.2.2.1, x1.2.2.2.2.2.1, x1.2.2.2.2.2.2.1, ())
       else
        bif y2.2.1 == 1 then
         again (x1.1, x1.2.1, x1.2.2.1, w64 (x1.2.2.2.1 + 1), x1.2.2.2.2.1, y2.2.2.1, x1.2.2.2.2.2.2.1, ())
        else
         bif y2.2.1 == 2 then
          again (x1.1, x1.2.1, x1.2.2.1, w64 (x1.2.2.2.1 + 1), x1.2.2.2.2.1, x1.2.2.2.2.2.1, y2.2.2.1, ())
         else
          none
     else
      bif y2.2.1 == 2 then
       bif y2.2.2.1 != (w64 (x1.2.2.2.2.2.2.1 + 1)) then
        some (Sum.inl (9, ()))
       else
        bif y2.2.1 == 0 then
         again (x1.1, x1.2.1, x1.2.2.1, w64 (x1.2.2.2.1 + 1), y2.2.2.1, x1.2.2.2.2.2.1, x1.2.2.2.2.2.2.1, ())
        else
         bif y2.2.1 == 1 then
          again (x1.1, x1.2.1, x1.2.2.1, w64 (x1.2.2.2.1 + 1), x1.2.2.2.2.1, y2.2.2.1, x1.2.2.2.2.2.2.1, ())
         else
          bif y2.2.1 == 2 then
           again (x1.1, x1.2.1, x1.2.2.1, w64 (x1.2.2.2.1 + 1), x1.2.2.2.2.1, x1.2.2.2.2.2.1, y2.2.2.1, ())
          else
           none
      else
       none
 else
  some (Sum.inr ())

def order_CheckDeeds (a0 : List D_api_Deed) : Option (Int × Unit) :=
 bif decide (((List.length a0 : Int)) > 2000) then
  some (2, ())
 else
  joinB (β := (Int × Unit)) (γ := Unit) (
   iter (X := order_CheckDeeds_x5) (β := order_CheckDeeds_r5) (List.length a0 + (List.length a0 + (Int.natAbs ((List.length a0 : Int)) + (Int.natAbs (0 : Int) + (Int.natAbs (0 : Int) + (Int.natAbs (0 : Int) + (Int.natAbs (0 : Int) + 2))))))) (a0, a0, (List.length a0 : Int), 0, 0, 0, 0, ()) (order_CheckDeeds_b5)) fun _ =>
  some (0, ())

def order_checked (a0 : D_api_Order) (a1 : List D_api_Deed) : Option (Int × Unit) :=
 Option.bind (order_CheckOrder a0) fun r1 =>
 bif r1.1 != 0 then
  some (r1.1, ())
 else
  Option.bind (order_CheckDeeds a1) fun r2 =>
  some (r2.1, ())

def order_units (a0 : D_api_Decimal) : Option (Int × Unit) :=
 Option.bind (order_power (w64 (3 - a0.2))) fun r1 =>
 some (w64 (a0.1 * r1.1), ())

abbrev order_newFollower_x3 : Type := (List D_api_Line) × Int × Int × (List UInt8) × (List UInt8) × (List UInt8) × Int × Int × (List D_api_Line) × (List D_api_Deed) × (List D_api_Decimal) × (List D_api_Point) × Int × (List (Int × (Option Nat))) × (List D_order_line) × Unit
abbrev order_newFollower_r3 : Type := (((D_api_Order × (List D_api_Deed) × (List (Int × (Option Nat))) × (List D_api_Decimal) × (List D_api_Point) × Int × Unit) × (List D_order_line) × Unit) ⊕ ((List UInt8) × (List UInt8) × (List UInt8) × Int × Int × (List D_api_Line) × (List D_api_Deed) × (List D_api_Decimal) × (List D_api_Point) × Int × (List (Int × (Option Nat))) × (List D_order_line) × Unit))
def order_newFollower_b3  (x1 : order_newFollower_x3) (again : order_newFollower_x3 → Option order_newFollower_r3) : Option order_newFollower_r3 :=
 bif decide (x1.2.2.1 < x1.2.1) then
  Option.bind (idx x1.1 x1.2.2.1) fun y2 =>
  Option.bind (order_units y2.2.2.1) fun r3 =>
  again (x1.1, x1.2.1, w64 (x1.2.2.1 + 1), x1.2.2.2.1, x1.2.2.2.2.1, x1.2.2.2.2.2.1, x1.2.2.2.2.2.2.1, x1.2.2.2.2.2.2.2.1, x1.2.2.2.2.2.2.2.2.1, x1.2.2.2.2.2.2.2.2.2.1, x1.2.2.2.2.2.2.2.2.2.2.1, x1.2.2.2.2.2.2.2.2.2.2.2.1, x1.2.2.2.2.2.2.2.2.2.2.2.2.1, mset (k := tI) (v := .hnd) x1.2.2.2.2.2.2.2.2.2.2.2.2.2.1 y2.1 (some (List.length x1.2.2.2.2.2.2.2.2.2.2.2.2.2.2.1)), x1.2.2.2.2.2.2.2.2.2.2.2.2.2.2.1 ++ [(y2.1, y2.2.1, y2.2.2.2.1, r3.1, 0, 0, 0, y2.2.2.2.2.1, y2.2.2.2.2.2, (-1), 0, 0, 0)], ())
 else
  some (Sum.inr (x1.2.2.2.1, x1.2.2.2.2.1, x1.2.2.2.2.2.1, x1.2.2.2.2.2.2.1, x1.2.2.2.2.2.2.2.1, x1.2.2.2.2.2.2.2.2.1, x1.2.2.2.2.2.2.2.2.2.1, x1.2.2.2.2.2.2.2.2.2.2.1, x1.2.2.2.2.2.2.2.2.2.2.2.1, x1.2.2.2.2.2.2.2.2.2.2.2.2.1, x1.2.2.2.2.2.2.2.2.2.2.2.2.2.1, x1.2.2.2.2.2.2.2.2.2.2.2.2.2.2.1, ()))

def order_newFollower (a0 : D_api_Order) (a1 : List D_api_Deed) (a2 : List D_order_line) : Option ((D_api_Order × (List D_api_Deed) × (List (Int × (Option Nat))) × (List D_api_Decimal) × (List D_api_Point) × Int × Unit) × (List D_order_line) × Unit) :=
 joinB (β := ((D_api_Order × (List D_api_Deed) × (List (Int × (Option Nat))) × (List D_api_Decimal) × (List D_api_Point) × Int × Unit) × (List D_order_line) × Unit)) (γ := ((List UInt8) × (List UInt8) × (List UInt8) × Int × Int × (List D_api_Line) × (List D_api_Deed) × (List D_api_Decimal) × (List D_api_Point) × Int × (List (Int × (Option Nat))) × (List D_order_line) × Unit)) (
  iter (X := order_newFollower_x3) (β := order_newFollower_r3) (List.length a0.2.2.2.2.2 + (Int.natAbs ((List.length a0.2.2.2.2.2 : Int)) + (Int.natAbs (0 : Int) + (List.length a0.1 + (List.length a0.2.1 + (List.length a0.2.2.1 + (Int.natAbs a0.2.2.2.1 + (Int.natAbs a0.2.2.2.2.1 + (List.length a0.2.2.2.2.2 + (List.length a1 + (List.length ([] : List D_api_Decimal) + (List.length ([] : List D_api_Point) + (Int.natAbs (0 : Int) + (List.length ([] : List (Int × (Option Nat))) + (List.length a2 + 2))))))))))))))) (a0.2.2.2.2.2, (List.length a0.2.2.2.2.2 : Int), 0, a0.1, a0.2.1, a0.2.2.1, a0.2.2.2.1, a0.2.2.2.2.1, a0.2.2.2.2.2, a1, [], [], 0, [], a2, ()) (order_newFollower_b3)) fun v4 =>
 some (((v4.1, v4.2.1, v4.2.2.1, v4.2.2.2.1, v4.2.2.2.2.1, v4.2.2.2.2.2.1), v4.2.2.2.2.2.2.1, v4.2.2.2.2.2.2.2.2.2.2.1, v4.2.2.2.2.2.2.2.1, v4.2.2.2.2.2.2.2.2.1, v4.2.2.2.2.2.2.2.2.2.1, ()), v4.2.2.2.2.2.2.2.2.2.2.2.1, ())

def order_follower_add (a0 : D_api_Order × (List D_api_Deed) × (List (Int × (Option Nat))) × (List D_api_Decimal) × (List D_api_Point) × Int × Unit) (a1 : Int) (a2 : List D_order_line) : Option (Int × (D_api_Order × (List D_api_Deed) × (List (Int × (Option Nat))) × (List D_api_Decimal) × (List D_api_Point) × Int × Unit) × (List D_order_line) × Unit) :=
 Option.bind (idx a0.2.1 a1) fun y1 =>
 bif !(Option.isNone (Option.getD (α := Option Nat) (mget (k := tI) (v := .hnd) a0.2.2.1 y1.2.2.2.2.1) none)) then
  some (7, (a0.1, a0.2.1, a0.2.2.1, a0.2.2.2.1, a0.2.2.2.2.1, a0.2.2.2.2.2.1, ()), a2, ())
 else
  bif decide (((List.length a0.2.2.1 : Int)) ≥ 500) then
   some (16, (a0.1, a0.2.1, a0.2.2.1, a0.2.2.2.1, a0.2.2.2.2.1, a0.2.2.2.2.2.1, ()), a2, ())
  else
   bif decide (y1.2.2.2.2.2.2.2.2.2.1 < a0.1.2.2.2.1) then
    some (1, (a0.1, a0.2.1, a0.2.2.1, a0.2.2.2.1, a0.2.2.2.2.1, a0.2.2.2.2.2.1, ()), a2, ())
   else
    some (0, (a0.1, a0.2.1, mset (k := tI) (v := .hnd) a0.2.2.1 y1.2.2.2.2.1 (some (List.length a2)), a0.2.2.2.1, a0.2.2.2.2.1, a0.2.2.2.2.2.1, ()), a2 ++ [(y1.2.2.2.2.1, y1.2.2.2.2.2.1, y1.2.2.2.2.2.2.2.1, 0, 0, 0, 0, y1.2.2.2.2.2.2.2.2.1, y1.2.2.2.2.2.2.2.2.2.1, a1, 0, 0, 0)], ())

def order_follower_wish (a0 : D_api_Order × (List D_api_Deed) × (List (Int × (Option Nat))) × (List D_api_Decimal) × (List D_api_Point) × Int × Unit) (a1 : Option Nat) (a2 : Int) (a3 : List D_order_line) : Option (Int × (D_api_Order × (List D_api_Deed) × (List (Int × (Option Nat))) × (List D_api_Decimal) × (List D_api_Point) × Int × Unit) × (List D_order_line) × Unit) :=
 Option.bind (idx a0.2.1 a2) fun y1 =>
 Option.bind (
  bif y1.2.2.2.1 == 3 then
   some (decide (y1.2.2.2.2.2.2.2.2.2.1 < a0.1.2.2.2.1), ())
  else
   some (false, ())) fun v2 =>
 bif v2.1 then
  some (1, (a0.1, a0.2.1, a0.2.2.1, a0.2.2.2.1, a0.2.2.2.2.1, a0.2.2.2.2.2.1, ()), a3, ())
 else
  Option.bind (a1) fun h3 =>
  Option.bind (a3[h3]?) fun y4 =>
  bif decide (y4.2.2.2.2.2.2.2.2.2.1 ≥ 0) then
   some (11, (a0.1, a0.2.1, a0.2.2.1, a0.2.2.2.1, a0.2.2.2.2.1, a0.2.2.2.2.2.1, ()), a3, ())
  else
   Option.bind (a1) fun h5 =>
   Option.bind (a3[h5]?) fun y6 =>
   some (0, (a0.1, a0.2.1, a0.2.2.1, a0.2.2.2.1, a0.2.2.2.2.1, a0.2.2.2.2.2.1, ()), List.set a3 h5 (y6.1, y6.2.1, y6.2.2.1, y6.2.2.2.1, y6.2.2.2.2.1, y6.2.2.2.2.2.1, y6.2.2.2.2.2.2.1, y6.2.2.2.2.2.2.2.1, y6.2.2.2.2.2.2.2.2.1, a2, y6.2.2.2.2.2.2.2.2.2.2), ())

def order_follower_answer (a0 : D_api_Order × (List D_api_Deed) × (List (Int × (Option Nat))) × (List D_api_Decimal) × (List D_api_Point) × Int × Unit) (a1 : Option Nat) (a2 : D_api_Deed) (a3 : List D_order_line) : Option (Int × (D_api_Order × (List D_api_Deed) × (List (Int × (Option Nat))) × (List D_api_Decimal) × (List D_api_Point) × Int × Unit) × (List D_order_line) × Unit) :=
 Option.bind (a1) fun h1 =>
 Option.bind (a3[h1]?) fun y2 =>
 bif decide (y2.2.2.2.2.2.2.2.2.2.1 < 0) then
  some (5, (a0.1, a0.2.1, a0.2.2.1, a0.2.2.2.1, a0.2.2.2.2.1, a0.2.2.2.2.2.1, ()), a3, ())
 else
  Option.bind (a1) fun h3 =>
  Option.bind (a3[h3]?) fun y4 =>
  Option.bind (idx a0.2.1 y4.2.2.2.2.2.2.2.2.2.1) fun y5 =>
  bif y5.2.2.1 != a2.2.2.2.2.2.2.2.2.2.2 then
   some (5, (a0.1, a0.2.1, a0.2.2.1, a0.2.2.2.1, a0.2.2.2.2.1, a0.2.2.2.2.2.1, ()), a3, ())
  else
   Option.bind (a1) fun h6 =>
   Option.bind (a3[h6]?) fun y7 =>
   Option.bind (idx a0.2.1 y7.2.2.2.2.2.2.2.2.2.1) fun y8 =>
   bif a2.2.2.2.1 == 5 then
    bif y8.2.2.2.1 == 2 then
     Option.bind (order_units y8.2.2.2.2.2.2.1) fun r9 =>
     Option.bind (a1) fun h10 =>
     Option.bind (a3[h10]?) fun y11 =>
     Option.bind (a1) fun h12 =>
     Option.bind (a3[h12]?) fun y13 =>
     bif decide (r9.1 < (w64 (y11.2.2.2.2.1 - y13.2.2.2.2.2.2.1))) then
      some (12, (a0.1, a0.2.1, a0.2.2.1, a0.2.2.2.1, a0.2.2.2.2.1, a0.2.2.2.2.2.1, ()), a3, ())
     else
      Option.bind (order_units y8.2.2.2.2.2.2.1) fun r14 =>
      Option.bind (a1) fun h15 =>
      Option.bind (a3[h15]?) fun y16 =>
      Option.bind (a1) fun h17 =>
      Option.bind ((List.set a3 h15 (y16.1, y16.2.1, y16.2.2.1, r14.1, y16.2.2.2.2))[h17]?) fun y18 =>
      some (0, (a0.1, a0.2.1, a0.2.2.1, a0.2.2.2.1, a0.2.2.2.2.1, a0.2.2.2.2.2.1, ()), List.set (List.set a3 h15 (y16.1, y16.2.1, y16.2.2.1, r14.1, y16.2.2.2.2)) h17 (y18.1, y18.2.1, y18.2.2.1, y18.2.2.2.1, y18.2.2.2.2.1, y18.2.2.2.2.2.1, y18.2.2.2.2.2.2.1, y18.2.2.2.2.2.2.2.1, y18.2.2.2.2.2.2.2.2.1, (-1), y18.2.2.2.2.2.2.2.2.2.2), ())
    else
     bif y8.2.2.2.1 == 1 then
      Option.bind (order_units y8.2.2.2.2.2.2.1) fun r19 =>
      Option.bind (a1) fun h20 =>
      Option.bind (a3[h20]?) fun y21 =>
      Option.bind (a1) fun h22 =>
      Option.bind ((List.set a3 h20 (y21.1, y21.2.1, y21.2.2.1, r19.1, y21.2.2.2.2))[h22]?) fun y23 =>
      some (0, (a0.1, a0.2.1, a0.2.2.1, a0.2.2.2.1, a0.2.2.2.2.1, a0.2.2.2.2.2.1, ()), List.set (List.set a3 h20 (y21.1, y21.2.1, y21.2.2.1, r19.1, y21.2.2.2.2)) h22 (y23.1, y23.2.1, y23.2.2.1, y23.2.2.2.1, y23.2.2.2.2.1, y23.2.2.2.2.2.1, y23.2.2.2.2.2.2.1, y23.2.2.2.2.2.2.2.1, y23.2.2.2.2.2.2.2.2.1, (-1), y23.2.2.2.2.2.2.2.2.2.2), ())
     else
      bif y8.2.2.2.1 == 3 then
       Option.bind (a1) fun h24 =>
       Option.bind (a3[h24]?) fun y25 =>
       Option.bind (a1) fun h26 =>
       Option.bind ((List.set a3 h24 (y25.1, y25.2.1, y25.2.2.1, y25.2.2.2.1, y25.2.2.2.2.1, y25.2.2.2.2.2.1, y25.2.2.2.2.2.2.1, y25.2.2.2.2.2.2.2.1, y8.2.2.2.2.2.2.2.2.2.1, y25.2.2.2.2.2.2.2.2.2))[h26]?) fun y27 =>
       some (0, (a0.1, a0.2.1, a0.2.2.1, a0.2.2.2.1, a0.2.2.2.2.1, a0.2.2.2.2.2.1, ()), List.set (List.set a3 h24 (y25.1, y25.2.1, y25.2.2.1, y25.2.2.2.1, y25.2.2.2.2.1, y25.2.2.2.2.2.1, y25.2.2.2.2.2.2.1, y25.2.2.2.2.2.2.2.1, y8.2.2.2.2.2.2.2.2.2.1, y25.2.2.2.2.2.2.2.2.2)) h26 (y27.1, y27.2.1, y27.2.2.1, y27.2.2.2.1, y27.2.2.2.2.1, y27.2.2.2.2.2.1, y27.2.2.2.2.2.2.1, y27.2.2.2.2.2.2.2.1, y27.2.2.2.2.2.2.2.2.1, (-1), y27.2.2.2.2.2.2.2.2.2.2), ())
      else
       Option.bind (a1) fun h28 =>
       Option.bind (a3[h28]?) fun y29 =>
       Option.bind (a1) fun h30 =>
       Option.bind ((List.set a3 h28 (y29.1, y29.2.1, y29.2.2.1, y29.2.2.2.1, y29.2.2.2.2.1, y29.2.2.2.2.2.1, y29.2.2.2.2.2.2.1, y8.2.2.2.2.2.2.2.2.1, y29.2.2.2.2.2.2.2.2))[h30]?) fun y31 =>
       some (0, (a0.1, a0.2.1, a0.2.2.1, a0.2.2.2.1, a0.2.2.2.2.1, a0.2.2.2.2.2.1, ()), List.set (List.set a3 h28 (y29.1, y29.2.1, y29.2.2.1, y29.2.2.2.1, y29.2.2.2.2.1, y29.2.2.2.2.2.1, y29.2.2.2.2.2.2.1, y8.2.2.2.2.2.2.2.2.1, y29.2.2.2.2.2.2.2.2)) h30 (y31.1, y31.2.1, y31.2.2.1, y31.2.2.2.1, y31.2.2.2.2.1, y31.2.2.2.2.2.1, y31.2.2.2.2.2.2.1, y31.2.2.2.2.2.2.2.1, y31.2.2.2.2.2.2.2.2.1, (-1), y31.2.2.2.2.2.2.2.2.2.2), ())
   else
    Option.bind (a1) fun h32 =>
    Option.bind (a3[h32]?) fun y33 =>
    some (0, (a0.1, a0.2.1, a0.2.2.1, a0.2.2.2.1, a0.2.2.2.2.1, a0.2.2.2.2.2.1, ()), List.set a3 h32 (y33.1, y33.2.1, y33.2.2.1, y33.2.2.2.1, y33.2.2.2.2.1, y33.2.2.2.2.2.1, y33.2.2.2.2.2.2.1, y33.2.2.2.2.2.2.2.1, y33.2.2.2.2.2.2.2.2.1, (-1), y33.2.2.2.2.2.2.2.2.2.2), ())

def order_line_open (a0 : Option Nat) (a1 : List D_order_line) : Option (Int × Unit) :=
 Option.bind (a0) fun h1 =>
 Option.bind (a1[h1]?) fun y2 =>
 Option.bind (a0) fun h3 =>
 Option.bind (a1[h3]?) fun y4 =>
 Option.bind (a0) fun h5 =>
 Option.bind (a1[h5]?) fun y6 =>
 some (if (w64 ((w64 (y2.2.2.2.1 - y4.2.2.2.2.1)) + y6.2.2.2.2.2.2.1)) > 0 then (w64 ((w64 (y2.2.2.2.1 - y4.2.2.2.2.1)) + y6.2.2.2.2.2.2.1)) else 0, ())

def order_follower_offered (a0 : D_api_Order × (List D_api_Deed) × (List (Int × (Option Nat))) × (List D_api_Decimal) × (List D_api_Point) × Int × Unit) (a1 : Option Nat) (a2 : D_api_Deed) (a3 : List D_order_line) : Option (Int × (D_api_Order × (List D_api_Deed) × (List (Int × (Option Nat))) × (List D_api_Decimal) × (List D_api_Point) × Int × Unit) × (List D_order_line) × Unit) :=
 bif decide (a2.2.2.2.2.2.2.2.2.2.1 < a0.1.2.2.2.1) then
  some (1, (a0.1, a0.2.1, a0.2.2.1, a0.2.2.2.1, a0.2.2.2.2.1, a0.2.2.2.2.2.1, ()), a3, ())
 else
  Option.bind (a1) fun h1 =>
  Option.bind (a3[h1]?) fun y2 =>
  bif decide (y2.2.2.2.2.2.2.2.2.2.1 ≥ 0) then
   some (11, (a0.1, a0.2.1, a0.2.2.1, a0.2.2.2.1, a0.2.2.2.2.1, a0.2.2.2.2.2.1, ()), a3, ())
  else
   Option.bind (order_line_open a1 a3) fun r3 =>
   bif r3.1 == 0 then
    some (11, (a0.1, a0.2.1, a0.2.2.1, a0.2.2.2.1, a0.2.2.2.2.1, a0.2.2.2.2.2.1, ()), a3, ())
   else
    Option.bind (order_units a2.2.2.2.2.2.2.1) fun r4 =>
    Option.bind (order_line_open a1 a3) fun r5 =>
    bif decide (r4.1 > r5.1) then
     some (12, (a0.1, a0.2.1, a0.2.2.1, a0.2.2.2.1, a0.2.2.2.2.1, a0.2.2.2.2.2.1, ()), a3, ())
    else
     some (0, (a0.1, a0.2.1, a0.2.2.1, a0.2.2.2.1, a0.2.2.2.2.1, a0.2.2.2.2.2.1, ()), a3, ())

def order_follower_take (a0 : D_api_Order × (List D_api_Deed) × (List (Int × (Option Nat))) × (List D_api_Decimal) × (List D_api_Point) × Int × Unit) (a1 : Option Nat) (a2 : D_api_Deed) (a3 : List D_order_line) : Option (Int × (D_api_Order × (List D_api_Deed) × (List (Int × (Option Nat))) × (List D_api_Decimal) × (List D_api_Point) × Int × Unit) × (List D_order_line) × Unit) :=
 Option.bind (a1) fun h1 =>
 Option.bind (a3[h1]?) fun y2 =>
 bif decide (y2.2.2.2.2.2.2.2.2.2.1 ≥ 0) then
  some (11, (a0.1, a0.2.1, a0.2.2.1, a0.2.2.2.1, a0.2.2.2.2.1, a0.2.2.2.2.2.1, ()), a3, ())
 else
  Option.bind (a1) fun h3 =>
  Option.bind (a3[h3]?) fun y4 =>
  bif y4.2.2.2.2.2.2.2.2.2.2.1 == 0 then
   some (5, (a0.1, a0.2.1, a0.2.2.1, a0.2.2.2.1, a0.2.2.2.2.1, a0.2.2.2.2.2.1, ()), a3, ())
  else
   Option.bind (a1) fun h5 =>
   Option.bind (a3[h5]?) fun y6 =>
   bif y6.2.2.2.2.2.2.2.2.2.2.1 != a2.2.2.2.2.2.2.2.2.2.2 then
    some (5, (a0.1, a0.2.1, a0.2.2.1, a0.2.2.2.1, a0.2.2.2.2.1, a0.2.2.2.2.2.1, ()), a3, ())
   else
    Option.bind (a1) fun h7 =>
    Option.bind (a3[h7]?) fun y8 =>
    Option.bind (a1) fun h9 =>
    Option.bind (a3[h9]?) fun y10 =>
    Option.bind (a1) fun h11 =>
    Option.bind (a3[h11]?) fun y12 =>
    Option.bind (a1) fun h13 =>
    Option.bind (a3[h13]?) fun y14 =>
    Option.bind (a1) fun h15 =>
    Option.bind (a3[h15]?) fun y16 =>
    Option.bind (a1) fun h17 =>
    Option.bind ((List.set a3 h15 (y16.1, y16.2.1, y16.2.2.1, w64 ((w64 (y8.2.2.2.2.1 - y10.2.2.2.2.2.2.1)) + y12.2.2.2.2.2.2.2.2.2.2.2.1), y16.2.2.2.2))[h17]?) fun y18 =>
    Option.bind (a1) fun h19 =>
    Option.bind ((List.set (List.set a3 h15 (y16.1, y16.2.1, y16.2.2.1, w64 ((w64 (y8.2.2.2.2.1 - y10.2.2.2.2.2.2.1)) + y12.2.2.2.2.2.2.2.2.2.2.2.1), y16.2.2.2.2)) h17 (y18.1, y18.2.1, y18.2.2.1, y18.2.2.2.1, y18.2.2.2.2.1, y18.2.2.2.2.2.1, y18.2.2.2.2.2.2.1, y18.2.2.2.2.2.2.2.1, y14.2.2.2.2.2.2.2.2.2.2.2.2, y18.2.2.2.2.2.2.2.2.2))[h19]?) fun y20 =>
    some (0, (a0.1, a0.2.1, a0.2.2.1, a0.2.2.2.1, a0.2.2.2.2.1, a0.2.2.2.2.2.1, ()), List.set (List.set (List.set a3 h15 (y16.1, y16.2.1, y16.2.2.1, w64 ((w64 (y8.2.2.2.2.1 - y10.2.2.2.2.2.2.1)) + y12.2.2.2.2.2.2.2.2.2.2.2.1), y16.2.2.2.2)) h17 (y18.1, y18.2.1, y18.2.2.1, y18.2.2.2.1, y18.2.2.2.2.1, y18.2.2.2.2.2.1, y18.2.2.2.2.2.2.1, y18.2.2.2.2.2.2.2.1, y14.2.2.2.2.2.2.2.2.2.2.2.2, y18.2.2.2.2.2.2.2.2.2)) h19 (y20.1, y20.2.1, y20.2.2.1, y20.2.2.2.1, y20.2.2.2.2.1, y20.2.2.2.2.2.1, y20.2.2.2.2.2.2.1, y20.2.2.2.2.2.2.2.1, y20.2.2.2.2.2.2.2.2.1, y20.2.2.2.2.2.2.2.2.2.1, 0, 0, 0), ())

def order_follower_move (a0 : D_api_Order × (List D_api_Deed) × (List (Int × (Option Nat))) × (List D_api_Decimal) × (List D_api_Point) × Int × Unit) (a1 : Option Nat) (a2 : D_api_Deed) (a3 : List D_order_line) : Option (Int × (D_api_Order × (List D_api_Deed) × (List (Int × (Option Nat))) × (List D_api_Decimal) × (List D_api_Point) × Int × Unit) × (List D_order_line) × Unit) :=
 Option.bind (order_units a2.2.2.2.2.2.2.1) fun r1 =>
 bif a2.2.2.2.1 == 9 then
  Option.bind (a1) fun h2 =>
  Option.bind (a3[h2]?) fun y3 =>
  Option.bind (a1) fun h4 =>
  Option.bind (a3[h4]?) fun y5 =>
  Option.bind (a1) fun h6 =>
  Option.bind (a3[h6]?) fun y7 =>
  Option.bind (a1) fun h8 =>
  Option.bind (a3[h8]?) fun y9 =>
  let n10 : Int := w64 (y7.2.2.2.1 + (w64 (Int.tdiv (w64 (y9.2.2.2.1 * a0.1.2.2.2.2.1)) 1000)))
  bif decide ((w64 ((w64 (y3.2.2.2.2.1 - y5.2.2.2.2.2.2.1)) + r1.1)) > n10) then
   some (12, (a0.1, a0.2.1, a0.2.2.1, a0.2.2.2.1, a0.2.2.2.2.1, a0.2.2.2.2.2.1, ()), a3, ())
  else
   Option.bind (a1) fun h11 =>
   Option.bind (a3[h11]?) fun y12 =>
   bif decide ((w64 (y12.2.2.2.2.1 + r1.1)) > 1000000000000000) then
    some (16, (a0.1, a0.2.1, a0.2.2.1, a0.2.2.2.1, a0.2.2.2.2.1, a0.2.2.2.2.2.1, ()), a3, ())
   else
    Option.bind (a1) fun h13 =>
    Option.bind (a3[h13]?) fun y14 =>
    Option.bind (a1) fun h15 =>
    Option.bind (a3[h15]?) fun y16 =>
    some (0, (a0.1, a0.2.1, a0.2.2.1, a0.2.2.2.1, a0.2.2.2.2.1, a0.2.2.2.2.2.1, ()), List.set a3 h15 (y16.1, y16.2.1, y16.2.2.1, y16.2.2.2.1, w64 (y14.2.2.2.2.1 + r1.1), y16.2.2.2.2.2), ())
 else
  bif a2.2.2.2.1 == 10 then
   Option.bind (a1) fun h17 =>
   Option.bind (a3[h17]?) fun y18 =>
   Option.bind (a1) fun h19 =>
   Option.bind (a3[h19]?) fun y20 =>
   bif decide ((w64 (y18.2.2.2.2.2.1 + r1.1)) > y20.2.2.2.2.1) then
    some (12, (a0.1, a0.2.1, a0.2.2.1, a0.2.2.2.1, a0.2.2.2.2.1, a0.2.2.2.2.2.1, ()), a3, ())
   else
    Option.bind (a1) fun h21 =>
    Option.bind (a3[h21]?) fun y22 =>
    Option.bind (a1) fun h23 =>
    Option.bind (a3[h23]?) fun y24 =>
    some (0, (a0.1, a0.2.1, a0.2.2.1, a0.2.2.2.1, a0.2.2.2.2.1, a0.2.2.2.2.2.1, ()), List.set a3 h23 (y24.1, y24.2.1, y24.2.2.1, y24.2.2.2.1, y24.2.2.2.2.1, w64 (y22.2.2.2.2.2.1 + r1.1), y24.2.2.2.2.2.2), ())
  else
   Option.bind (a1) fun h25 =>
   Option.bind (a3[h25]?) fun y26 =>
   Option.bind (a1) fun h27 =>
   Option.bind (a3[h27]?) fun y28 =>
   bif decide ((w64 (y26.2.2.2.2.2.2.1 + r1.1)) > y28.2.2.2.2.2.1) then
    some (12, (a0.1, a0.2.1, a0.2.2.1, a0.2.2.2.1, a0.2.2.2.2.1, a0.2.2.2.2.2.1, ()), a3, ())
   else
    Option.bind (a1) fun h29 =>
    Option.bind (a3[h29]?) fun y30 =>
    Option.bind (a1) fun h31 =>
    Option.bind (a3[h31]?) fun y32 =>
    some (0, (a0.1, a0.2.1, a0.2.2.1, a0.2.2.2.1, a0.2.2.2.2.1, a0.2.2.2.2.2.1, ()), List.set a3 h31 (y32.1, y32.2.1, y32.2.2.1, y32.2.2.2.1, y32.2.2.2.2.1, y32.2.2.2.2.2.1, w64 (y30.2.2.2.2.2.2.1 + r1.1), y32.2.2.2.2.2.2.2), ())

def order_follower_deed (a0 : D_api_Order × (List D_api_Deed) × (List (Int × (Option Nat))) × (List D_api_Decimal) × (List D_api_Point) × Int × Unit) (a1 : Int) (a2 : List D_order_line) : Option (Int × (D_api_Order × (List D_api_Deed) × (List (Int × (Option Nat))) × (List D_api_Decimal) × (List D_api_Point) × Int × Unit) × (List D_order_line) × Unit) :=
 Option.bind (idx a0.2.1 a1) fun y1 =>
 bif y1.2.2.2.1 == 1 then
  Option.bind (order_follower_add (a0.1, a0.2.1, a0.2.2.1, a0.2.2.2.1, a0.2.2.2.2.1, a0.2.2.2.2.2.1, ()) a1 a2) fun r2 =>
  some (r2.1, (r2.2.1.1, r2.2.1.2.1, r2.2.1.2.2.1, r2.2.1.2.2.2.1, r2.2.1.2.2.2.2.1, r2.2.1.2.2.2.2.2.1, ()), r2.2.2.1, ())
 else
  bif Option.isNone (Option.getD (α := Option Nat) (mget (k := tI) (v := .hnd) a0.2.2.1 y1.2.2.2.2.1) none) then
   some (9, (a0.1, a0.2.1, a0.2.2.1, a0.2.2.2.1, a0.2.2.2.2.1, a0.2.2.2.2.2.1, ()), a2, ())
  else
   joinB (β := (Int × (D_api_Order × (List D_api_Deed) × (List (Int × (Option Nat))) × (List D_api_Decimal) × (List D_api_Point) × Int × Unit) × (List D_order_line) × Unit)) (γ := (Int × (Option Nat) × Int × Bool × Int × Int × Int × Int × Int × (List UInt8) × Int × Int × (List UInt8) × Int × Int × Int × Int × (List UInt8) × (List UInt8) × (List UInt8) × Int × Int × (List D_api_Line) × (List D_api_Deed) × Int × (List D_api_Decimal) × (List D_api_Point) × (List (Int × (Option Nat))) × (List D_order_line) × Unit)) (
    bif y1.2.2.2.1 == 2 then
     some (Sum.inr (a1, Option.getD (α := Option Nat) (mget (k := tI) (v := .hnd) a0.2.2.1 y1.2.2.2.2.1) none, y1.2.2.2.1, y1.2.2.2.1 == 2, y1.1, y1.2.1, y1.2.2.1, y1.2.2.2.1, y1.2.2.2.2.1, y1.2.2.2.2.2.1, y1.2.2.2.2.2.2.1.1, y1.2.2.2.2.2.2.1.2, y1.2.2.2.2.2.2.2.1, y1.2.2.2.2.2.2.2.2.1.1, y1.2.2.2.2.2.2.2.2.1.2, y1.2.2.2.2.2.2.2.2.2.1, y1.2.2.2.2.2.2.2.2.2.2, a0.1.1, a0.1.2.1, a0.1.2.2.1, a0.1.2.2.2.1, a0.1.2.2.2.2.1, a0.1.2.2.2.2.2, a0.2.1, a0.2.2.2.2.2.1, a0.2.2.2.1, a0.2.2.2.2.1, a0.2.2.1, a2, ()))
    else
     bif y1.2.2.2.1 == 3 then
      some (Sum.inr (a1, Option.getD (α := Option Nat) (mget (k := tI) (v := .hnd) a0.2.2.1 y1.2.2.2.2.1) none, y1.2.2.2.1, y1.2.2.2.1 == 3, y1.1, y1.2.1, y1.2.2.1, y1.2.2.2.1, y1.2.2.2.2.1, y1.2.2.2.2.2.1, y1.2.2.2.2.2.2.1.1, y1.2.2.2.2.2.2.1.2, y1.2.2.2.2.2.2.2.1, y1.2.2.2.2.2.2.2.2.1.1, y1.2.2.2.2.2.2.2.2.1.2, y1.2.2.2.2.2.2.2.2.2.1, y1.2.2.2.2.2.2.2.2.2.2, a0.1.1, a0.1.2.1, a0.1.2.2.1, a0.1.2.2.2.1, a0.1.2.2.2.2.1, a0.1.2.2.2.2.2, a0.2.1, a0.2.2.2.2.2.1, a0.2.2.2.1, a0.2.2.2.2.1, a0.2.2.1, a2, ()))
     else
      some (Sum.inr (a1, Option.getD (α := Option Nat) (mget (k := tI) (v := .hnd) a0.2.2.1 y1.2.2.2.2.1) none, y1.2.2.2.1, y1.2.2.2.1 == 4, y1.1, y1.2.1, y1.2.2.1, y1.2.2.2.1, y1.2.2.2.2.1, y1.2.2.2.2.2.1, y1.2.2.2.2.2.2.1.1, y1.2.2.2.2.2.2.1.2, y1.2.2.2.2.2.2.2.1, y1.2.2.2.2.2.2.2.2.1.1, y1.2.2.2.2.2.2.2.2.1.2, y1.2.2.2.2.2.2.2.2.2.1, y1.2.2.2.2.2.2.2.2.2.2, a0.1.1, a0.1.2.1, a0.1.2.2.1, a0.1.2.2.2.1, a0.1.2.2.2.2.1, a0.1.2.2.2.2.2, a0.2.1, a0.2.2.2.2.2.1, a0.2.2.2.1, a0.2.2.2.2.1, a0.2.2.1, a2, ()))) fun v3 =>
   bif v3.2.2.2.1 then
    Option.bind (order_follower_wish ((v3.2.2.2.2.2.2.2.2.2.2.2.2.2.2.2.2.2.1, v3.2.2.2.2.2.2.2.2.2.2.2.2.2.2.2.2.2.2.1, v3.2.2.2.2.2.2.2.2.2.2.2.2.2.2.2.2.2.2.2.1, v3.2.2.2.2.2.2.2.2.2.2.2.2.2.2.2.2.2.2.2.2.1, v3.2.2.2.2.2.2.2.2.2.2.2.2.2.2.2.2.2.2.2.2.2.1, v3.2.2.2.2.2.2.2.2.2.2.2.2.2.2.2.2.2.2.2.2.2.2.1), v3.2.2.2.2.2.2.2.2.2.2.2.2.2.2.2.2.2.2.2.2.2.2.2.1, v3.2.2.2.2.2.2.2.2.2.2.2.2.2.2.2.2.2.2.2.2.2.2.2.2.2.2.2.1, v3.2.2.2.2.2.2.2.2.2.2.2.2.2.2.2.2.2.2.2.2.2.2.2.2.2.1, v3.2.2.2.2.2.2.2.2.2.2.2.2.2.2.2.2.2.2.2.2.2.2.2.2.2.2.1, v3.2.2.2.2.2.2.2.2.2.2.2.2.2.2.2.2.2.2.2.2.2.2.2.2.1, ()) v3.2.1 v3.1 v3.2.2.2.2.2.2.2.2.2.2.2.2.2.2.2.2.2.2.2.2.2.2.2.2.2.2.2.2.1) fun r4 =>
    some (r4.1, (r4.2.1.1, r4.2.1.2.1, r4.2.1.2.2.1, r4.2.1.2.2.2.1, r4.2.1.2.2.2.2.1, r4.2.1.2.2.2.2.2.1, ()), r4.2.2.1, ())
   else
    joinB (β := (Int × (D_api_Order × (List D_api_Deed) × (List (Int × (Option Nat))) × (List D_api_Decimal) × (List D_api_Point) × Int × Unit) × (List D_order_line) × Unit)) (γ := ((Option Nat) × Int × Bool × Int × Int × Int × Int × Int × (List UInt8) × Int × Int × (List UInt8) × Int × Int × Int × Int × (List UInt8) × (List UInt8) × (List UInt8) × Int × Int × (List D_api_Line) × (List D_api_Deed) × Int × (List D_api_Decimal) × (List D_api_Point) × (List (Int × (Option Nat))) × (List D_order_line) × Unit)) (
     bif v3.2.2.1 == 5 then
      some (Sum.inr (v3.2.1, v3.2.2.1, v3.2.2.1 == 5, v3.2.2.2.2.1, v3.2.2.2.2.2.1, v3.2.2.2.2.2.2.1, v3.2.2.2.2.2.2.2.1, v3.2.2.2.2.2.2.2.2.1, v3.2.2.2.2.2.2.2.2.2.1, v3.2.2.2.2.2.2.2.2.2.2.1, v3.2.2.2.2.2.2.2.2.2.2.2.1, v3.2.2.2.2.2.2.2.2.2.2.2.2.1, v3.2.2.2.2.2.2.2.2.2.2.2.2.2.1, v3.2.2.2.2.2.2.2.2.2.2.2.2.2.2.1, v3.2.2.2.2.2.2.2.2.2.2.2.2.2.2.2.1, v3.2.2.2.2.2.2.2.2.2.2.2.2.2.2.2.2.1, v3.2.2.2.2.2.2.2.2.2.2.2.2.2.2.2.2.2.1, v3.2.2.2.2.2.2.2.2.2.2.2.2.2.2.2.2.2.2.1, v3.2.2.2.2.2.2.2.2.2.2.2.2.2.2.2.2.2.2.2.1, v3.2.2.2.2.2.2.2.2.2.2.2.2.2.2.2.2.2.2.2.2.1, v3.2.2.2.2.2.2.2.2.2.2.2.2.2.2.2.2.2.2.2.2.2.1, v3.2.2.2.2.2.2.2.2.2.2.2.2.2.2.2.2.2.2.2.2.2.2.1, v3.2.2.2.2.2.2.2.2.2.2.2.2.2.2.2.2.2.2.2.2.2.2.2.1, v3.2.2.2.2.2.2.2.2.2.2.2.2.2.2.2.2.2.2.2.2.2.2.2.2.1, v3.2.2.2.2.2.2.2.2.2.2.2.2.2.2.2.2.2.2.2.2.2.2.2.2.2.1, v3.2.2.2.2.2.2.2.2.2.2.2.2.2.2.2.2.2.2.2.2.2.2.2.2.2.2.1, v3.2.2.2.2.2.2.2.2.2.2.2.2.2.2.2.2.2.2.2.2.2.2.2.2.2.2.2.1, v3.2.2.2.2.2.2.2.2.2.2.2.2.2.2.2.2.2.2.2.2.2.2.2.2.2.2.2.2.1, ()))
     else
      some (Sum.inr (v3.2.1, v3.2.2.1, v3.2.2.1 == 6, v3.2.2.2.2.1, v3.2.2.2.2.2.1, v3.2.2.2.2.2.2.1, v3.2.2.2.2.2.2.2.1, v3.2.2.2.2.2.2.2.2.1, v3.2.2.2.2.2.2.2.2.2.1, v3.2.2.2.2.2.2.2.2.2.2.1, v3.2.2.2.2.2.2.2.2.2.2.2.1, v3.2.2.2.2.2.2.2.2.2.2.2.2.1, v3.2.2.2.2.2.2.2.2.2.2.2.2.2.1, v3.2.2.2.2.2.2.2.2.2.2.2.2.2.2.1, v3.2.2.2.2.2.2.2.2.2.2.2.2.2.2.2.1, v3.2.2.2.2.2.2.2.2.2.2.2.2.2.2.2.2.1, v3.2.2.2.2.2.2.2.2.2.2.2.2.2.2.2.2.2.1, v3.2.2.2.2.2.2.2.2.2.2.2.2.2.2.2.2.2.2.1, v3.2.2.2.2.2.2.2.2.2.2.2.2.2.2.2.2.2.2.2.1, v3.2.2.2.2.2.2.2.2.2.2.2.2.2.2.2.2.2.2.2.2.1, v3.2.2.2.2.2.2.2.2.2.2.2.2.2.2.2.2.2.2.2.2.2.1, v3.2.2.2.2.2.2.2.2.2.2.2.2.2.2.2.2.2.2.2.2.2.2.1, v3.2.2.2.2.2.2.2.2.2.2.2.2.2.2.2.2.2.2.2.2.2.2.2.1, v3.2.2.2.2.2.2.2.2.2.2.2.2.2.2.2.2.2.2.2.2.2.2.2.2.1, v3.2.2.2.2.2.2.2.2.2.2.2.2.2.2.2.2.2.2.2.2.2.2.2.2.2.1, v3.2.2.2.2.2.2.2.2.2.2.2.2.2.2.2.2.2.2.2.2.2.2.2.2.2.2.1, v3.2.2.2.2.2.2.2.2.2.2.2.2.2.2.2.2.2.2.2.2.2.2.2.2.2.2.2.1, v3.2.2.2.2.2.2.2.2.2.2.2.2.2.2.2.2.2.2.2.2.2.2.2.2.2.2.2.2.1, ()))) fun v5 =>
    joinB (β := (Int × (D_api_Order × (List D_api_Deed) × (List (Int × (Option Nat))) × (List D_api_Decimal) × (List D_api_Point) × Int × Unit) × (List D_order_line) × Unit)) (γ := ((Option Nat) × Int × Int × Int × Int × Int × Int × (List UInt8) × Int × Int × (List UInt8) × Int × Int × Int × Int × (List UInt8) × (List UInt8) × (List UInt8) × Int × Int × (List D_api_Line) × (List D_api_Deed) × (List (Int × (Option Nat))) × (List D_api_Decimal) × (List D_api_Point) × Int × (List D_order_line) × Unit)) (
     bif v5.2.2.1 then
      Option.bind (order_follower_answer ((v5.2.2.2.2.2.2.2.2.2.2.2.2.2.2.2.2.1, v5.2.2.2.2.2.2.2.2.2.2.2.2.2.2.2.2.2.1, v5.2.2.2.2.2.2.2.2.2.2.2.2.2.2.2.2.2.2.1, v5.2.2.2.2.2.2.2.2.2.2.2.2.2.2.2.2.2.2.2.1, v5.2.2.2.2.2.2.2.2.2.2.2.2.2.2.2.2.2.2.2.2.1, v5.2.2.2.2.2.2.2.2.2.2.2.2.2.2.2.2.2.2.2.2.2.1), v5.2.2.2.2.2.2.2.2.2.2.2.2.2.2.2.2.2.2.2.2.2.2.1, v5.2.2.2.2.2.2.2.2.2.2.2.2.2.2.2.2.2.2.2.2.2.2.2.2.2.2.1, v5.2.2.2.2.2.2.2.2.2.2.2.2.2.2.2.2.2.2.2.2.2.2.2.2.1, v5.2.2.2.2.2.2.2.2.2.2.2.2.2.2.2.2.2.2.2.2.2.2.2.2.2.1, v5.2.2.2.2.2.2.2.2.2.2.2.2.2.2.2.2.2.2.2.2.2.2.2.1, ()) v5.1 (v5.2.2.2.1, v5.2.2.2.2.1, v5.2.2.2.2.2.1, v5.2.2.2.2.2.2.1, v5.2.2.2.2.2.2.2.1, v5.2.2.2.2.2.2.2.2.1, (v5.2.2.2.2.2.2.2.2.2.1, v5.2.2.2.2.2.2.2.2.2.2.1), v5.2.2.2.2.2.2.2.2.2.2.2.1, (v5.2.2.2.2.2.2.2.2.2.2.2.2.1, v5.2.2.2.2.2.2.2.2.2.2.2.2.2.1), v5.2.2.2.2.2.2.2.2.2.2.2.2.2.2.1, v5.2.2.2.2.2.2.2.2.2.2.2.2.2.2.2.1) v5.2.2.2.2.2.2.2.2.2.2.2.2.2.2.2.2.2.2.2.2.2.2.2.2.2.2.2.1) fun r6 =>
      some (Sum.inr (v5.1, r6.1, v5.2.2.2.1, v5.2.2.2.2.1, v5.2.2.2.2.2.1, v5.2.2.2.2.2.2.1, v5.2.2.2.2.2.2.2.1, v5.2.2.2.2.2.2.2.2.1, v5.2.2.2.2.2.2.2.2.2.1, v5.2.2.2.2.2.2.2.2.2.2.1, v5.2.2.2.2.2.2.2.2.2.2.2.1, v5.2.2.2.2.2.2.2.2.2.2.2.2.1, v5.2.2.2.2.2.2.2.2.2.2.2.2.2.1, v5.2.2.2.2.2.2.2.2.2.2.2.2.2.2.1, v5.2.2.2.2.2.2.2.2.2.2.2.2.2.2.2.1, r6.2.1.1.1, r6.2.1.1.2.1, r6.2.1.1.2.2.1, r6.2.1.1.2.2.2.1, r6.2.1.1.2.2.2.2.1, r6.2.1.1.2.2.2.2.2, r6.2.1.2.1, r6.2.1.2.2.1, r6.2.1.2.2.2.1, r6.2.1.2.2.2.2.1, r6.2.1.2.2.2.2.2.1, r6.2.2.1, ()))
     else
      bif v5.2.1 == 7 then
       Option.bind (order_follower_offered ((v5.2.2.2.2.2.2.2.2.2.2.2.2.2.2.2.2.1, v5.2.2.2.2.2.2.2.2.2.2.2.2.2.2.2.2.2.1, v5.2.2.2.2.2.2.2.2.2.2.2.2.2.2.2.2.2.2.1, v5.2.2.2.2.2.2.2.2.2.2.2.2.2.2.2.2.2.2.2.1, v5.2.2.2.2.2.2.2.2.2.2.2.2.2.2.2.2.2.2.2.2.1, v5.2.2.2.2.2.2.2.2.2.2.2.2.2.2.2.2.2.2.2.2.2.1), v5.2.2.2.2.2.2.2.2.2.2.2.2.2.2.2.2.2.2.2.2.2.2.1, v5.2.2.2.2.2.2.2.2.2.2.2.2.2.2.2.2.2.2.2.2.2.2.2.2.2.2.1, v5.2.2.2.2.2.2.2.2.2.2.2.2.2.2.2.2.2.2.2.2.2.2.2.2.1, v5.2.2.2.2.2.2.2.2.2.2.2.2.2.2.2.2.2.2.2.2.2.2.2.2.2.1, v5.2.2.2.2.2.2.2.2.2.2.2.2.2.2.2.2.2.2.2.2.2.2.2.1, ()) v5.1 (v5.2.2.2.1, v5.2.2.2.2.1, v5.2.2.2.2.2.1, v5.2.2.2.2.2.2.1, v5.2.2.2.2.2.2.2.1, v5.2.2.2.2.2.2.2.2.1, (v5.2.2.2.2.2.2.2.2.2.1, v5.2.2.2.2.2.2.2.2.2.2.1), v5.2.2.2.2.2.2.2.2.2.2.2.1, (v5.2.2.2.2.2.2.2.2.2.2.2.2.1, v5.2.2.2.2.2.2.2.2.2.2.2.2.2.1), v5.2.2.2.2.2.2.2.2.2.2.2.2.2.2.1, v5.2.2.2.2.2.2.2.2.2.2.2.2.2.2.2.1) v5.2.2.2.2.2.2.2.2.2.2.2.2.2.2.2.2.2.2.2.2.2.2.2.2.2.2.2.1) fun r7 =>
       some (Sum.inr (v5.1, r7.1, v5.2.2.2.1, v5.2.2.2.2.1, v5.2.2.2.2.2.1, v5.2.2.2.2.2.2.1, v5.2.2.2.2.2.2.2.1, v5.2.2.2.2.2.2.2.2.1, v5.2.2.2.2.2.2.2.2.2.1, v5.2.2.2.2.2.2.2.2.2.2.1, v5.2.2.2.2.2.2.2.2.2.2.2.1, v5.2.2.2.2.2.2.2.2.2.2.2.2.1, v5.2.2.2.2.2.2.2.2.2.2.2.2.2.1, v5.2.2.2.2.2.2.2.2.2.2.2.2.2.2.1, v5.2.2.2.2.2.2.2.2.2.2.2.2.2.2.2.1, r7.2.1.1.1, r7.2.1.1.2.1, r7.2.1.1.2.2.1, r7.2.1.1.2.2.2.1, r7.2.1.1.2.2.2.2.1, r7.2.1.1.2.2.2.2.2, r7.2.1.2.1, r7.2.1.2.2.1, r7.2.1.2.2.2.1, r7.2.1.2.2.2.2.1, r7.2.1.2.2.2.2.2.1, r7.2.2.1, ()))
      else
       bif v5.2.1 == 8 then
        Option.bind (order_follower_take ((v5.2.2.2.2.2.2.2.2.2.2.2.2.2.2.2.2.1, v5.2.2.2.2.2.2.2.2.2.2.2.2.2.2.2.2.2.1, v5.2.2.2.2.2.2.2.2.2.2.2.2.2.2.2.2.2.2.1, v5.2.2.2.2.2.2.2.2.2.2.2.2.2.2.2.2.2.2.2.1, v5.2.2.2.2.2.2.2.2.2.2.2.2.2.2.2.2.2.2.2.2.1, v5.2.2.2.2.2.2.2.2.2.2.2.2.2.2.2.2.2.2.2.2.2.1), v5.2.2.2.2.2.2.2.2.2.2.2.2.2.2.2.2.2.2.2.2.2.2.1, v5.2.2.2.2.2.2.2.2.2.2.2.2.2.2.2.2.2.2.2.2.2.2.2.2.2.2.1, v5.2.2.2.2.2.2.2.2.2.2.2.2.2.2.2.2.2.2.2.2.2.2.2.2.1, v5.2.2.2.2.2.2.2.2.2.2.2.2.2.2.2.2.2.2.2.2.2.2.2.2.2.1, v5.2.2.2.2.2.2.2.2.2.2.2.2.2.2.2.2.2.2.2.2.2.2.2.1, ()) v5.1 (v5.2.2.2.1, v5.2.2.2.2.1, v5.2.2.2.2.2.1, v5.2.2.2.2.2.2.1, v5.2.2.2.2.2.2.2.1, v5.2.2.2.2.2.2.2.2.1, (v5.2.2.2.2.2.2.2.2.2.1, v5.2.2.2.2.2.2.2.2.2.2.1), v5.2.2.2.2.2.2.2.2.2.2.2.1, (v5.2.2.2.2.2.2.2.2.2.2.2.2.1, v5.2.2.2.2.2.2.2.2.2.2.2.2.2.1), v5.2.2.2.2.2.2.2.2.2.2.2.2.2.2.1, v5.2.2.2.2.2.2.2.2.2.2.2.2.2.2.2.1) v5.2.2.2.2.2.2.2.2.2.2.2.2.2.2.2.2.2.2.2.2.2.2.2.2.2.2.2.1) fun r8 =>
        some (Sum.inl (r8.1, (r8.2.1.1, r8.2.1.2.1, r8.2.1.2.2.1, r8.2.1.2.2.2.1, r8.2.1.2.2.2.2.1, r8.2.1.2.2.2.2.2.1, ()), r8.2.2.1, ()))
       else
        Option.bind (order_follower_move ((v5.2.2.2.2.2.2.2.2.2.2.2.2.2.2.2.2.1, v5.2.2.2.2.2.2.2.2.2.2.2.2.2.2.2.2.2.1, v5.2.2.2.2.2.2.2.2.2.2.2.2.2.2.2.2.2.2.1, v5.2.2.2.2.2.2.2.2.2.2.2.2.2.2.2.2.2.2.2.1, v5.2.2.2.2.2.2.2.2.2.2.2.2.2.2.2.2.2.2.2.2.1, v5.2.2.2.2.2.2.2.2.2.2.2.2.2.2.2.2.2.2.2.2.2.1), v5.2.2.2.2.2.2.2.2.2.2.2.2.2.2.2.2.2.2.2.2.2.2.1, v5.2.2.2.2.2.2.2.2.2.2.2.2.2.2.2.2.2.2.2.2.2.2.2.2.2.2.1, v5.2.2.2.2.2.2.2.2.2.2.2.2.2.2.2.2.2.2.2.2.2.2.2.2.1, v5.2.2.2.2.2.2.2.2.2.2.2.2.2.2.2.2.2.2.2.2.2.2.2.2.2.1, v5.2.2.2.2.2.2.2.2.2.2.2.2.2.2.2.2.2.2.2.2.2.2.2.1, ()) v5.1 (v5.2.2.2.1, v5.2.2.2.2.1, v5.2.2.2.2.2.1, v5.2.2.2.2.2.2.1, v5.2.2.2.2.2.2.2.1, v5.2.2.2.2.2.2.2.2.1, (v5.2.2.2.2.2.2.2.2.2.1, v5.2.2.2.2.2.2.2.2.2.2.1), v5.2.2.2.2.2.2.2.2.2.2.2.1, (v5.2.2.2.2.2.2.2.2.2.2.2.2.1, v5.2.2.2.2.2.2.2.2.2.2.2.2.2.1), v5.2.2.2.2.2.2.2.2.2.2.2.2.2.2.1, v5.2.2.2.2.2.2.2.2.2.2.2.2.2.2.2.1) v5.2.2.2.2.2.2.2.2.2.2.2.2.2.2.2.2.2.2.2.2.2.2.2.2.2.2.2.1) fun r9 =>
        some (Sum.inr (v5.1, r9.1, v5.2.2.2.1, v5.2.2.2.2.1, v5.2.2.2.2.2.1, v5.2.2.2.2.2.2.1, v5.2.2.2.2.2.2.2.1, v5.2.2.2.2.2.2.2.2.1, v5.2.2.2.2.2.2.2.2.2.1, v5.2.2.2.2.2.2.2.2.2.2.1, v5.2.2.2.2.2.2.2.2.2.2.2.1, v5.2.2.2.2.2.2.2.2.2.2.2.2.1, v5.2.2.2.2.2.2.2.2.2.2.2.2.2.1, v5.2.2.2.2.2.2.2.2.2.2.2.2.2.2.1, v5.2.2.2.2.2.2.2.2.2.2.2.2.2.2.2.1, r9.2.1.1.1, r9.2.1.1.2.1, r9.2.1.1.2.2.1, r9.2.1.1.2.2.2.1, r9.2.1.1.2.2.2.2.1, r9.2.1.1.2.2.2.2.2, r9.2.1.2.1, r9.2.1.2.2.1, r9.2.1.2.2.2.1, r9.2.1.2.2.2.2.1, r9.2.1.2.2.2.2.2.1, r9.2.2.1, ()))) fun v10 =>
    Option.bind (
     bif v10.2.1 == 0 then
      Option.bind (order_isSellers v10.2.2.2.2.2.1) fun r11 =>
      some (r11.1, ())
     else
      some (false, ())) fun v12 =>
    bif v12.1 then
     Option.bind (v10.1) fun h13 =>
     Option.bind (v10.2.2.2.2.2.2.2.2.2.2.2.2.2.2.2.2.2.2.2.2.2.2.2.2.2.2.1[h13]?) fun y14 =>
     bif v10.2.2.2.2.2.1 == 7 then
      Option.bind (order_units (v10.2.2.2.2.2.2.2.2.1, v10.2.2.2.2.2.2.2.2.2.1)) fun r15 =>
      Option.bind (v10.1) fun h16 =>
      Option.bind ((List.set v10.2.2.2.2.2.2.2.2.2.2.2.2.2.2.2.2.2.2.2.2.2.2.2.2.2.2.1 h13 (y14.1, y14.2.1, y14.2.2.1, y14.2.2.2.1, y14.2.2.2.2.1, y14.2.2.2.2.2.1, y14.2.2.2.2.2.2.1, y14.2.2.2.2.2.2.2.1, y14.2.2.2.2.2.2.2.2.1, y14.2.2.2.2.2.2.2.2.2.1, 0, 0, 0))[h16]?) fun y17 =>
      some (v10.2.1, ((v10.2.2.2.2.2.2.2.2.2.2.2.2.2.2.2.1, v10.2.2.2.2.2.2.2.2.2.2.2.2.2.2.2.2.1, v10.2.2.2.2.2.2.2.2.2.2.2.2.2.2.2.2.2.1, v10.2.2.2.2.2.2.2.2.2.2.2.2.2.2.2.2.2.2.1, v10.2.2.2.2.2.2.2.2.2.2.2.2.2.2.2.2.2.2.2.1, v10.2.2.2.2.2.2.2.2.2.2.2.2.2.2.2.2.2.2.2.2.1), v10.2.2.2.2.2.2.2.2.2.2.2.2.2.2.2.2.2.2.2.2.2.1, v10.2.2.2.2.2.2.2.2.2.2.2.2.2.2.2.2.2.2.2.2.2.2.1, v10.2.2.2.2.2.2.2.2.2.2.2.2.2.2.2.2.2.2.2.2.2.2.2.1, v10.2.2.2.2.2.2.2.2.2.2.2.2.2.2.2.2.2.2.2.2.2.2.2.2.1, v10.2.2.2.2.2.2.2.2.2.2.2.2.2.2.2.2.2.2.2.2.2.2.2.2.2.1, ()), List.set (List.set v10.2.2.2.2.2.2.2.2.2.2.2.2.2.2.2.2.2.2.2.2.2.2.2.2.2.2.1 h13 (y14.1, y14.2.1, y14.2.2.1, y14.2.2.2.1, y14.2.2.2.2.1, y14.2.2.2.2.2.1, y14.2.2.2.2.2.2.1, y14.2.2.2.2.2.2.2.1, y14.2.2.2.2.2.2.2.2.1, y14.2.2.2.2.2.2.2.2.2.1, 0, 0, 0)) h16 (y17.1, y17.2.1, y17.2.2.1, y17.2.2.2.1, y17.2.2.2.2.1, y17.2.2.2.2.2.1, y17.2.2.2.2.2.2.1, y17.2.2.2.2.2.2.2.1, y17.2.2.2.2.2.2.2.2.1, y17.2.2.2.2.2.2.2.2.2.1, v10.2.2.2.2.1, r15.1, v10.2.2.2.2.2.2.2.2.2.2.2.2.2.1), ())
     else
      some (v10.2.1, ((v10.2.2.2.2.2.2.2.2.2.2.2.2.2.2.2.1, v10.2.2.2.2.2.2.2.2.2.2.2.2.2.2.2.2.1, v10.2.2.2.2.2.2.2.2.2.2.2.2.2.2.2.2.2.1, v10.2.2.2.2.2.2.2.2.2.2.2.2.2.2.2.2.2.2.1, v10.2.2.2.2.2.2.2.2.2.2.2.2.2.2.2.2.2.2.2.1, v10.2.2.2.2.2.2.2.2.2.2.2.2.2.2.2.2.2.2.2.2.1), v10.2.2.2.2.2.2.2.2.2.2.2.2.2.2.2.2.2.2.2.2.2.1, v10.2.2.2.2.2.2.2.2.2.2.2.2.2.2.2.2.2.2.2.2.2.2.1, v10.2.2.2.2.2.2.2.2.2.2.2.2.2.2.2.2.2.2.2.2.2.2.2.1, v10.2.2.2.2.2.2.2.2.2.2.2.2.2.2.2.2.2.2.2.2.2.2.2.2.1, v10.2.2.2.2.2.2.2.2.2.2.2.2.2.2.2.2.2.2.2.2.2.2.2.2.2.1, ()), List.set v10.2.2.2.2.2.2.2.2.2.2.2.2.2.2.2.2.2.2.2.2.2.2.2.2.2.2.1 h13 (y14.1, y14.2.1, y14.2.2.1, y14.2.2.2.1, y14.2.2.2.2.1, y14.2.2.2.2.2.1, y14.2.2.2.2.2.2.1, y14.2.2.2.2.2.2.2.1, y14.2.2.2.2.2.2.2.2.1, y14.2.2.2.2.2.2.2.2.2.1, 0, 0, 0), ())
    else
     some (v10.2.1, ((v10.2.2.2.2.2.2.2.2.2.2.2.2.2.2.2.1, v10.2.2.2.2.2.2.2.2.2.2.2.2.2.2.2.2.1, v10.2.2.2.2.2.2.2.2.2.2.2.2.2.2.2.2.2.1, v10.2.2.2.2.2.2.2.2.2.2.2.2.2.2.2.2.2.2.1, v10.2.2.2.2.2.2.2.2.2.2.2.2.2.2.2.2.2.2.2.1, v10.2.2.2.2.2.2.2.2.2.2.2.2.2.2.2.2.2.2.2.2.1), v10.2.2.2.2.2.2.2.2.2.2.2.2.2.2.2.2.2.2.2.2.2.1, v10.2.2.2.2.2.2.2.2.2.2.2.2.2.2.2.2.2.2.2.2.2.2.1, v10.2.2.2.2.2.2.2.2.2.2.2.2.2.2.2.2.2.2.2.2.2.2.2.1, v10.2.2.2.2.2.2.2.2.2.2.2.2.2.2.2.2.2.2.2.2.2.2.2.2.1, v10.2.2.2.2.2.2.2.2.2.2.2.2.2.2.2.2.2.2.2.2.2.2.2.2.2.1, ()), v10.2.2.2.2.2.2.2.2.2.2.2.2.2.2.2.2.2.2.2.2.2.2.2.2.2.2.1, ())

def order_told (a0 : Int) : Option (D_api_Decimal × Unit) :=
 Option.bind (whole_Of a0) fun r1 =>
 Option.bind (amount_Fewest r1.1 3) fun r2 =>
 some (r2.1, ())

abbrev amount_Least_x1 : Type := Int × Int × Int × Int × Unit
abbrev amount_Least_r1 : Type := ((D_api_Decimal × Unit) ⊕ (Int × Int × Int × Int × Unit))
def amount_Least_b1  (x1 : amount_Least_x1) (again : amount_Least_x1 → Option amount_Least_r1) : Option amount_Least_r1 :=
 Option.bind (
  bif decide (x1.2.1 > 0) then
   some ((Int.tmod x1.1 10) == 0, ())
  else
   some (false, ())) fun v2 =>
 bif v2.1 then
  again (w64 (Int.tdiv x1.1 10), w64 (x1.2.1 - 1), x1.2.2.1, x1.2.2.2.1, ())
 else
  some (Sum.inr (x1.1, x1.2.1, x1.2.2.1, x1.2.2.2.1, ()))

def amount_Least (a0 : D_api_Decimal) : Option (D_api_Decimal × Unit) :=
 joinB (β := (D_api_Decimal × Unit)) (γ := (Int × Int × Int × Int × Unit)) (
  iter (X := amount_Least_x1) (β := amount_Least_r1) (Int.natAbs a0.1 + (Int.natAbs a0.2 + (Int.natAbs (0 : Int) + (Int.natAbs (0 : Int) + 2)))) (a0.1, a0.2, 0, 0, ()) (amount_Least_b1)) fun v3 =>
 some ((v3.1, v3.2.1), ())

def order_line_state (a0 : Option Nat) (a1 : List D_order_line) : Option (D_api_State × Unit) :=
 Option.bind (a0) fun h1 =>
 Option.bind (a1[h1]?) fun y2 =>
 Option.bind (a0) fun h3 =>
 Option.bind (a1[h3]?) fun y4 =>
 Option.bind (a0) fun h5 =>
 Option.bind (a1[h5]?) fun y6 =>
 Option.bind (a0) fun h7 =>
 Option.bind (a1[h7]?) fun y8 =>
 Option.bind (order_told y8.2.2.2.1) fun r9 =>
 Option.bind (a0) fun h10 =>
 Option.bind (a1[h10]?) fun y11 =>
 Option.bind (amount_Least y11.2.2.2.2.2.2.2.1) fun r12 =>
 Option.bind (a0) fun h13 =>
 Option.bind (a1[h13]?) fun y14 =>
 Option.bind (a0) fun h15 =>
 Option.bind (a1[h15]?) fun y16 =>
 Option.bind (order_told y16.2.2.2.2.1) fun r17 =>
 Option.bind (a0) fun h18 =>
 Option.bind (a1[h18]?) fun y19 =>
 Option.bind (order_told y19.2.2.2.2.2.1) fun r20 =>
 Option.bind (a0) fun h21 =>
 Option.bind (a1[h21]?) fun y22 =>
 Option.bind (order_told y22.2.2.2.2.2.2.1) fun r23 =>
 Option.bind (order_line_open a0 a1) fun r24 =>
 Option.bind (order_told r24.1) fun r25 =>
 some ((y2.1, y4.2.1, y6.2.2.1, r9.1, r12.1, y14.2.2.2.2.2.2.2.2.1, r17.1, r20.1, r23.1, r25.1), ())

abbrev order_follower_run_x1 : Type := Int × (List D_api_Deed) × Int × Int × (List UInt8) × (List UInt8) × (List UInt8) × Int × Int × (List D_api_Line) × (List D_api_Deed) × (List (Int × (Option Nat))) × (List D_api_Decimal) × (List D_api_Point) × Int × (List D_order_line) × Unit
abbrev order_follower_run_r1 : Type := (((D_api_Order × (List D_api_Deed) × (List (Int × (Option Nat))) × (List D_api_Decimal) × (List D_api_Point) × Int × Unit) × (List D_order_line) × Unit) ⊕ ((List UInt8) × (List UInt8) × (List UInt8) × Int × Int × (List D_api_Line) × (List D_api_Deed) × (List (Int × (Option Nat))) × (List D_api_Decimal) × (List D_api_Point) × Int × (List D_order_line) × Unit))
def order_follower_run_b1  (x1 : order_follower_run_x1) (again : order_follower_run_x1 → Option order_follower_run_r1) : Option order_follower_run_r1 :=
 bif decide (x1.2.2.2.1 < x1.2.2.1) then
  Option.bind (idx x1.2.1 x1.2.2.2.1) fun y2 =>
  bif decide (y2.1 > x1.1) then
   some (Sum.inr (x1.2.2.2.2.1, x1.2.2.2.2.2.1, x1.2.2.2.2.2.2.1, x1.2.2.2.2.2.2.2.1, x1.2.2.2.2.2.2.2.2.1, x1.2.2.2.2.2.2.2.2.2.1, x1.2.2.2.2.2.2.2.2.2.2.1, x1.2.2.2.2.2.2.2.2.2.2.2.1, x1.2.2.2.2.2.2.2.2.2.2.2.2.1, x1.2.2.2.2.2.2.2.2.2.2.2.2.2.1, x1.2.2.2.2.2.2.2.2.2.2.2.2.2.2.1, x1.2.2.2.2.2.2.2.2.2.2.2.2.2.2.2.1, ()))
  else
   Option.bind (order_follower_deed ((x1.2.2.2.2.1, x1.2.2.2.2.2.1, x1.2.2.2.2.2.2.1, x1.2.2.2.2.2.2.2.1, x1.2.2.2.2.2.2.2.2.1, x1.2.2.2.2.2.2.2.2.2.1), x1.2.2.2.2.2.2.2.2.2.2.1, x1.2.2.2.2.2.2.2.2.2.2.2.1, x1.2.2.2.2.2.2.2.2.2.2.2.2.1, x1.2.2.2.2.2.2.2.2.2.2.2.2.2.1, x1.2.2.2.2.2.2.2.2.2.2.2.2.2.2.1, ()) x1.2.2.2.1 x1.2.2.2.2.2.2.2.2.2.2.2.2.2.2.2.1) fun r3 =>
   bif r3.1 != 0 then
    chk (decide (((List.length r3.2.1.2.2.2.1) + 1) * 16 ≤ 140737488355328) && decide ((List.length r3.2.1.2.2.2.1) + 1 ≤ maxLen)) <|
    again (x1.1, x1.2.1, x1.2.2.1, w64 (x1.2.2.2.1 + 1), r3.2.1.1.1, r3.2.1.1.2.1, r3.2.1.1.2.2.1, r3.2.1.1.2.2.2.1, r3.2.1.1.2.2.2.2.1, r3.2.1.1.2.2.2.2.2, r3.2.1.2.1, r3.2.1.2.2.1, r3.2.1.2.2.2.1 ++ [(x1.2.2.2.1, r3.1)], r3.2.1.2.2.2.2.1, r3.2.1.2.2.2.2.2.1, r3.2.2.1, ())
   else
    bif y2.2.2.2.2.1 == r3.2.1.2.2.2.2.2.1 then
     Option.bind (order_line_state (Option.getD (α := Option Nat) (mget (k := tI) (v := .hnd) r3.2.1.2.2.1 y2.2.2.2.2.1) none) r3.2.2.1) fun r4 =>
     chk (decide (((List.length r3.2.1.2.2.2.2.1) + 1) * 152 ≤ 140737488355328) && decide ((List.length r3.2.1.2.2.2.2.1) + 1 ≤ maxLen)) <|
     again (x1.1, x1.2.1, x1.2.2.1, w64 (x1.2.2.2.1 + 1), r3.2.1.1.1, r3.2.1.1.2.1, r3.2.1.1.2.2.1, r3.2.1.1.2.2.2.1, r3.2.1.1.2.2.2.2.1, r3.2.1.1.2.2.2.2.2, r3.2.1.2.1, r3.2.1.2.2.1, r3.2.1.2.2.2.1, r3.2.1.2.2.2.2.1 ++ [(x1.2.2.2.1, r4.1)], r3.2.1.2.2.2.2.2.1, r3.2.2.1, ())
    else
     again (x1.1, x1.2.1, x1.2.2.1, w64 (x1.2.2.2.1 + 1), r3.2.1.1.1, r3.2.1.1.2.1, r3.2.1.1.2.2.1, r3.2.1.1.2.2.2.1, r3.2.1.1.2.2.2.2.1, r3.2.1.1.2.2.2.2.2, r3.2.1.2.1, r3.2.1.2.2.1, r3.2.1.2.2.2.1, r3.2.1.2.2.2.2.1, r3.2.1.2.2.2.2.2.1, r3.2.2.1, ())
 else
  some (Sum.inr (x1.2.2.2.2.1, x1.2.2.2.2.2.1, x1.2.2.2.2.2.2.1, x1.2.2.2.2.2.2.2.1, x1.2.2.2.2.2.2.2.2.1, x1.2.2.2.2.2.2.2.2.2.1, x1.2.2.2.2.2.2.2.2.2.2.1, x1.2.2.2.2.2.2.2.2.2.2.2.1, x1.2.2.2.2.2.2.2.2.2.2.2.2.1, x1.2.2.2.2.2.2.2.2.2.2.2.2.2.1, x1.2.2.2.2.2.2.2.2.2.2.2.2.2.2.1, x1.2.2.2.2.2.2.2.2.2.2.2.2.2.2.2.1, ()))

def order_follower_run (a0 : D_api_Order × (List D_api_Deed) × (List (Int × (Option Nat))) × (List D_api_Decimal) × (List D_api_Point) × Int × Unit) (a1 : Int) (a2 : List D_order_line) : Option ((D_api_Order × (List D_api_Deed) × (List (Int × (Option Nat))) × (List D_api_Decimal) × (List D_api_Point) × Int × Unit) × (List D_order_line) × Unit) :=
 joinB (β := ((D_api_Order × (List D_api_Deed) × (List (Int × (Option Nat))) × (List D_api_Decimal) × (List D_api_Point) × Int × Unit) × (List D_order_line) × Unit)) (γ := ((List UInt8) × (List UInt8) × (List UInt8) × Int × Int × (List D_api_Line) × (List D_api_Deed) × (List (Int × (Option Nat))) × (List D_api_Decimal) × (List D_api_Point) × Int × (List D_order_line) × Unit)) (
  iter (X := order_follower_run_x1) (β := order_follower_run_r1) (Int.natAbs a1 + (List.length a0.2.1 + (Int.natAbs ((List.length a0.2.1 : Int)) + (Int.natAbs (0 : Int) + (List.length a0.1.1 + (List.length a0.1.2.1 + (List.length a0.1.2.2.1 + (Int.natAbs a0.1.2.2.2.1 + (Int.natAbs a0.1.2.2.2.2.1 + (List.length a0.1.2.2.2.2.2 + (List.length a0.2.1 + (List.length a0.2.2.1 + (List.length a0.2.2.2.1 + (List.length a0.2.2.2.2.1 + (Int.natAbs a0.2.2.2.2.2.1 + (List.length a2 + 2)))))))))))))))) (a1, a0.2.1, (List.length a0.2.1 : Int), 0, a0.1.1, a0.1.2.1, a0.1.2.2.1, a0.1.2.2.2.1, a0.1.2.2.2.2.1, a0.1.2.2.2.2.2, a0.2.1, a0.2.2.1, a0.2.2.2.1, a0.2.2.2.2.1, a0.2.2.2.2.2.1, a2, ()) (order_follower_run_b1)) fun v5 =>
 some (((v5.1, v5.2.1, v5.2.2.1, v5.2.2.2.1, v5.2.2.2.2.1, v5.2.2.2.2.2.1), v5.2.2.2.2.2.2.1, v5.2.2.2.2.2.2.2.1, v5.2.2.2.2.2.2.2.2.1, v5.2.2.2.2.2.2.2.2.2.1, v5.2.2.2.2.2.2.2.2.2.2.1, ()), v5.2.2.2.2.2.2.2.2.2.2.2.1, ())

def internal_stringslite_HasSuffix (a0 : List UInt8) (a1 : List UInt8) : Option (Bool × Unit) :=
 bif decide (((List.length a0 : Int)) ≥ ((List.length a1 : Int))) then
  chk (decide (0 ≤ (w64 (((List.length a0 : Int)) - ((List.length a1 : Int))))) && decide ((w64 (((List.length a0 : Int)) - ((List.length a1 : Int)))) ≤ ((List.length a0 : Int))) && decide (((List.length a0 : Int)) ≤ (List.length a0 : Int))) <|
  some ((List.drop (Int.toNat (w64 (((List.length a0 : Int)) - ((List.length a1 : Int))))) (List.take (Int.toNat ((List.length a0 : Int))) a0)) == a1, ())
 else
  some (false, ())

def internal_stringslite_CutSuffix (a0 : List UInt8) (a1 : List UInt8) : Option ((List UInt8) × Bool × Unit) :=
 Option.bind (internal_stringslite_HasSuffix a0 a1) fun r1 =>
 bif !r1.1 then
  some (a0, false, ())
 else
  chk (decide (0 ≤ (0 : Int)) && decide ((0 : Int) ≤ (w64 (((List.length a0 : Int)) - ((List.length a1 : Int))))) && decide ((w64 (((List.length a0 : Int)) - ((List.length a1 : Int)))) ≤ (List.length a0 : Int))) <|
  some (List.drop 0 (List.take (Int.toNat (w64 (((List.length a0 : Int)) - ((List.length a1 : Int))))) a0), true, ())

def strings_CutSuffix (a0 : List UInt8) (a1 : List UInt8) : Option ((List UInt8) × Bool × Unit) :=
 Option.bind (internal_stringslite_CutSuffix a0 a1) fun r1 =>
 some (r1.1, r1.2.1, ())

def kit_Lines (a0 : List UInt8) : Option ((List (List UInt8)) × Bool × Unit) :=
 bif a0 == [] then
  some ([], true, ())
 else
  Option.bind (strings_CutSuffix a0 [10]) fun r1 =>
  Option.bind (strings_Split r1.1 [10]) fun r2 =>
  some (r2.1, r1.2.1, ())

abbrev kit_Words_x3 : Type := Int × Int × (List (List UInt8)) × Unit
abbrev kit_Words_r3 : Type := (((List (List UInt8)) × Bool × Unit) ⊕ ((List (List UInt8)) × Unit))
def kit_Words_b3  (x1 : kit_Words_x3) (again : kit_Words_x3 → Option kit_Words_r3) : Option kit_Words_r3 :=
 bif decide (x1.2.1 < x1.1) then
  chk (decide (0 ≤ x1.2.1) && decide (x1.2.1 < (List.length x1.2.2.1 : Int))) <|
  Option.bind (x1.2.2.1[x1.2.1.toNat]?) fun y2 =>
  bif y2 == [] then
   some (Sum.inl ([], false, ()))
  else
   again (x1.1, w64 (x1.2.1 + 1), x1.2.2.1, ())
 else
  some (Sum.inr (x1.2.2.1, ()))

def kit_Words (a0 : List UInt8) : Option ((List (List UInt8)) × Bool × Unit) :=
 Option.bind (strings_Split a0 [32]) fun r1 =>
 joinB (β := ((List (List UInt8)) × Bool × Unit)) (γ := ((List (List UInt8)) × Unit)) (
  iter (X := kit_Words_x3) (β := kit_Words_r3) (Int.natAbs ((List.length r1.1 : Int)) + (Int.natAbs (0 : Int) + (List.length r1.1 + 2))) ((List.length r1.1 : Int), 0, r1.1, ()) (kit_Words_b3)) fun v4 =>
 some (v4.1, true, ())

def order_words_next (a0 : (List (List UInt8)) × Bool × Unit) : Option ((List UInt8) × ((List (List UInt8)) × Bool × Unit) × Unit) :=
 bif ((List.length a0.1 : Int)) == 0 then
  some ([], (a0.1, true, ()), ())
 else
  Option.bind (idx a0.1 0) fun y1 =>
  chk (decide (0 ≤ (1 : Int)) && decide ((1 : Int) ≤ ((List.length a0.1 : Int))) && decide (((List.length a0.1 : Int)) ≤ (List.length a0.1 : Int))) <|
  some (y1, (List.drop 1 (List.take (Int.toNat ((List.length a0.1 : Int))) a0.1), a0.2.1, ()), ())

def order_words_number (a0 : (List (List UInt8)) × Bool × Unit) : Option (Int × ((List (List UInt8)) × Bool × Unit) × Unit) :=
 Option.bind (order_words_next (a0.1, a0.2.1, ())) fun r1 =>
 Option.bind (kit_Number r1.1 16) fun r2 =>
 bif r1.2.1.2.1 then
  some (r2.1, (r1.2.1.1, true, ()), ())
 else
  some (r2.1, (r1.2.1.1, !r2.2.1, ()), ())

def order_byWords  : Option ((List (List UInt8)) × Unit) :=
 some ([[], [98, 117, 121, 101, 114], [115, 101, 108, 108, 101, 114]], ())

def order_words_index (a0 : (List (List UInt8)) × Bool × Unit) (a1 : List (List UInt8)) : Option (Int × ((List (List UInt8)) × Bool × Unit) × Unit) :=
 Option.bind (order_words_next (a0.1, a0.2.1, ())) fun r1 =>
 Option.bind (slices_Index_string a1 r1.1) fun r2 =>
 bif r1.2.1.2.1 then
  some (r2.1, (r1.2.1.1, true, ()), ())
 else
  some (r2.1, (r1.2.1.1, decide (r2.1 < 1), ()), ())

def order_kindWords  : Option ((List (List UInt8)) × Unit) :=
 some ([[], [97, 100, 100], [113, 117, 97, 110, 116, 105, 116, 121], [100, 117, 101], [112, 114, 105, 99, 101], [121, 101, 115], [110, 111], [111, 102, 102, 101, 114], [116, 97, 107, 101], [115, 104, 105, 112], [114, 101, 99, 101, 105, 118, 101], [114, 101, 116, 117, 114, 110]], ())

def internal_stringslite_HasPrefix (a0 : List UInt8) (a1 : List UInt8) : Option (Bool × Unit) :=
 bif decide (((List.length a0 : Int)) ≥ ((List.length a1 : Int))) then
  chk (decide (0 ≤ (0 : Int)) && decide ((0 : Int) ≤ ((List.length a1 : Int))) && decide (((List.length a1 : Int)) ≤ (List.length a0 : Int))) <|
  some ((List.drop 0 (List.take (Int.toNat ((List.length a1 : Int))) a0)) == a1, ())
 else
  some (false, ())

def internal_stringslite_CutPrefix (a0 : List UInt8) (a1 : List UInt8) : Option ((List UInt8) × Bool × Unit) :=
 Option.bind (internal_stringslite_HasPrefix a0 a1) fun r1 =>
 bif !r1.1 then
  some (a0, false, ())
 else
  chk (decide (0 ≤ ((List.length a1 : Int))) && decide (((List.length a1 : Int)) ≤ ((List.length a0 : Int))) && decide (((List.length a0 : Int)) ≤ (List.length a0 : Int))) <|
  some (List.drop (Int.toNat ((List.length a1 : Int))) (List.take (Int.toNat ((List.length a0 : Int))) a0), true, ())

def strings_CutPrefix (a0 : List UInt8) (a1 : List UInt8) : Option ((List UInt8) × Bool × Unit) :=
 Option.bind (internal_stringslite_CutPrefix a0 a1) fun r1 =>
 some (r1.1, r1.2.1, ())

def internal_stringslite_Index (a0 : List UInt8) (a1 : List UInt8) : Option (Int × Unit) :=
 bif ((List.length a1 : Int)) == 0 then
  some (0, ())
 else
  bif a1 == a0 then
   some (0, ())
  else
   bif ((List.length a1 : Int)) == 1 then
    Option.bind (sidx a1 0) fun c1 =>
    Option.bind (internal_stringslite_IndexByte a0 (c1.toNat : Int)) fun r2 =>
    some (r2.1, ())
   else
    bif decide (((List.length a1 : Int)) ≥ ((List.length a0 : Int))) then
     some ((-1), ())
    else
     none

def internal_stringslite_Cut (a0 : List UInt8) (a1 : List UInt8) : Option ((List UInt8) × (List UInt8) × Bool × Unit) :=
 Option.bind (internal_stringslite_Index a0 a1) fun r1 =>
 bif decide (r1.1 ≥ 0) then
  chk (decide (0 ≤ (0 : Int)) && decide ((0 : Int) ≤ r1.1) && decide (r1.1 ≤ (List.length a0 : Int))) <|
  chk (decide (0 ≤ (w64 (r1.1 + ((List.length a1 : Int))))) && decide ((w64 (r1.1 + ((List.length a1 : Int)))) ≤ ((List.length a0 : Int))) && decide (((List.length a0 : Int)) ≤ (List.length a0 : Int))) <|
  some (List.drop 0 (List.take (Int.toNat r1.1) a0), List.drop (Int.toNat (w64 (r1.1 + ((List.length a1 : Int))))) (List.take (Int.toNat ((List.length a0 : Int))) a0), true, ())
 else
  some (a0, [], false, ())

def strings_Cut (a0 : List UInt8) (a1 : List UInt8) : Option ((List UInt8) × (List UInt8) × Bool × Unit) :=
 Option.bind (internal_stringslite_Cut a0 a1) fun r1 =>
 some (r1.1, r1.2.1, r1.2.2.1, ())

def amount_isWhole (a0 : List UInt8) : Option (Bool × Unit) :=
 Option.bind (
  Option.bind (kit_IsDigits a0) fun r1 =>
  bif r1.1 then
   bif ((List.length a0 : Int)) == 1 then
    some (true, ())
   else
    Option.bind (sidx a0 0) fun c2 =>
    some ((c2.toNat : Int) != 48, ())
  else
   some (false, ())) fun v3 =>
 some (v3.1, ())

abbrev amount_read_x3 : Type := Bool × (List UInt8) × (List UInt8) × Int × Int × Int × Int × Bool × (List Int) × Unit
abbrev amount_read_r3 : Type := ((D_api_Decimal × Int × Unit) ⊕ (Bool × (List UInt8) × Int × Int × Bool × (List Int) × Unit))
def amount_read_b3  (x1 : amount_read_x3) (again : amount_read_x3 → Option amount_read_r3) : Option amount_read_r3 :=
 bif decide (x1.2.2.2.2.1 < x1.2.2.2.1) then
  Option.bind (whole_Of 10) fun r2 =>
  Option.bind (whole_Int_Times (x1.2.2.2.2.2.2.2.1, x1.2.2.2.2.2.2.2.2.1) r2.1) fun r3 =>
  chk (decide (List.length x1.2.1 + List.length x1.2.2.1 ≤ maxLen)) <|
  Option.bind (sidx (x1.2.1 ++ x1.2.2.1) x1.2.2.2.2.1) fun c4 =>
  Option.bind (whole_Of (w64 (wu8 ((c4.toNat : Int) - 48)))) fun r5 =>
  Option.bind (whole_Int_Plus r3.1 r5.1) fun r6 =>
  again (x1.1, x1.2.1, x1.2.2.1, x1.2.2.2.1, w64 (x1.2.2.2.2.1 + 1), x1.2.2.2.2.2.1, x1.2.2.2.2.2.2.1, r6.1.1, r6.1.2, ())
 else
  some (Sum.inr (x1.1, x1.2.2.1, x1.2.2.2.2.2.1, x1.2.2.2.2.2.2.1, x1.2.2.2.2.2.2.2.1, x1.2.2.2.2.2.2.2.2.1, ()))

def amount_read (a0 : Bool) (a1 : List UInt8) (a2 : List UInt8) : Option (D_api_Decimal × Int × Unit) :=
 Option.bind (whole_Of 0) fun r1 =>
 chk (decide (List.length a1 + List.length a2 ≤ maxLen)) <|
 joinB (β := (D_api_Decimal × Int × Unit)) (γ := (Bool × (List UInt8) × Int × Int × Bool × (List Int) × Unit)) (
  iter (X := amount_read_x3) (β := amount_read_r3) (List.length a1 + (List.length a2 + (Int.natAbs ((List.length (a1 ++ a2) : Int)) + (Int.natAbs (0 : Int) + (Int.natAbs (0 : Int) + (Int.natAbs (0 : Int) + (List.length r1.1.2 + 2))))))) (a0, a1, a2, (List.length (a1 ++ a2) : Int), 0, 0, 0, r1.1.1, r1.1.2, ()) (amount_read_b3)) fun v8 =>
 bif v8.1 then
  Option.bind (whole_Int_Sign (v8.2.2.2.2.1, v8.2.2.2.2.2.1)) fun r9 =>
  bif r9.1 == 0 then
   some ((0, 0), 10, ())
  else
   Option.bind (whole_Int_Minus (v8.2.2.2.2.1, v8.2.2.2.2.2.1)) fun r10 =>
   Option.bind (amount_Made r10.1 ((List.length v8.2.1 : Int))) fun r11 =>
   some (r11.1, r11.2.1, ())
 else
  Option.bind (amount_Made (v8.2.2.2.2.1, v8.2.2.2.2.2.1) ((List.length v8.2.1 : Int))) fun r12 =>
  some (r12.1, r12.2.1, ())

def amount_ReadText (a0 : List UInt8) : Option (D_api_Decimal × Int × Unit) :=
 Option.bind (strings_CutPrefix a0 [45]) fun r1 =>
 Option.bind (strings_Cut r1.1 [46]) fun r2 =>
 Option.bind (
  bif decide (((List.length a0 : Int)) > 40) then
   some (true, ())
  else
   Option.bind (amount_isWhole r2.1) fun r3 =>
   bif !r3.1 then
    some (true, ())
   else
    bif r2.2.2.1 then
     Option.bind (kit_IsDigits r2.2.1) fun r4 =>
     bif !r4.1 then
      some (true, ())
     else
      some (decide (((List.length r2.2.1 : Int)) > 9), ())
    else
     some (false, ())) fun v5 =>
 bif v5.1 then
  some ((0, 0), 10, ())
 else
  Option.bind (amount_read r1.2.1 r2.1 r2.2.1) fun r6 =>
  some (r6.1, r6.2.1, ())

def order_words_decimal (a0 : (List (List UInt8)) × Bool × Unit) : Option (D_api_Decimal × ((List (List UInt8)) × Bool × Unit) × Unit) :=
 Option.bind (order_words_next (a0.1, a0.2.1, ())) fun r1 =>
 Option.bind (amount_ReadText r1.1) fun r2 =>
 bif r1.2.1.2.1 then
  some (r2.1, (r1.2.1.1, true, ()), ())
 else
  some (r2.1, (r1.2.1.1, r2.2.1 != 0, ()), ())

def order_readDeed (a0 : List UInt8) : Option (D_api_Deed × Bool × Unit) :=
 Option.bind (kit_Words a0) fun r1 =>
 bif !r1.2.1 then
  some ((0, 0, 0, 0, 0, [], (0, 0), [], (0, 0), 0, 0), false, ())
 else
  Option.bind (order_words_number (r1.1, false, ())) fun r2 =>
  Option.bind (order_byWords) fun r3 =>
  Option.bind (order_words_index (r2.2.1.1, r2.2.1.2.1, ()) r3.1) fun r4 =>
  Option.bind (order_words_number (r4.2.1.1, r4.2.1.2.1, ())) fun r5 =>
  Option.bind (order_kindWords) fun r6 =>
  Option.bind (order_words_index (r5.2.1.1, r5.2.1.2.1, ()) r6.1) fun r7 =>
  Option.bind (order_words_number (r7.2.1.1, r7.2.1.2.1, ())) fun r8 =>
  Option.bind (order_usesOf r7.1) fun r9 =>
  joinB (β := (D_api_Deed × Bool × Unit)) (γ := (Int × Int × Int × Int × Int × (List UInt8) × Int × Int × (List UInt8) × Int × Int × Int × Int × Int × Int × Int × Int × Int × (List UInt8) × Int × Int × (List UInt8) × Int × Int × Int × Int × Bool × Bool × Bool × Bool × Bool × Bool × (List (List UInt8)) × Bool × Unit)) (
   bif r9.1.1 then
    Option.bind (order_words_next (r8.2.1.1, r8.2.1.2.1, ())) fun r10 =>
    some (Sum.inr (0, 0, 0, 0, 0, [], 0, 0, [], 0, 0, 0, 0, r2.1, r4.1, r5.1, r7.1, r8.1, r10.1, 0, 0, [], 0, 0, 0, 0, r9.1.1, r9.1.2.1, r9.1.2.2.1, r9.1.2.2.2.1, r9.1.2.2.2.2.1, r9.1.2.2.2.2.2, r10.2.1.1, r10.2.1.2.1, ()))
   else
    some (Sum.inr (0, 0, 0, 0, 0, [], 0, 0, [], 0, 0, 0, 0, r2.1, r4.1, r5.1, r7.1, r8.1, [], 0, 0, [], 0, 0, 0, 0, r9.1.1, r9.1.2.1, r9.1.2.2.1, r9.1.2.2.2.1, r9.1.2.2.2.2.1, r9.1.2.2.2.2.2, r8.2.1.1, r8.2.1.2.1, ()))) fun v11 =>
  joinB (β := (D_api_Deed × Bool × Unit)) (γ := (Int × Int × Int × Int × Int × (List UInt8) × Int × Int × (List UInt8) × Int × Int × Int × Int × Int × Int × Int × Int × Int × (List UInt8) × Int × Int × (List UInt8) × Int × Int × Int × Int × Bool × Bool × Bool × Bool × Bool × Bool × (List (List UInt8)) × Bool × Unit)) (
   bif v11.2.2.2.2.2.2.2.2.2.2.2.2.2.2.2.2.2.2.2.2.2.2.2.2.2.2.2.1 then
    Option.bind (order_words_decimal (v11.2.2.2.2.2.2.2.2.2.2.2.2.2.2.2.2.2.2.2.2.2.2.2.2.2.2.2.2.2.2.2.2.1, v11.2.2.2.2.2.2.2.2.2.2.2.2.2.2.2.2.2.2.2.2.2.2.2.2.2.2.2.2.2.2.2.2.2.1, ())) fun r12 =>
    some (Sum.inr (v11.1, v11.2.1, v11.2.2.1, v11.2.2.2.1, v11.2.2.2.2.1, v11.2.2.2.2.2.1, v11.2.2.2.2.2.2.1, v11.2.2.2.2.2.2.2.1, v11.2.2.2.2.2.2.2.2.1, v11.2.2.2.2.2.2.2.2.2.1, v11.2.2.2.2.2.2.2.2.2.2.1, v11.2.2.2.2.2.2.2.2.2.2.2.1, v11.2.2.2.2.2.2.2.2.2.2.2.2.1, v11.2.2.2.2.2.2.2.2.2.2.2.2.2.1, v11.2.2.2.2.2.2.2.2.2.2.2.2.2.2.1, v11.2.2.2.2.2.2.2.2.2.2.2.2.2.2.2.1, v11.2.2.2.2.2.2.2.2.2.2.2.2.2.2.2.2.1, v11.2.2.2.2.2.2.2.2.2.2.2.2.2.2.2.2.2.1, v11.2.2.2.2.2.2.2.2.2.2.2.2.2.2.2.2.2.2.1, r12.1.1, r12.1.2, v11.2.2.2.2.2.2.2.2.2.2.2.2.2.2.2.2.2.2.2.2.2.1, v11.2.2.2.2.2.2.2.2.2.2.2.2.2.2.2.2.2.2.2.2.2.2.1, v11.2.2.2.2.2.2.2.2.2.2.2.2.2.2.2.2.2.2.2.2.2.2.2.1, v11.2.2.2.2.2.2.2.2.2.2.2.2.2.2.2.2.2.2.2.2.2.2.2.2.1, v11.2.2.2.2.2.2.2.2.2.2.2.2.2.2.2.2.2.2.2.2.2.2.2.2.2.1, v11.2.2.2.2.2.2.2.2.2.2.2.2.2.2.2.2.2.2.2.2.2.2.2.2.2.2.1, v11.2.2.2.2.2.2.2.2.2.2.2.2.2.2.2.2.2.2.2.2.2.2.2.2.2.2.2.1, v11.2.2.2.2.2.2.2.2.2.2.2.2.2.2.2.2.2.2.2.2.2.2.2.2.2.2.2.2.1, v11.2.2.2.2.2.2.2.2.2.2.2.2.2.2.2.2.2.2.2.2.2.2.2.2.2.2.2.2.2.1, v11.2.2.2.2.2.2.2.2.2.2.2.2.2.2.2.2.2.2.2.2.2.2.2.2.2.2.2.2.2.2.1, v11.2.2.2.2.2.2.2.2.2.2.2.2.2.2.2.2.2.2.2.2.2.2.2.2.2.2.2.2.2.2.2.1, r12.2.1.1, r12.2.1.2.1, ()))
   else
    some (Sum.inr (v11.1, v11.2.1, v11.2.2.1, v11.2.2.2.1, v11.2.2.2.2.1, v11.2.2.2.2.2.1, v11.2.2.2.2.2.2.1, v11.2.2.2.2.2.2.2.1, v11.2.2.2.2.2.2.2.2.1, v11.2.2.2.2.2.2.2.2.2.1, v11.2.2.2.2.2.2.2.2.2.2.1, v11.2.2.2.2.2.2.2.2.2.2.2.1, v11.2.2.2.2.2.2.2.2.2.2.2.2.1, v11.2.2.2.2.2.2.2.2.2.2.2.2.2.1, v11.2.2.2.2.2.2.2.2.2.2.2.2.2.2.1, v11.2.2.2.2.2.2.2.2.2.2.2.2.2.2.2.1, v11.2.2.2.2.2.2.2.2.2.2.2.2.2.2.2.2.1, v11.2.2.2.2.2.2.2.2.2.2.2.2.2.2.2.2.2.1, v11.2.2.2.2.2.2.2.2.2.2.2.2.2.2.2.2.2.2.1, v11.2.2.2.2.2.2.2.2.2.2.2.2.2.2.2.2.2.2.2.1, v11.2.2.2.2.2.2.2.2.2.2.2.2.2.2.2.2.2.2.2.2.1, v11.2.2.2.2.2.2.2.2.2.2.2.2.2.2.2.2.2.2.2.2.2.1, v11.2.2.2.2.2.2.2.2.2.2.2.2.2.2.2.2.2.2.2.2.2.2.1, v11.2.2.2.2.2.2.2.2.2.2.2.2.2.2.2.2.2.2.2.2.2.2.2.1, v11.2.2.2.2.2.2.2.2.2.2.2.2.2.2.2.2.2.2.2.2.2.2.2.2.1, v11.2.2.2.2.2.2.2.2.2.2.2.2.2.2.2.2.2.2.2.2.2.2.2.2.2.1, v11.2.2.2.2.2.2.2.2.2.2.2.2.2.2.2.2.2.2.2.2.2.2.2.2.2.2.1, v11.2.2.2.2.2.2.2.2.2.2.2.2.2.2.2.2.2.2.2.2.2.2.2.2.2.2.2.1, v11.2.2.2.2.2.2.2.2.2.2.2.2.2.2.2.2.2.2.2.2.2.2.2.2.2.2.2.2.1, v11.2.2.2.2.2.2.2.2.2.2.2.2.2.2.2.2.2.2.2.2.2.2.2.2.2.2.2.2.2.1, v11.2.2.2.2.2.2.2.2.2.2.2.2.2.2.2.2.2.2.2.2.2.2.2.2.2.2.2.2.2.2.1, v11.2.2.2.2.2.2.2.2.2.2.2.2.2.2.2.2.2.2.2.2.2.2.2.2.2.2.2.2.2.2.2.1, v11.2.2.2.2.2.2.2.2.2.2.2.2.2.2.2.2.2.2.2.2.2.2.2.2.2.2.2.2.2.2.2.2.1, v11.2.2.2.2.2.2.2.2.2.2.2.2.2.2.2.2.2.2.2.2.2.2.2.2.2.2.2.2.2.2.2.2.2.1, ()))) fun v13 =>
  joinB (β := (D_api_Deed × Bool × Unit)) (γ := (Int × Int × Int × Int × Int × (List UInt8) × Int × Int × (List UInt8) × Int × Int × Int × Int × Int × Int × Int × Int × Int × (List UInt8) × Int × Int × (List UInt8) × Int × Int × Int × Int × Bool × Bool × Bool × Bool × Bool × Bool × (List (List UInt8)) × Bool × Unit)) (
   bif v13.2.2.2.2.2.2.2.2.2.2.2.2.2.2.2.2.2.2.2.2.2.2.2.2.2.2.2.2.1 then
    Option.bind (order_words_next (v13.2.2.2.2.2.2.2.2.2.2.2.2.2.2.2.2.2.2.2.2.2.2.2.2.2.2.2.2.2.2.2.2.1, v13.2.2.2.2.2.2.2.2.2.2.2.2.2.2.2.2.2.2.2.2.2.2.2.2.2.2.2.2.2.2.2.2.2.1, ())) fun r14 =>
    some (Sum.inr (v13.1, v13.2.1, v13.2.2.1, v13.2.2.2.1, v13.2.2.2.2.1, v13.2.2.2.2.2.1, v13.2.2.2.2.2.2.1, v13.2.2.2.2.2.2.2.1, v13.2.2.2.2.2.2.2.2.1, v13.2.2.2.2.2.2.2.2.2.1, v13.2.2.2.2.2.2.2.2.2.2.1, v13.2.2.2.2.2.2.2.2.2.2.2.1, v13.2.2.2.2.2.2.2.2.2.2.2.2.1, v13.2.2.2.2.2.2.2.2.2.2.2.2.2.1, v13.2.2.2.2.2.2.2.2.2.2.2.2.2.2.1, v13.2.2.2.2.2.2.2.2.2.2.2.2.2.2.2.1, v13.2.2.2.2.2.2.2.2.2.2.2.2.2.2.2.2.1, v13.2.2.2.2.2.2.2.2.2.2.2.2.2.2.2.2.2.1, v13.2.2.2.2.2.2.2.2.2.2.2.2.2.2.2.2.2.2.1, v13.2.2.2.2.2.2.2.2.2.2.2.2.2.2.2.2.2.2.2.1, v13.2.2.2.2.2.2.2.2.2.2.2.2.2.2.2.2.2.2.2.2.1, r14.1, v13.2.2.2.2.2.2.2.2.2.2.2.2.2.2.2.2.2.2.2.2.2.2.1, v13.2.2.2.2.2.2.2.2.2.2.2.2.2.2.2.2.2.2.2.2.2.2.2.1, v13.2.2.2.2.2.2.2.2.2.2.2.2.2.2.2.2.2.2.2.2.2.2.2.2.1, v13.2.2.2.2.2.2.2.2.2.2.2.2.2.2.2.2.2.2.2.2.2.2.2.2.2.1, v13.2.2.2.2.2.2.2.2.2.2.2.2.2.2.2.2.2.2.2.2.2.2.2.2.2.2.1, v13.2.2.2.2.2.2.2.2.2.2.2.2.2.2.2.2.2.2.2.2.2.2.2.2.2.2.2.1, v13.2.2.2.2.2.2.2.2.2.2.2.2.2.2.2.2.2.2.2.2.2.2.2.2.2.2.2.2.1, v13.2.2.2.2.2.2.2.2.2.2.2.2.2.2.2.2.2.2.2.2.2.2.2.2.2.2.2.2.2.1, v13.2.2.2.2.2.2.2.2.2.2.2.2.2.2.2.2.2.2.2.2.2.2.2.2.2.2.2.2.2.2.1, v13.2.2.2.2.2.2.2.2.2.2.2.2.2.2.2.2.2.2.2.2.2.2.2.2.2.2.2.2.2.2.2.1, r14.2.1.1, r14.2.1.2.1, ()))
   else
    some (Sum.inr (v13.1, v13.2.1, v13.2.2.1, v13.2.2.2.1, v13.2.2.2.2.1, v13.2.2.2.2.2.1, v13.2.2.2.2.2.2.1, v13.2.2.2.2.2.2.2.1, v13.2.2.2.2.2.2.2.2.1, v13.2.2.2.2.2.2.2.2.2.1, v13.2.2.2.2.2.2.2.2.2.2.1, v13.2.2.2.2.2.2.2.2.2.2.2.1, v13.2.2.2.2.2.2.2.2.2.2.2.2.1, v13.2.2.2.2.2.2.2.2.2.2.2.2.2.1, v13.2.2.2.2.2.2.2.2.2.2.2.2.2.2.1, v13.2.2.2.2.2.2.2.2.2.2.2.2.2.2.2.1, v13.2.2.2.2.2.2.2.2.2.2.2.2.2.2.2.2.1, v13.2.2.2.2.2.2.2.2.2.2.2.2.2.2.2.2.2.1, v13.2.2.2.2.2.2.2.2.2.2.2.2.2.2.2.2.2.2.1, v13.2.2.2.2.2.2.2.2.2.2.2.2.2.2.2.2.2.2.2.1, v13.2.2.2.2.2.2.2.2.2.2.2.2.2.2.2.2.2.2.2.2.1, v13.2.2.2.2.2.2.2.2.2.2.2.2.2.2.2.2.2.2.2.2.2.1, v13.2.2.2.2.2.2.2.2.2.2.2.2.2.2.2.2.2.2.2.2.2.2.1, v13.2.2.2.2.2.2.2.2.2.2.2.2.2.2.2.2.2.2.2.2.2.2.2.1, v13.2.2.2.2.2.2.2.2.2.2.2.2.2.2.2.2.2.2.2.2.2.2.2.2.1, v13.2.2.2.2.2.2.2.2.2.2.2.2.2.2.2.2.2.2.2.2.2.2.2.2.2.1, v13.2.2.2.2.2.2.2.2.2.2.2.2.2.2.2.2.2.2.2.2.2.2.2.2.2.2.1, v13.2.2.2.2.2.2.2.2.2.2.2.2.2.2.2.2.2.2.2.2.2.2.2.2.2.2.2.1, v13.2.2.2.2.2.2.2.2.2.2.2.2.2.2.2.2.2.2.2.2.2.2.2.2.2.2.2.2.1, v13.2.2.2.2.2.2.2.2.2.2.2.2.2.2.2.2.2.2.2.2.2.2.2.2.2.2.2.2.2.1, v13.2.2.2.2.2.2.2.2.2.2.2.2.2.2.2.2.2.2.2.2.2.2.2.2.2.2.2.2.2.2.1, v13.2.2.2.2.2.2.2.2.2.2.2.2.2.2.2.2.2.2.2.2.2.2.2.2.2.2.2.2.2.2.2.1, v13.2.2.2.2.2.2.2.2.2.2.2.2.2.2.2.2.2.2.2.2.2.2.2.2.2.2.2.2.2.2.2.2.1, v13.2.2.2.2.2.2.2.2.2.2.2.2.2.2.2.2.2.2.2.2.2.2.2.2.2.2.2.2.2.2.2.2.2.1, ()))) fun v15 =>
  joinB (β := (D_api_Deed × Bool × Unit)) (γ := (Int × Int × Int × Int × Int × (List UInt8) × Int × Int × (List UInt8) × Int × Int × Int × Int × Int × Int × Int × Int × Int × (List UInt8) × Int × Int × (List UInt8) × Int × Int × Int × Int × Bool × Bool × Bool × Bool × Bool × Bool × (List (List UInt8)) × Bool × Unit)) (
   bif v15.2.2.2.2.2.2.2.2.2.2.2.2.2.2.2.2.2.2.2.2.2.2.2.2.2.2.2.2.2.1 then
    Option.bind (order_words_decimal (v15.2.2.2.2.2.2.2.2.2.2.2.2.2.2.2.2.2.2.2.2.2.2.2.2.2.2.2.2.2.2.2.2.1, v15.2.2.2.2.2.2.2.2.2.2.2.2.2.2.2.2.2.2.2.2.2.2.2.2.2.2.2.2.2.2.2.2.2.1, ())) fun r16 =>
    some (Sum.inr (v15.1, v15.2.1, v15.2.2.1, v15.2.2.2.1, v15.2.2.2.2.1, v15.2.2.2.2.2.1, v15.2.2.2.2.2.2.1, v15.2.2.2.2.2.2.2.1, v15.2.2.2.2.2.2.2.2.1, v15.2.2.2.2.2.2.2.2.2.1, v15.2.2.2.2.2.2.2.2.2.2.1, v15.2.2.2.2.2.2.2.2.2.2.2.1, v15.2.2.2.2.2.2.2.2.2.2.2.2.1, v15.2.2.2.2.2.2.2.2.2.2.2.2.2.1, v15.2.2.2.2.2.2.2.2.2.2.2.2.2.2.1, v15.2.2.2.2.2.2.2.2.2.2.2.2.2.2.2.1, v15.2.2.2.2.2.2.2.2.2.2.2.2.2.2.2.2.1, v15.2.2.2.2.2.2.2.2.2.2.2.2.2.2.2.2.2.1, v15.2.2.2.2.2.2.2.2.2.2.2.2.2.2.2.2.2.2.1, v15.2.2.2.2.2.2.2.2.2.2.2.2.2.2.2.2.2.2.2.1, v15.2.2.2.2.2.2.2.2.2.2.2.2.2.2.2.2.2.2.2.2.1, v15.2.2.2.2.2.2.2.2.2.2.2.2.2.2.2.2.2.2.2.2.2.1, r16.1.1, r16.1.2, v15.2.2.2.2.2.2.2.2.2.2.2.2.2.2.2.2.2.2.2.2.2.2.2.2.1, v15.2.2.2.2.2.2.2.2.2.2.2.2.2.2.2.2.2.2.2.2.2.2.2.2.2.1, v15.2.2.2.2.2.2.2.2.2.2.2.2.2.2.2.2.2.2.2.2.2.2.2.2.2.2.1, v15.2.2.2.2.2.2.2.2.2.2.2.2.2.2.2.2.2.2.2.2.2.2.2.2.2.2.2.1, v15.2.2.2.2.2.2.2.2.2.2.2.2.2.2.2.2.2.2.2.2.2.2.2.2.2.2.2.2.1, v15.2.2.2.2.2.2.2.2.2.2.2.2.2.2.2.2.2.2.2.2.2.2.2.2.2.2.2.2.2.1, v15.2.2.2.2.2.2.2.2.2.2.2.2.2.2.2.2.2.2.2.2.2.2.2.2.2.2.2.2.2.2.1, v15.2.2.2.2.2.2.2.2.2.2.2.2.2.2.2.2.2.2.2.2.2.2.2.2.2.2.2.2.2.2.2.1, r16.2.1.1, r16.2.1.2.1, ()))
   else
    some (Sum.inr (v15.1, v15.2.1, v15.2.2.1, v15.2.2.2.1, v15.2.2.2.2.1, v15.2.2.2.2.2.1, v15.2.2.2.2.2.2.1, v15.2.2.2.2.2.2.2.1, v15.2.2.2.2.2.2.2.2.1, v15.2.2.2.2.2.2.2.2.2.1, v15.2.2.2.2.2.2.2.2.2.2.1, v15.2.2.2.2.2.2.2.2.2.2.2.1, v15.2.2.2.2.2.2.2.2.2.2.2.2.1, v15.2.2.2.2.2.2.2.2.2.2.2.2.2.1, v15.2.2.2.2.2.2.2.2.2.2.2.2.2.2.1, v15.2.2.2.2.2.2.2.2.2.2.2.2.2.2.2.1, v15.2.2.2.2.2.2.2.2.2.2.2.2.2.2.2.2.1, v15.2.2.2.2.2.2.2.2.2.2.2.2.2.2.2.2.2.1, v15.2.2.2.2.2.2.2.2.2.2.2.2.2.2.2.2.2.2.1, v15.2.2.2.2.2.2.2.2.2.2.2.2.2.2.2.2.2.2.2.1, v15.2.2.2.2.2.2.2.2.2.2.2.2.2.2.2.2.2.2.2.2.1, v15.2.2.2.2.2.2.2.2.2.2.2.2.2.2.2.2.2.2.2.2.2.1, v15.2.2.2.2.2.2.2.2.2.2.2.2.2.2.2.2.2.2.2.2.2.2.1, v15.2.2.2.2.2.2.2.2.2.2.2.2.2.2.2.2.2.2.2.2.2.2.2.1, v15.2.2.2.2.2.2.2.2.2.2.2.2.2.2.2.2.2.2.2.2.2.2.2.2.1, v15.2.2.2.2.2.2.2.2.2.2.2.2.2.2.2.2.2.2.2.2.2.2.2.2.2.1, v15.2.2.2.2.2.2.2.2.2.2.2.2.2.2.2.2.2.2.2.2.2.2.2.2.2.2.1, v15.2.2.2.2.2.2.2.2.2.2.2.2.2.2.2.2.2.2.2.2.2.2.2.2.2.2.2.1, v15.2.2.2.2.2.2.2.2.2.2.2.2.2.2.2.2.2.2.2.2.2.2.2.2.2.2.2.2.1, v15.2.2.2.2.2.2.2.2.2.2.2.2.2.2.2.2.2.2.2.2.2.2.2.2.2.2.2.2.2.1, v15.2.2.2.2.2.2.2.2.2.2.2.2.2.2.2.2.2.2.2.2.2.2.2.2.2.2.2.2.2.2.1, v15.2.2.2.2.2.2.2.2.2.2.2.2.2.2.2.2.2.2.2.2.2.2.2.2.2.2.2.2.2.2.2.1, v15.2.2.2.2.2.2.2.2.2.2.2.2.2.2.2.2.2.2.2.2.2.2.2.2.2.2.2.2.2.2.2.2.1, v15.2.2.2.2.2.2.2.2.2.2.2.2.2.2.2.2.2.2.2.2.2.2.2.2.2.2.2.2.2.2.2.2.2.1, ()))) fun v17 =>
  joinB (β := (D_api_Deed × Bool × Unit)) (γ := (Int × Int × Int × Int × Int × (List UInt8) × Int × Int × (List UInt8) × Int × Int × Int × Int × Int × Int × Int × Int × Int × (List UInt8) × Int × Int × (List UInt8) × Int × Int × Int × Int × Bool × Bool × Bool × Bool × Bool × Bool × (List (List UInt8)) × Bool × Unit)) (
   bif v17.2.2.2.2.2.2.2.2.2.2.2.2.2.2.2.2.2.2.2.2.2.2.2.2.2.2.2.2.2.2.1 then
    Option.bind (order_words_number (v17.2.2.2.2.2.2.2.2.2.2.2.2.2.2.2.2.2.2.2.2.2.2.2.2.2.2.2.2.2.2.2.2.1, v17.2.2.2.2.2.2.2.2.2.2.2.2.2.2.2.2.2.2.2.2.2.2.2.2.2.2.2.2.2.2.2.2.2.1, ())) fun r18 =>
    some (Sum.inr (v17.1, v17.2.1, v17.2.2.1, v17.2.2.2.1, v17.2.2.2.2.1, v17.2.2.2.2.2.1, v17.2.2.2.2.2.2.1, v17.2.2.2.2.2.2.2.1, v17.2.2.2.2.2.2.2.2.1, v17.2.2.2.2.2.2.2.2.2.1, v17.2.2.2.2.2.2.2.2.2.2.1, v17.2.2.2.2.2.2.2.2.2.2.2.1, v17.2.2.2.2.2.2.2.2.2.2.2.2.1, v17.2.2.2.2.2.2.2.2.2.2.2.2.2.1, v17.2.2.2.2.2.2.2.2.2.2.2.2.2.2.1, v17.2.2.2.2.2.2.2.2.2.2.2.2.2.2.2.1, v17.2.2.2.2.2.2.2.2.2.2.2.2.2.2.2.2.1, v17.2.2.2.2.2.2.2.2.2.2.2.2.2.2.2.2.2.1, v17.2.2.2.2.2.2.2.2.2.2.2.2.2.2.2.2.2.2.1, v17.2.2.2.2.2.2.2.2.2.2.2.2.2.2.2.2.2.2.2.1, v17.2.2.2.2.2.2.2.2.2.2.2.2.2.2.2.2.2.2.2.2.1, v17.2.2.2.2.2.2.2.2.2.2.2.2.2.2.2.2.2.2.2.2.2.1, v17.2.2.2.2.2.2.2.2.2.2.2.2.2.2.2.2.2.2.2.2.2.2.1, v17.2.2.2.2.2.2.2.2.2.2.2.2.2.2.2.2.2.2.2.2.2.2.2.1, r18.1, v17.2.2.2.2.2.2.2.2.2.2.2.2.2.2.2.2.2.2.2.2.2.2.2.2.2.1, v17.2.2.2.2.2.2.2.2.2.2.2.2.2.2.2.2.2.2.2.2.2.2.2.2.2.2.1, v17.2.2.2.2.2.2.2.2.2.2.2.2.2.2.2.2.2.2.2.2.2.2.2.2.2.2.2.1, v17.2.2.2.2.2.2.2.2.2.2.2.2.2.2.2.2.2.2.2.2.2.2.2.2.2.2.2.2.1, v17.2.2.2.2.2.2.2.2.2.2.2.2.2.2.2.2.2.2.2.2.2.2.2.2.2.2.2.2.2.1, v17.2.2.2.2.2.2.2.2.2.2.2.2.2.2.2.2.2.2.2.2.2.2.2.2.2.2.2.2.2.2.1, v17.2.2.2.2.2.2.2.2.2.2.2.2.2.2.2.2.2.2.2.2.2.2.2.2.2.2.2.2.2.2.2.1, r18.2.1.1, r18.2.1.2.1, ()))
   else
    some (Sum.inr (v17.1, v17.2.1, v17.2.2.1, v17.2.2.2.1, v17.2.2.2.2.1, v17.2.2.2.2.2.1, v17.2.2.2.2.2.2.1, v17.2.2.2.2.2.2.2.1, v17.2.2.2.2.2.2.2.2.1, v17.2.2.2.2.2.2.2.2.2.1, v17.2.2.2.2.2.2.2.2.2.2.1, v17.2.2.2.2.2.2.2.2.2.2.2.1, v17.2.2.2.2.2.2.2.2.2.2.2.2.1, v17.2.2.2.2.2.2.2.2.2.2.2.2.2.1, v17.2.2.2.2.2.2.2.2.2.2.2.2.2.2.1, v17.2.2.2.2.2.2.2.2.2.2.2.2.2.2.2.1, v17.2.2.2.2.2.2.2.2.2.2.2.2.2.2.2.2.1, v17.2.2.2.2.2.2.2.2.2.2.2.2.2.2.2.2.2.1, v17.2.2.2.2.2.2.2.2.2.2.2.2.2.2.2.2.2.2.1, v17.2.2.2.2.2.2.2.2.2.2.2.2.2.2.2.2.2.2.2.1, v17.2.2.2.2.2.2.2.2.2.2.2.2.2.2.2.2.2.2.2.2.1, v17.2.2.2.2.2.2.2.2.2.2.2.2.2.2.2.2.2.2.2.2.2.1, v17.2.2.2.2.2.2.2.2.2.2.2.2.2.2.2.2.2.2.2.2.2.2.1, v17.2.2.2.2.2.2.2.2.2.2.2.2.2.2.2.2.2.2.2.2.2.2.2.1, v17.2.2.2.2.2.2.2.2.2.2.2.2.2.2.2.2.2.2.2.2.2.2.2.2.1, v17.2.2.2.2.2.2.2.2.2.2.2.2.2.2.2.2.2.2.2.2.2.2.2.2.2.1, v17.2.2.2.2.2.2.2.2.2.2.2.2.2.2.2.2.2.2.2.2.2.2.2.2.2.2.1, v17.2.2.2.2.2.2.2.2.2.2.2.2.2.2.2.2.2.2.2.2.2.2.2.2.2.2.2.1, v17.2.2.2.2.2.2.2.2.2.2.2.2.2.2.2.2.2.2.2.2.2.2.2.2.2.2.2.2.1, v17.2.2.2.2.2.2.2.2.2.2.2.2.2.2.2.2.2.2.2.2.2.2.2.2.2.2.2.2.2.1, v17.2.2.2.2.2.2.2.2.2.2.2.2.2.2.2.2.2.2.2.2.2.2.2.2.2.2.2.2.2.2.1, v17.2.2.2.2.2.2.2.2.2.2.2.2.2.2.2.2.2.2.2.2.2.2.2.2.2.2.2.2.2.2.2.1, v17.2.2.2.2.2.2.2.2.2.2.2.2.2.2.2.2.2.2.2.2.2.2.2.2.2.2.2.2.2.2.2.2.1, v17.2.2.2.2.2.2.2.2.2.2.2.2.2.2.2.2.2.2.2.2.2.2.2.2.2.2.2.2.2.2.2.2.2.1, ()))) fun v19 =>
  joinB (β := (D_api_Deed × Bool × Unit)) (γ := (Int × Int × Int × Int × Int × (List UInt8) × Int × Int × (List UInt8) × Int × Int × Int × Int × Int × Int × Int × Int × Int × (List UInt8) × Int × Int × (List UInt8) × Int × Int × Int × Int × (List (List UInt8)) × Bool × Unit)) (
   bif v19.2.2.2.2.2.2.2.2.2.2.2.2.2.2.2.2.2.2.2.2.2.2.2.2.2.2.2.2.2.2.2.1 then
    Option.bind (order_words_number (v19.2.2.2.2.2.2.2.2.2.2.2.2.2.2.2.2.2.2.2.2.2.2.2.2.2.2.2.2.2.2.2.2.1, v19.2.2.2.2.2.2.2.2.2.2.2.2.2.2.2.2.2.2.2.2.2.2.2.2.2.2.2.2.2.2.2.2.2.1, ())) fun r20 =>
    some (Sum.inr (v19.1, v19.2.1, v19.2.2.1, v19.2.2.2.1, v19.2.2.2.2.1, v19.2.2.2.2.2.1, v19.2.2.2.2.2.2.1, v19.2.2.2.2.2.2.2.1, v19.2.2.2.2.2.2.2.2.1, v19.2.2.2.2.2.2.2.2.2.1, v19.2.2.2.2.2.2.2.2.2.2.1, v19.2.2.2.2.2.2.2.2.2.2.2.1, v19.2.2.2.2.2.2.2.2.2.2.2.2.1, v19.2.2.2.2.2.2.2.2.2.2.2.2.2.1, v19.2.2.2.2.2.2.2.2.2.2.2.2.2.2.1, v19.2.2.2.2.2.2.2.2.2.2.2.2.2.2.2.1, v19.2.2.2.2.2.2.2.2.2.2.2.2.2.2.2.2.1, v19.2.2.2.2.2.2.2.2.2.2.2.2.2.2.2.2.2.1, v19.2.2.2.2.2.2.2.2.2.2.2.2.2.2.2.2.2.2.1, v19.2.2.2.2.2.2.2.2.2.2.2.2.2.2.2.2.2.2.2.1, v19.2.2.2.2.2.2.2.2.2.2.2.2.2.2.2.2.2.2.2.2.1, v19.2.2.2.2.2.2.2.2.2.2.2.2.2.2.2.2.2.2.2.2.2.1, v19.2.2.2.2.2.2.2.2.2.2.2.2.2.2.2.2.2.2.2.2.2.2.1, v19.2.2.2.2.2.2.2.2.2.2.2.2.2.2.2.2.2.2.2.2.2.2.2.1, v19.2.2.2.2.2.2.2.2.2.2.2.2.2.2.2.2.2.2.2.2.2.2.2.2.1, r20.1, r20.2.1.1, r20.2.1.2.1, ()))
   else
    some (Sum.inr (v19.1, v19.2.1, v19.2.2.1, v19.2.2.2.1, v19.2.2.2.2.1, v19.2.2.2.2.2.1, v19.2.2.2.2.2.2.1, v19.2.2.2.2.2.2.2.1, v19.2.2.2.2.2.2.2.2.1, v19.2.2.2.2.2.2.2.2.2.1, v19.2.2.2.2.2.2.2.2.2.2.1, v19.2.2.2.2.2.2.2.2.2.2.2.1, v19.2.2.2.2.2.2.2.2.2.2.2.2.1, v19.2.2.2.2.2.2.2.2.2.2.2.2.2.1, v19.2.2.2.2.2.2.2.2.2.2.2.2.2.2.1, v19.2.2.2.2.2.2.2.2.2.2.2.2.2.2.2.1, v19.2.2.2.2.2.2.2.2.2.2.2.2.2.2.2.2.1, v19.2.2.2.2.2.2.2.2.2.2.2.2.2.2.2.2.2.1, v19.2.2.2.2.2.2.2.2.2.2.2.2.2.2.2.2.2.2.1, v19.2.2.2.2.2.2.2.2.2.2.2.2.2.2.2.2.2.2.2.1, v19.2.2.2.2.2.2.2.2.2.2.2.2.2.2.2.2.2.2.2.2.1, v19.2.2.2.2.2.2.2.2.2.2.2.2.2.2.2.2.2.2.2.2.2.1, v19.2.2.2.2.2.2.2.2.2.2.2.2.2.2.2.2.2.2.2.2.2.2.1, v19.2.2.2.2.2.2.2.2.2.2.2.2.2.2.2.2.2.2.2.2.2.2.2.1, v19.2.2.2.2.2.2.2.2.2.2.2.2.2.2.2.2.2.2.2.2.2.2.2.2.1, v19.2.2.2.2.2.2.2.2.2.2.2.2.2.2.2.2.2.2.2.2.2.2.2.2.2.1, v19.2.2.2.2.2.2.2.2.2.2.2.2.2.2.2.2.2.2.2.2.2.2.2.2.2.2.2.2.2.2.2.2.1, v19.2.2.2.2.2.2.2.2.2.2.2.2.2.2.2.2.2.2.2.2.2.2.2.2.2.2.2.2.2.2.2.2.2.1, ()))) fun v21 =>
  bif !v21.2.2.2.2.2.2.2.2.2.2.2.2.2.2.2.2.2.2.2.2.2.2.2.2.2.2.2.1 then
   some ((v21.2.2.2.2.2.2.2.2.2.2.2.2.2.1, v21.2.2.2.2.2.2.2.2.2.2.2.2.2.2.1, v21.2.2.2.2.2.2.2.2.2.2.2.2.2.2.2.1, v21.2.2.2.2.2.2.2.2.2.2.2.2.2.2.2.2.1, v21.2.2.2.2.2.2.2.2.2.2.2.2.2.2.2.2.2.1, v21.2.2.2.2.2.2.2.2.2.2.2.2.2.2.2.2.2.2.1, (v21.2.2.2.2.2.2.2.2.2.2.2.2.2.2.2.2.2.2.2.1, v21.2.2.2.2.2.2.2.2.2.2.2.2.2.2.2.2.2.2.2.2.1), v21.2.2.2.2.2.2.2.2.2.2.2.2.2.2.2.2.2.2.2.2.2.1, (v21.2.2.2.2.2.2.2.2.2.2.2.2.2.2.2.2.2.2.2.2.2.2.1, v21.2.2.2.2.2.2.2.2.2.2.2.2.2.2.2.2.2.2.2.2.2.2.2.1), v21.2.2.2.2.2.2.2.2.2.2.2.2.2.2.2.2.2.2.2.2.2.2.2.2.1, v21.2.2.2.2.2.2.2.2.2.2.2.2.2.2.2.2.2.2.2.2.2.2.2.2.2.1), ((List.length v21.2.2.2.2.2.2.2.2.2.2.2.2.2.2.2.2.2.2.2.2.2.2.2.2.2.2.1 : Int)) == 0, ())
  else
   some ((v21.2.2.2.2.2.2.2.2.2.2.2.2.2.1, v21.2.2.2.2.2.2.2.2.2.2.2.2.2.2.1, v21.2.2.2.2.2.2.2.2.2.2.2.2.2.2.2.1, v21.2.2.2.2.2.2.2.2.2.2.2.2.2.2.2.2.1, v21.2.2.2.2.2.2.2.2.2.2.2.2.2.2.2.2.2.1, v21.2.2.2.2.2.2.2.2.2.2.2.2.2.2.2.2.2.2.1, (v21.2.2.2.2.2.2.2.2.2.2.2.2.2.2.2.2.2.2.2.1, v21.2.2.2.2.2.2.2.2.2.2.2.2.2.2.2.2.2.2.2.2.1), v21.2.2.2.2.2.2.2.2.2.2.2.2.2.2.2.2.2.2.2.2.2.1, (v21.2.2.2.2.2.2.2.2.2.2.2.2.2.2.2.2.2.2.2.2.2.2.1, v21.2.2.2.2.2.2.2.2.2.2.2.2.2.2.2.2.2.2.2.2.2.2.2.1), v21.2.2.2.2.2.2.2.2.2.2.2.2.2.2.2.2.2.2.2.2.2.2.2.2.1, v21.2.2.2.2.2.2.2.2.2.2.2.2.2.2.2.2.2.2.2.2.2.2.2.2.2.1), false, ())

abbrev order_Read_x6 : Type := (List (List UInt8)) × Bool × (List D_api_Deed) × (List (List UInt8)) × Int × Int × Unit
abbrev order_Read_r6 : Type := (((List D_api_Deed) × Int × Int × Unit) ⊕ ((List D_api_Deed) × Unit))
def order_Read_b6  (x1 : order_Read_x6) (again : order_Read_x6 → Option order_Read_r6) : Option order_Read_r6 :=
 bif decide (x1.2.2.2.2.2.1 < x1.2.2.2.2.1) then
  Option.bind (idx x1.2.2.2.1 x1.2.2.2.2.2.1) fun y2 =>
  Option.bind (order_readDeed y2) fun r3 =>
  Option.bind (
   bif !r3.2.1 then
    some (true, ())
   else
    bif !x1.2.1 then
     some (x1.2.2.2.2.2.1 == (w64 (((List.length x1.1 : Int)) - 1)), ())
    else
     some (false, ())) fun v4 =>
  bif v4.1 then
   some (Sum.inl ([], w64 (x1.2.2.2.2.2.1 + 1), 10, ()))
  else
   chk (decide (((List.length x1.2.2.1) + 1) * 120 ≤ 140737488355328) && decide ((List.length x1.2.2.1) + 1 ≤ maxLen)) <|
   again (x1.1, x1.2.1, x1.2.2.1 ++ [r3.1], x1.2.2.2.1, x1.2.2.2.2.1, w64 (x1.2.2.2.2.2.1 + 1), ())
 else
  some (Sum.inr (x1.2.2.1, ()))

def order_Read (a0 : List UInt8) : Option ((List D_api_Deed) × Int × Int × Unit) :=
 bif decide (((List.length a0 : Int)) > 200000) then
  some ([], 0, 2, ())
 else
  Option.bind (kit_Lines a0) fun r1 =>
  joinB (β := ((List D_api_Deed) × Int × Int × Unit)) (γ := ((List D_api_Deed) × Unit)) (
   iter (X := order_Read_x6) (β := order_Read_r6) (List.length r1.1 + (List.length ([] : List D_api_Deed) + (List.length r1.1 + (Int.natAbs ((List.length r1.1 : Int)) + (Int.natAbs (0 : Int) + 2))))) (r1.1, r1.2.1, [], r1.1, (List.length r1.1 : Int), 0, ()) (order_Read_b6)) fun v6 =>
  Option.bind (order_CheckDeeds v6.1) fun r7 =>
  bif r7.1 != 0 then
   some ([], 0, r7.1, ())
  else
   some (v6.1, 0, 0, ())

def l9_awake  : Option (Bool × Unit) :=
 Option.bind (order_Read [53, 32, 98, 117, 121, 101, 114, 32, 49, 32, 100, 117, 101, 32, 50, 32, 55, 10]) fun r1 =>
 Option.bind (
  bif r1.2.2.1 == 0 then
   bif r1.2.1 == 0 then
    bif ((List.length r1.1 : Int)) == 1 then
     chk (decide (0 ≤ (0 : Int)) && decide ((0 : Int) < (List.length r1.1 : Int))) <|
     Option.bind (r1.1[0]?) fun y2 =>
     some (y2.2.2.2.2.2.2.2.2.2.1 == 7, ())
    else
     some (false, ())
   else
    some (false, ())
  else
   some (false, ())) fun v3 =>
 some (v3.1, ())

def order_at (a0 : D_api_Order) (a1 : List D_api_Deed) (a2 : Int) (a3 : List D_order_line) : Option ((D_api_Order × (List D_api_Deed) × (List (Int × (Option Nat))) × (List D_api_Decimal) × (List D_api_Point) × Int × Unit) × Int × (List D_order_line) × Unit) :=
 Option.bind (order_checked a0 a1) fun r1 =>
 bif r1.1 != 0 then
  none
 else
  Option.bind (kit_IsDay a2) fun r2 =>
  bif !r2.1 then
   none
  else
   Option.bind (order_newFollower a0 a1 a3) fun r3 =>
   Option.bind (order_follower_run (r3.1.1, r3.1.2.1, r3.1.2.2.1, r3.1.2.2.2.1, r3.1.2.2.2.2.1, r3.1.2.2.2.2.2.1, ()) a2 r3.2.1) fun r4 =>
   some ((r4.1.1, r4.1.2.1, r4.1.2.2.1, r4.1.2.2.2.1, r4.1.2.2.2.2.1, r4.1.2.2.2.2.2.1, ()), 0, r4.2.1, ())

def order_at_e (a0 : D_api_Order) (a1 : List D_api_Deed) (a2 : Int) (a3 : List D_order_line) : Option ((Option Nat) × Int × (List D_order_line) × Unit) :=
 Option.bind (order_checked a0 a1) fun r1 =>
 bif r1.1 != 0 then
  some (none, r1.1, a3, ())
 else
  Option.bind (kit_IsDay a2) fun r2 =>
  bif !r2.1 then
   some (none, 1, a3, ())
  else
   Option.bind (order_newFollower a0 a1 a3) fun r3 =>
   Option.bind (order_follower_run (r3.1.1, r3.1.2.1, r3.1.2.2.1, r3.1.2.2.2.1, r3.1.2.2.2.2.1, r3.1.2.2.2.2.2.1, ()) a2 r3.2.1) fun _ =>
   none

abbrev order_nextNo_x3 : Type := Int × Int × (List D_api_Deed) × Int × Int × Unit
abbrev order_nextNo_r3 : Type := ((Int × Unit) ⊕ (Int × Unit))
def order_nextNo_b3  (x1 : order_nextNo_x3) (again : order_nextNo_x3 → Option order_nextNo_r3) : Option order_nextNo_r3 :=
 bif decide (x1.2.2.2.2.1 < x1.2.2.2.1) then
  Option.bind (idx x1.2.2.1 x1.2.2.2.2.1) fun y2 =>
  bif y2.2.1 == x1.1 then
   again (x1.1, w64 (y2.2.2.1 + 1), x1.2.2.1, x1.2.2.2.1, w64 (x1.2.2.2.2.1 + 1), ())
  else
   again (x1.1, x1.2.1, x1.2.2.1, x1.2.2.2.1, w64 (x1.2.2.2.2.1 + 1), ())
 else
  some (Sum.inr (x1.2.1, ()))

def order_nextNo (a0 : List D_api_Deed) (a1 : Int) : Option (Int × Unit) :=
 joinB (β := (Int × Unit)) (γ := (Int × Unit)) (
  iter (X := order_nextNo_x3) (β := order_nextNo_r3) (Int.natAbs a1 + (Int.natAbs (1 : Int) + (List.length a0 + (Int.natAbs ((List.length a0 : Int)) + (Int.natAbs (0 : Int) + 2))))) (a1, 1, a0, (List.length a0 : Int), 0, ()) (order_nextNo_b3)) fun v3 =>
 some (v3.1, ())

noncomputable def slices_Clone_api_Deed (a0 : List D_api_Deed) : Option ((List D_api_Deed) × Unit) :=
 bif List.isEmpty a0 then
  both (
   some ([], ())) (
   chk (decide ((0 + (List.length a0)) * 120 ≤ 140737488355328) && decide (0 + (List.length a0) ≤ maxLen)) <|
   some (a0, ()))
 else
  chk (decide ((0 + (List.length a0)) * 120 ≤ 140737488355328) && decide (0 + (List.length a0) ≤ maxLen)) <|
  some (a0, ())

noncomputable def order_Write (a0 : D_api_Order) (a1 : List D_api_Deed) (a2 : D_api_Deed) : Option ((List D_api_Deed) × Int × Unit) :=
 Option.bind (order_checked a0 a1) fun r1 =>
 bif r1.1 != 0 then
  some ([], r1.1, ())
 else
  bif a2.2.2.1 != 0 then
   some ([], 3, ())
  else
   Option.bind (order_nextNo a1 a2.2.1) fun r2 =>
   Option.bind (slices_Clone_api_Deed a1) fun r3 =>
   chk (decide (((List.length r3.1) + 1) * 120 ≤ 140737488355328) && decide ((List.length r3.1) + 1 ≤ maxLen)) <|
   Option.bind (order_CheckDeeds (r3.1 ++ [(a2.1, a2.2.1, r2.1, a2.2.2.2)])) fun r4 =>
   bif r4.1 != 0 then
    some ([], r4.1, ())
   else
    Option.bind (order_newFollower a0 (r3.1 ++ [(a2.1, a2.2.1, r2.1, a2.2.2.2)]) []) fun r5 =>
    Option.bind (order_follower_run (r5.1.1, r5.1.2.1, r5.1.2.2.1, r5.1.2.2.2.1, r5.1.2.2.2.2.1, r5.1.2.2.2.2.2.1, ()) 3652059 r5.2.1) fun r6 =>
    Option.bind (
     bif decide (((List.length r6.1.2.2.2.1 : Int)) > 0) then
      chk (decide (0 ≤ (w64 (((List.length r6.1.2.2.2.1 : Int)) - 1))) && decide ((w64 (((List.length r6.1.2.2.2.1 : Int)) - 1)) < (List.length r6.1.2.2.2.1 : Int))) <|
      Option.bind (r6.1.2.2.2.1[(w64 (((List.length r6.1.2.2.2.1 : Int)) - 1)).toNat]?) fun y7 =>
      some (y7.1 == ((List.length a1 : Int)), ())
     else
      some (false, ())) fun v8 =>
    bif v8.1 then
     chk (decide (0 ≤ (w64 (((List.length r6.1.2.2.2.1 : Int)) - 1))) && decide ((w64 (((List.length r6.1.2.2.2.1 : Int)) - 1)) < (List.length r6.1.2.2.2.1 : Int))) <|
     Option.bind (r6.1.2.2.2.1[(w64 (((List.length r6.1.2.2.2.1 : Int)) - 1)).toNat]?) fun y9 =>
     some ([], y9.2, ())
    else
     some (r3.1 ++ [(a2.1, a2.2.1, r2.1, a2.2.2.2)], 0, ())

end
end Go.Md
