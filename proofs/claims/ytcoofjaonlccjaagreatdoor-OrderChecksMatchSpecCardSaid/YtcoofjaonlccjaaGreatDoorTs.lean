/-
 Plain facts: deeds and orders checked; what a deed does with a line. No condition.
-/
import Derived.Test.YtcoofjaonlccjaaGreatDoorTo
import Derived.Test.YtcoofjaonlccjaaGreatDoorTr
set_option linter.all false
namespace Go.Md
open Go.Dn

theorem order_isSellers_eq (k : Int) : order_isSellers k = some (decide (k = 5 ∨ k = 6 ∨ k = 7 ∨ k = 9), ()) := by
 unfold order_isSellers
 by_cases h5 : k = 5
 ·subst h5; rfl
 by_cases h6 : k = 6
 ·subst h6; rfl
 by_cases h7 : k = 7
 ·subst h7; rfl
 by_cases h9 : k = 9
 ·subst h9; rfl
 have e5 : (k == 5) = false := by simp [h5]
 have e6 : (k == 6) = false := by simp [h6]
 have e7 : (k == 7) = false := by simp [h7]
 have e9 : (k == 9) = false := by simp [h9]
 simp only [e5, e6, e7, e9, cond_false]
 simp [h5, h6, h7, h9]

def usA (k : Int) : Bool := decide (k = 1)
def usQ (k : Int) : Bool := decide (k ≠ 3 ∧ k ≠ 4 ∧ k ≠ 5 ∧ k ≠ 6 ∧ k ≠ 8)
def usP (k : Int) : Bool := decide (k = 1 ∨ k = 4)
def usU (k : Int) : Bool := decide (k = 1 ∨ k = 3 ∨ k = 7)
def usT (k : Int) : Bool := decide (k = 5 ∨ k = 6 ∨ k = 8)
theorem order_usesOf_eq (k : Int) : order_usesOf k = some ((usA k, usQ k, usA k, usP k, usU k, usT k), ()) := by
 unfold order_usesOf
 by_cases h1 : k = 1
 ·subst h1; rfl
 by_cases h3 : k = 3
 ·subst h3; rfl
 by_cases h4 : k = 4
 ·subst h4; rfl
 by_cases h5 : k = 5
 ·subst h5; rfl
 by_cases h6 : k = 6
 ·subst h6; rfl
 by_cases h7 : k = 7
 ·subst h7; rfl
 by_cases h8 : k = 8
 ·subst h8; rfl
 have e1 : (k == 1) = false := by simp [h1]
 have e3 : (k == 3) = false := by simp [h3]
 have e4 : (k == 4) = false := by simp [h4]
 have e5 : (k == 5) = false := by simp [h5]
 have e6 : (k == 6) = false := by simp [h6]
 have e8 : (k == 8) = false := by simp [h8]
 have e7 : (k == 7) = false := by simp [h7]
 simp only [e1, e3, e4, e5, e6, e7, e8, cond_false]
 simp [h1, h3, h4, h5, h6, h7, h8, usA, usQ, usP, usU, usT]

def isDay (n : Int) : Bool := decide (1 ≤ n ∧ n ≤ 3652059)
def inTo (n : Int) : Bool := decide (1 ≤ n ∧ n ≤ 2000)
def usedFU (ua uq up uu ut k2 : Bool) (art : List UInt8) (q : D_api_Decimal) (unit : List UInt8) (p : D_api_Decimal) (un to : Int) : Int :=
 bif uq && !qOk q k2 then 1
 else bif up && !inR p 0 1000000000 4 then 1
 else bif uu && !isDay un then 1
 else bif ua && (!isNm art || !isNm unit) then 5
 else bif ut && !inTo to then 1
 else bif (!ua && !(art == [])) || ((!uq && !(q.1 == 0 && q.2 == 0)) || ((!ua && !(unit == [])) || ((!up && !(p.1 == 0 && p.2 == 0)) || ((!uu && un != 0) || (!ut && to != 0))))) then 3
 else 0
def usedF (d : D_api_Deed) : Int :=
 usedFU (usA d.2.2.2.1) (usQ d.2.2.2.1) (usP d.2.2.2.1) (usU d.2.2.2.1) (usT d.2.2.2.1) (d.2.2.2.1 == 2) d.2.2.2.2.2.1 d.2.2.2.2.2.2.1 d.2.2.2.2.2.2.2.1 d.2.2.2.2.2.2.2.2.1 d.2.2.2.2.2.2.2.2.2.1 d.2.2.2.2.2.2.2.2.2.2

theorem kit_IsDay_eq' (n : Int) : kit_IsDay n = some (isDay n, ()) := kit_IsDay_eq n
theorem outTo_eq (n : Int) : kit_Outside n 1 2000 = some (!inTo n, ()) := by
 rw [kit_Outside_eq]
 congr 2
 unfold inTo
 by_cases h1 : 1 ≤ n <;> by_cases h2 : n ≤ 2000 <;> simp [h1, h2] <;> omega

theorem order_usedFault_eq (d : D_api_Deed) : order_usedFault d = some (usedF d, ()) := by
 obtain ⟨day, byy, no, k, line, art, ⟨q1, q2⟩, unit, ⟨p1, p2⟩, un, to⟩ := d
 unfold order_usedFault usedF
 dsimp only
 rw [order_usesOf_eq, Option.bind_some]
 dsimp only
 rw [order_QuantityFault_eq]
 simp only [order_PriceFault_eq, kit_IsDay_eq', kit_IsName_eq, outTo_eq, Option.bind_some]
 generalize usA k = ua
 generalize usQ k = uq
 generalize usP k = up
 generalize usU k = uu
 generalize usT k = ut
 generalize (k == 2) = k2
 unfold usedFU
 generalize qOk (q1, q2) k2 = b1
 have step1 : ∀ (A : Option ((Int × Unit) ⊕ (Int × Int × Int × Int × Int × (List UInt8) × Int × Int × (List UInt8) × Int × Int × Int × Int × Bool × Bool × Bool × Bool × Bool × Bool × Unit))) (v : Int × Int × Int × Int × Int × (List UInt8) × Int × Int × (List UInt8) × Int × Int × Int × Int × Bool × Bool × Bool × Bool × Bool × Bool × Unit) (K : (Int × Int × Int × Int × Int × (List UInt8) × Int × Int × (List UInt8) × Int × Int × Int × Int × Bool × Bool × Bool × Bool × Bool × Bool × Unit) → Option (Int × Unit)),
   A = some (.inr v) → joinB A K = K v := fun A v K h => by rw [h]; rfl
 cases uq
 ·refine Eq.trans (step1 _ _ _ (by exact rfl)) ?_
  cases up
  ·refine Eq.trans (step1 _ _ _ (by exact rfl)) ?_
   dsimp only
   generalize isDay un = b3
   generalize isNm art = b4
   generalize isNm unit = b5
   generalize inTo to = b6
   generalize (art == []) = c1
   generalize (q1 == 0) = c2
   generalize (q2 == 0) = c3
   generalize (unit == []) = c4
   generalize (p1 == 0) = c5
   generalize (p2 == 0) = c6
   generalize (un != 0) = c7
   generalize (to != 0) = c8
   cases uu
   ·cases ua
    ·cases ut
     ·cases c1 <;> first | rfl | (cases c4 <;> first | rfl | (cases c7 <;> first | rfl | (cases c8 <;> first | rfl | (cases c2 <;> first | rfl | (cases c3 <;> first | rfl | (cases c5 <;> first | rfl | (cases c6 <;> rfl)))))))
     ·cases b6
      ·rfl
      ·cases c1 <;> first | rfl | (cases c4 <;> first | rfl | (cases c7 <;> first | rfl | (cases c8 <;> first | rfl | (cases c2 <;> first | rfl | (cases c3 <;> first | rfl | (cases c5 <;> first | rfl | (cases c6 <;> rfl)))))))
    ·cases b4
     ·rfl
     ·cases b5
      ·rfl
      ·cases ut
       ·cases c1 <;> first | rfl | (cases c4 <;> first | rfl | (cases c7 <;> first | rfl | (cases c8 <;> first | rfl | (cases c2 <;> first | rfl | (cases c3 <;> first | rfl | (cases c5 <;> first | rfl | (cases c6 <;> rfl)))))))
       ·cases b6
        ·rfl
        ·cases c1 <;> first | rfl | (cases c4 <;> first | rfl | (cases c7 <;> first | rfl | (cases c8 <;> first | rfl | (cases c2 <;> first | rfl | (cases c3 <;> first | rfl | (cases c5 <;> first | rfl | (cases c6 <;> rfl)))))))
   ·cases b3
    ·rfl
    ·cases ua
     ·cases ut
      ·cases c1 <;> first | rfl | (cases c4 <;> first | rfl | (cases c7 <;> first | rfl | (cases c8 <;> first | rfl | (cases c2 <;> first | rfl | (cases c3 <;> first | rfl | (cases c5 <;> first | rfl | (cases c6 <;> rfl)))))))
      ·cases b6
       ·rfl
       ·cases c1 <;> first | rfl | (cases c4 <;> first | rfl | (cases c7 <;> first | rfl | (cases c8 <;> first | rfl | (cases c2 <;> first | rfl | (cases c3 <;> first | rfl | (cases c5 <;> first | rfl | (cases c6 <;> rfl)))))))
     ·cases b4
      ·rfl
      ·cases b5
       ·rfl
       ·cases ut
        ·cases c1 <;> first | rfl | (cases c4 <;> first | rfl | (cases c7 <;> first | rfl | (cases c8 <;> first | rfl | (cases c2 <;> first | rfl | (cases c3 <;> first | rfl | (cases c5 <;> first | rfl | (cases c6 <;> rfl)))))))
        ·cases b6
         ·rfl
         ·cases c1 <;> first | rfl | (cases c4 <;> first | rfl | (cases c7 <;> first | rfl | (cases c8 <;> first | rfl | (cases c2 <;> first | rfl | (cases c3 <;> first | rfl | (cases c5 <;> first | rfl | (cases c6 <;> rfl)))))))
  ·dsimp only
   generalize inR (p1, p2) 0 1000000000 4 = b2
   cases b2
   ·rfl
   ·refine Eq.trans (step1 _ _ _ (by exact rfl)) ?_
    dsimp only
    generalize isDay un = b3
    generalize isNm art = b4
    generalize isNm unit = b5
    generalize inTo to = b6
    generalize (art == []) = c1
    generalize (q1 == 0) = c2
    generalize (q2 == 0) = c3
    generalize (unit == []) = c4
    generalize (p1 == 0) = c5
    generalize (p2 == 0) = c6
    generalize (un != 0) = c7
    generalize (to != 0) = c8
    cases uu
    ·cases ua
     ·cases ut
      ·cases c1 <;> first | rfl | (cases c4 <;> first | rfl | (cases c7 <;> first | rfl | (cases c8 <;> first | rfl | (cases c2 <;> first | rfl | (cases c3 <;> first | rfl | (cases c5 <;> first | rfl | (cases c6 <;> rfl)))))))
      ·cases b6
       ·rfl
       ·cases c1 <;> first | rfl | (cases c4 <;> first | rfl | (cases c7 <;> first | rfl | (cases c8 <;> first | rfl | (cases c2 <;> first | rfl | (cases c3 <;> first | rfl | (cases c5 <;> first | rfl | (cases c6 <;> rfl)))))))
     ·cases b4
      ·rfl
      ·cases b5
       ·rfl
       ·cases ut
        ·cases c1 <;> first | rfl | (cases c4 <;> first | rfl | (cases c7 <;> first | rfl | (cases c8 <;> first | rfl | (cases c2 <;> first | rfl | (cases c3 <;> first | rfl | (cases c5 <;> first | rfl | (cases c6 <;> rfl)))))))
        ·cases b6
         ·rfl
         ·cases c1 <;> first | rfl | (cases c4 <;> first | rfl | (cases c7 <;> first | rfl | (cases c8 <;> first | rfl | (cases c2 <;> first | rfl | (cases c3 <;> first | rfl | (cases c5 <;> first | rfl | (cases c6 <;> rfl)))))))
    ·cases b3
     ·rfl
     ·cases ua
      ·cases ut
       ·cases c1 <;> first | rfl | (cases c4 <;> first | rfl | (cases c7 <;> first | rfl | (cases c8 <;> first | rfl | (cases c2 <;> first | rfl | (cases c3 <;> first | rfl | (cases c5 <;> first | rfl | (cases c6 <;> rfl)))))))
       ·cases b6
        ·rfl
        ·cases c1 <;> first | rfl | (cases c4 <;> first | rfl | (cases c7 <;> first | rfl | (cases c8 <;> first | rfl | (cases c2 <;> first | rfl | (cases c3 <;> first | rfl | (cases c5 <;> first | rfl | (cases c6 <;> rfl)))))))
      ·cases b4
       ·rfl
       ·cases b5
        ·rfl
        ·cases ut
         ·cases c1 <;> first | rfl | (cases c4 <;> first | rfl | (cases c7 <;> first | rfl | (cases c8 <;> first | rfl | (cases c2 <;> first | rfl | (cases c3 <;> first | rfl | (cases c5 <;> first | rfl | (cases c6 <;> rfl)))))))
         ·cases b6
          ·rfl
          ·cases c1 <;> first | rfl | (cases c4 <;> first | rfl | (cases c7 <;> first | rfl | (cases c8 <;> first | rfl | (cases c2 <;> first | rfl | (cases c3 <;> first | rfl | (cases c5 <;> first | rfl | (cases c6 <;> rfl)))))))
 ·cases b1
  ·rfl
  ·refine Eq.trans (step1 _ _ _ (by exact rfl)) ?_
   cases up
   ·refine Eq.trans (step1 _ _ _ (by exact rfl)) ?_
    dsimp only
    generalize isDay un = b3
    generalize isNm art = b4
    generalize isNm unit = b5
    generalize inTo to = b6
    generalize (art == []) = c1
    generalize (q1 == 0) = c2
    generalize (q2 == 0) = c3
    generalize (unit == []) = c4
    generalize (p1 == 0) = c5
    generalize (p2 == 0) = c6
    generalize (un != 0) = c7
    generalize (to != 0) = c8
    cases uu
    ·cases ua
     ·cases ut
      ·cases c1 <;> first | rfl | (cases c4 <;> first | rfl | (cases c7 <;> first | rfl | (cases c8 <;> first | rfl | (cases c2 <;> first | rfl | (cases c3 <;> first | rfl | (cases c5 <;> first | rfl | (cases c6 <;> rfl)))))))
      ·cases b6
       ·rfl
       ·cases c1 <;> first | rfl | (cases c4 <;> first | rfl | (cases c7 <;> first | rfl | (cases c8 <;> first | rfl | (cases c2 <;> first | rfl | (cases c3 <;> first | rfl | (cases c5 <;> first | rfl | (cases c6 <;> rfl)))))))
     ·cases b4
      ·rfl
      ·cases b5
       ·rfl
       ·cases ut
        ·cases c1 <;> first | rfl | (cases c4 <;> first | rfl | (cases c7 <;> first | rfl | (cases c8 <;> first | rfl | (cases c2 <;> first | rfl | (cases c3 <;> first | rfl | (cases c5 <;> first | rfl | (cases c6 <;> rfl)))))))
        ·cases b6
         ·rfl
         ·cases c1 <;> first | rfl | (cases c4 <;> first | rfl | (cases c7 <;> first | rfl | (cases c8 <;> first | rfl | (cases c2 <;> first | rfl | (cases c3 <;> first | rfl | (cases c5 <;> first | rfl | (cases c6 <;> rfl)))))))
    ·cases b3
     ·rfl
     ·cases ua
      ·cases ut
       ·cases c1 <;> first | rfl | (cases c4 <;> first | rfl | (cases c7 <;> first | rfl | (cases c8 <;> first | rfl | (cases c2 <;> first | rfl | (cases c3 <;> first | rfl | (cases c5 <;> first | rfl | (cases c6 <;> rfl)))))))
       ·cases b6
        ·rfl
        ·cases c1 <;> first | rfl | (cases c4 <;> first | rfl | (cases c7 <;> first | rfl | (cases c8 <;> first | rfl | (cases c2 <;> first | rfl | (cases c3 <;> first | rfl | (cases c5 <;> first | rfl | (cases c6 <;> rfl)))))))
      ·cases b4
       ·rfl
       ·cases b5
        ·rfl
        ·cases ut
         ·cases c1 <;> first | rfl | (cases c4 <;> first | rfl | (cases c7 <;> first | rfl | (cases c8 <;> first | rfl | (cases c2 <;> first | rfl | (cases c3 <;> first | rfl | (cases c5 <;> first | rfl | (cases c6 <;> rfl)))))))
         ·cases b6
          ·rfl
          ·cases c1 <;> first | rfl | (cases c4 <;> first | rfl | (cases c7 <;> first | rfl | (cases c8 <;> first | rfl | (cases c2 <;> first | rfl | (cases c3 <;> first | rfl | (cases c5 <;> first | rfl | (cases c6 <;> rfl)))))))
   ·dsimp only
    generalize inR (p1, p2) 0 1000000000 4 = b2
    cases b2
    ·rfl
    ·refine Eq.trans (step1 _ _ _ (by exact rfl)) ?_
     dsimp only
     generalize isDay un = b3
     generalize isNm art = b4
     generalize isNm unit = b5
     generalize inTo to = b6
     generalize (art == []) = c1
     generalize (q1 == 0) = c2
     generalize (q2 == 0) = c3
     generalize (unit == []) = c4
     generalize (p1 == 0) = c5
     generalize (p2 == 0) = c6
     generalize (un != 0) = c7
     generalize (to != 0) = c8
     cases uu
     ·cases ua
      ·cases ut
       ·cases c1 <;> first | rfl | (cases c4 <;> first | rfl | (cases c7 <;> first | rfl | (cases c8 <;> first | rfl | (cases c2 <;> first | rfl | (cases c3 <;> first | rfl | (cases c5 <;> first | rfl | (cases c6 <;> rfl)))))))
       ·cases b6
        ·rfl
        ·cases c1 <;> first | rfl | (cases c4 <;> first | rfl | (cases c7 <;> first | rfl | (cases c8 <;> first | rfl | (cases c2 <;> first | rfl | (cases c3 <;> first | rfl | (cases c5 <;> first | rfl | (cases c6 <;> rfl)))))))
      ·cases b4
       ·rfl
       ·cases b5
        ·rfl
        ·cases ut
         ·cases c1 <;> first | rfl | (cases c4 <;> first | rfl | (cases c7 <;> first | rfl | (cases c8 <;> first | rfl | (cases c2 <;> first | rfl | (cases c3 <;> first | rfl | (cases c5 <;> first | rfl | (cases c6 <;> rfl)))))))
         ·cases b6
          ·rfl
          ·cases c1 <;> first | rfl | (cases c4 <;> first | rfl | (cases c7 <;> first | rfl | (cases c8 <;> first | rfl | (cases c2 <;> first | rfl | (cases c3 <;> first | rfl | (cases c5 <;> first | rfl | (cases c6 <;> rfl)))))))
     ·cases b3
      ·rfl
      ·cases ua
       ·cases ut
        ·cases c1 <;> first | rfl | (cases c4 <;> first | rfl | (cases c7 <;> first | rfl | (cases c8 <;> first | rfl | (cases c2 <;> first | rfl | (cases c3 <;> first | rfl | (cases c5 <;> first | rfl | (cases c6 <;> rfl)))))))
        ·cases b6
         ·rfl
         ·cases c1 <;> first | rfl | (cases c4 <;> first | rfl | (cases c7 <;> first | rfl | (cases c8 <;> first | rfl | (cases c2 <;> first | rfl | (cases c3 <;> first | rfl | (cases c5 <;> first | rfl | (cases c6 <;> rfl)))))))
       ·cases b4
        ·rfl
        ·cases b5
         ·rfl
         ·cases ut
          ·cases c1 <;> first | rfl | (cases c4 <;> first | rfl | (cases c7 <;> first | rfl | (cases c8 <;> first | rfl | (cases c2 <;> first | rfl | (cases c3 <;> first | rfl | (cases c5 <;> first | rfl | (cases c6 <;> rfl)))))))
          ·cases b6
           ·rfl
           ·cases c1 <;> first | rfl | (cases c4 <;> first | rfl | (cases c7 <;> first | rfl | (cases c8 <;> first | rfl | (cases c2 <;> first | rfl | (cases c3 <;> first | rfl | (cases c5 <;> first | rfl | (cases c6 <;> rfl)))))))

def deedF (d : D_api_Deed) : Int :=
 if ¬(1 ≤ d.1 ∧ d.1 ≤ 3652059) then 1
 else if ¬(1 ≤ d.2.1 ∧ d.2.1 ≤ 2) then 4
 else if ¬(1 ≤ d.2.2.1 ∧ d.2.2.1 ≤ 2000) then 1
 else if ¬(1 ≤ d.2.2.2.1 ∧ d.2.2.2.1 ≤ 11) then 4
 else if ¬((d.2.2.2.1 = 5 ∨ d.2.2.2.1 = 6 ∨ d.2.2.2.1 = 7 ∨ d.2.2.2.1 = 9) ↔ d.2.1 = 2) then 4
 else if ¬(1 ≤ d.2.2.2.2.1 ∧ d.2.2.2.2.1 ≤ 99999) then 1
 else usedF d

theorem out_not (n a b : Int) : decide (n < a ∨ b < n) = !decide (a ≤ n ∧ n ≤ b) := by
 by_cases h1 : a ≤ n <;> by_cases h2 : n ≤ b <;> simp [h1, h2] <;> omega

theorem order_deedFault_eq (d : D_api_Deed) : order_deedFault d = some (deedF d, ()) := by
 unfold order_deedFault deedF
 simp only [kit_IsDay_eq, kit_Outside_eq, out_not, order_isSellers_eq, order_usedFault_eq, Option.bind_some]
 by_cases h1 : 1 ≤ d.1 ∧ d.1 ≤ 3652059
 ·by_cases h2 : 1 ≤ d.2.1 ∧ d.2.1 ≤ 2
  ·by_cases h3 : 1 ≤ d.2.2.1 ∧ d.2.2.1 ≤ 2000
   ·by_cases h4 : 1 ≤ d.2.2.2.1 ∧ d.2.2.2.1 ≤ 11
    ·by_cases h5 : (d.2.2.2.1 = 5 ∨ d.2.2.2.1 = 6 ∨ d.2.2.2.1 = 7 ∨ d.2.2.2.1 = 9) ↔ d.2.1 = 2
     ·have e5 : (decide (d.2.2.2.1 = 5 ∨ d.2.2.2.1 = 6 ∨ d.2.2.2.1 = 7 ∨ d.2.2.2.1 = 9) == (d.2.1 == 2)) = true := by
       by_cases h6 : d.2.1 = 2
       ·simp [h6, h5.2 h6]
       ·have : ¬(d.2.2.2.1 = 5 ∨ d.2.2.2.1 = 6 ∨ d.2.2.2.1 = 7 ∨ d.2.2.2.1 = 9) := fun h => h6 (h5.1 h)
        simp [h6, this]
      by_cases h6 : 1 ≤ d.2.2.2.2.1 ∧ d.2.2.2.2.1 ≤ 99999
      ·rw [e5]
       simp only [h1, h2, h3, h4, h5, h6, iff_self, decide_true, Bool.not_true, cond_false, not_true, if_false, and_self]
      ·rw [e5]
       simp only [h1, h2, h3, h4, h5, h6, iff_self, decide_true, decide_false, Bool.not_true, Bool.not_false, cond_false, cond_true, not_true, not_false_eq_true, if_false, if_true, and_self]
     ·have e5 : (decide (d.2.2.2.1 = 5 ∨ d.2.2.2.1 = 6 ∨ d.2.2.2.1 = 7 ∨ d.2.2.2.1 = 9) == (d.2.1 == 2)) = false := by
       by_cases h6 : d.2.1 = 2
       ·have : ¬(d.2.2.2.1 = 5 ∨ d.2.2.2.1 = 6 ∨ d.2.2.2.1 = 7 ∨ d.2.2.2.1 = 9) := fun h => h5 ⟨fun _ => h6, fun _ => h⟩
        simp [h6, this]
       ·have : (d.2.2.2.1 = 5 ∨ d.2.2.2.1 = 6 ∨ d.2.2.2.1 = 7 ∨ d.2.2.2.1 = 9) := Classical.byContradiction fun h => h5 ⟨fun h' => absurd h' h, fun h' => absurd h' h6⟩
        simp [h6, this]
      rw [e5]
      simp only [h1, h2, h3, h4, h5, decide_true, Bool.not_true, Bool.not_false, cond_false, cond_true, not_true, not_false_eq_true, if_false, if_true, and_self]
    ·simp only [h1, h2, h3, h4, decide_true, decide_false, Bool.not_true, Bool.not_false, cond_false, cond_true, not_true, not_false_eq_true, if_false, if_true, and_self]
   ·simp only [h1, h2, h3, decide_true, decide_false, Bool.not_true, Bool.not_false, cond_false, cond_true, not_true, not_false_eq_true, if_false, if_true, and_self]
  ·simp only [h1, h2, decide_true, decide_false, Bool.not_true, Bool.not_false, cond_false, cond_true, not_true, not_false_eq_true, if_false, if_true, and_self]
 ·simp only [h1, decide_false, Bool.not_false, cond_true, not_false_eq_true, if_true]

theorem deedF_zero {d : D_api_Deed} (h : deedF d = 0) : (1 ≤ d.1 ∧ d.1 ≤ 3652059) ∧ (1 ≤ d.2.1 ∧ d.2.1 ≤ 2) ∧ (1 ≤ d.2.2.1 ∧ d.2.2.1 ≤ 2000) ∧ (1 ≤ d.2.2.2.1 ∧ d.2.2.2.1 ≤ 11) ∧
  ((d.2.2.2.1 = 5 ∨ d.2.2.2.1 = 6 ∨ d.2.2.2.1 = 7 ∨ d.2.2.2.1 = 9) ↔ d.2.1 = 2) ∧ (1 ≤ d.2.2.2.2.1 ∧ d.2.2.2.2.1 ≤ 99999) ∧ usedF d = 0 := by
 unfold deedF at h
 split at h
 ·cases h
 ·rename_i h1
  split at h
  ·cases h
  ·rename_i h2
   split at h
   ·cases h
   ·rename_i h3
    split at h
    ·cases h
    ·rename_i h4
     split at h
     ·cases h
     ·rename_i h5
      split at h
      ·cases h
      ·rename_i h6
       exact ⟨Classical.not_not.1 h1, Classical.not_not.1 h2, Classical.not_not.1 h3, Classical.not_not.1 h4, Classical.not_not.1 h5, Classical.not_not.1 h6, h⟩

end Go.Md

namespace Go.Md
open Go.Dn

def dCw (a b : D_api_Deed) : Int := if w64 (a.1 - b.1) ≠ 0 then w64 (a.1 - b.1) else if w64 (a.2.1 - b.2.1) ≠ 0 then w64 (a.2.1 - b.2.1) else w64 (a.2.2.1 - b.2.2.1)
theorem order_compareDeeds_w (a b : D_api_Deed) : order_compareDeeds a b = some (dCw a b, ()) := by
 unfold order_compareDeeds dCw
 generalize w64 (a.1 - b.1) = x
 generalize w64 (a.2.1 - b.2.1) = y
 generalize w64 (a.2.2.1 - b.2.2.1) = z
 simp only [List.length_cons, List.length_nil]
 have key : iter (X := order_compareDeeds_x2) (β := order_compareDeeds_r2) 8 (3, 0, [x, y, z], ()) order_compareDeeds_b2 = (bif x != 0 then some (Sum.inl (x, ())) else bif y != 0 then some (Sum.inl (y, ())) else bif z != 0 then some (Sum.inl (z, ())) else some (Sum.inr ())) := by kernel_rfl
 show joinB (β := (Int × Unit)) (γ := Unit) (iter 8 (3, 0, [x, y, z], ()) order_compareDeeds_b2) _ = _
 rw [key]
 by_cases hx : x = 0
 ·subst hx
  by_cases hy : y = 0
  ·subst hy
   by_cases hz : z = 0
   ·subst hz; rfl
   ·have : (z != 0) = true := by simp [hz]
    rw [this]; simp [joinB]
  ·have : (y != 0) = true := by simp [hy]
   rw [this]; simp [joinB, hy]
 ·have : (x != 0) = true := by simp [hx]
  rw [this]; simp [joinB, hx]

def deedsGo : List D_api_Deed → Option D_api_Deed → Int → Int → Int
 | [], _, _, _ => 0
 | d :: r, p, nb, ns =>
  if deedF d ≠ 0 then deedF d
  else if (p.any fun q => decide (0 ≤ dCw q d)) = true then 8
  else if d.2.1 = 1 then (if d.2.2.1 ≠ w64 (nb + 1) then 9 else deedsGo r (some d) d.2.2.1 ns)
  else (if d.2.2.1 ≠ w64 (ns + 1) then 9 else deedsGo r (some d) nb d.2.2.1)
def deedsF (l : List D_api_Deed) : Int := if 2000 < l.length then 2 else deedsGo l none 0 0

def prevOf {α : Type} (l : List α) : Nat → Option α
 | 0 => none
 | i + 1 => l[i]?
def dG (a0 : List D_api_Deed) (s : Int × Int × Int) (i : Nat) (y : D_api_Deed) (k : (Int × Int × Int) → Option order_CheckDeeds_r5) : Option order_CheckDeeds_r5 :=
 if deedF y ≠ 0 then some (Sum.inl (deedF y, ()))
 else if ((prevOf a0 i).any fun q => decide (0 ≤ dCw q y)) = true then some (Sum.inl (8, ()))
 else if y.2.1 = 1 then (if y.2.2.1 ≠ w64 (s.2.1 + 1) then some (Sum.inl (9, ())) else k (s.1, y.2.2.1, s.2.2))
 else (if y.2.2.1 ≠ w64 (s.2.2 + 1) then some (Sum.inl (9, ())) else k (s.1, s.2.1, y.2.2.1))

theorem bne_of_ne {a b : Int} (h : a ≠ b) : (a != b) = true := by simp [h]
theorem beq_of_ne {a b : Int} (h : a ≠ b) : (a == b) = false := by simp [h]

theorem idx_get {α : Type} {l : List α} {i : Nat} {y : α} (h : l[i]? = some y) : idx l (i : Int) = some y := by
 unfold idx
 rw [if_pos (Int.natCast_nonneg i)]
 exact h

theorem checkDeeds_step (a0 : List D_api_Deed) (hl : a0.length ≤ 2000) (s : Int × Int × Int) (i : Nat) (y : D_api_Deed) (again : order_CheckDeeds_x5 → Option order_CheckDeeds_r5) (hy : a0[i]? = some y) :
  order_CheckDeeds_b5 (a0, a0, (a0.length : Int), (i : Int), s.1, s.2.1, s.2.2, ()) again = dG a0 s i y fun s' => again (a0, a0, (a0.length : Int), ((i + 1 : Nat) : Int), s'.1, s'.2.1, s'.2.2, ()) := by
 have hi : i < a0.length := (List.getElem?_eq_some_iff.1 hy).1
 unfold order_CheckDeeds_b5 dG
 dsimp only
 rw [decide_eq_true (show (i : Int) < (a0.length : Int) by omega), cond_true, idx_get hy, Option.bind_some, order_deedFault_eq, Option.bind_some]
 dsimp only
 have hw : w64 ((i : Int) + 1) = ((i + 1 : Nat) : Int) := by rw [w64_id (by omega) (by omega)]; omega
 rw [hw]
 by_cases hf : deedF y = 0
 ·rw [hf, show ((0 : Int) != 0) = false from rfl, cond_false, if_neg (by simp)]
  obtain ⟨_, hby, _⟩ := deedF_zero hf
  have hprev' : (bif decide ((i : Int) > 0) then Option.bind (idx a0 (w64 ((i : Int) - 1))) fun y4 => Option.bind (order_compareDeeds y4 y) fun r5 => some (decide (r5.1 ≥ 0), ()) else some (false, ())) = some ((prevOf a0 i).any fun q => decide (0 ≤ dCw q y), ()) := by
   cases i with
   | zero => rfl
   | succ j =>
    have hj : j < a0.length := by omega
    have hq : a0[j]? = some a0[j] := List.getElem?_eq_getElem hj
    have e : w64 (((j + 1 : Nat) : Int) - 1) = (j : Int) := by rw [w64_id (by omega) (by omega)]; omega
    rw [decide_eq_true (by omega), cond_true, e, idx_get hq, Option.bind_some, order_compareDeeds_w, Option.bind_some]
    simp only [prevOf, hq, Option.any_some]
  rw [hprev', Option.bind_some]
  dsimp only
  cases ((prevOf a0 i).any fun q => decide (0 ≤ dCw q y)) with
  | true => rfl
  | false =>
   rw [cond_false, if_neg (by simp)]
   by_cases h1 : y.2.1 = 1
   ·rw [beq_of_ne (show y.2.1 ≠ 0 by omega), cond_false, show (y.2.1 == 1) = true by simp [h1], cond_true, if_pos h1]
    by_cases hn : y.2.2.1 = w64 (s.2.1 + 1)
    ·rw [show (y.2.2.1 != w64 (s.2.1 + 1)) = false by simp [hn], cond_false, if_neg (by simp [hn])]
     rfl
    ·rw [bne_of_ne hn, cond_true, if_pos hn]
   ·have h2 : y.2.1 = 2 := by omega
    rw [beq_of_ne (show y.2.1 ≠ 0 by omega), cond_false, beq_of_ne h1, cond_false, show (y.2.1 == 2) = true by simp [h2], cond_true, if_neg h1]
    by_cases hn : y.2.2.1 = w64 (s.2.2 + 1)
    ·rw [show (y.2.2.1 != w64 (s.2.2 + 1)) = false by simp [hn], cond_false, if_neg (by simp [hn])]
     rfl
    ·rw [bne_of_ne hn, cond_true, if_pos hn]
 ·rw [bne_of_ne hf, cond_true, if_pos hf]

def fres (f : Int) : Option ((Int × Unit) ⊕ Unit) := if f = 0 then some (Sum.inr ()) else some (Sum.inl (f, ()))
theorem fres_zero {f : Int} (h : f = 0) : fres f = some (Sum.inr ()) := if_pos h
theorem fres_ne {f : Int} (h : f ≠ 0) : fres f = some (Sum.inl (f, ())) := if_neg h

theorem deedsGo_forL (a0 : List D_api_Deed) : ∀ (r : List D_api_Deed) (i : Nat) (s : Int × Int × Int), a0.drop i = r →
  forL (dG a0) (fun _ => some (Sum.inr ())) r i s = fres (deedsGo r (prevOf a0 i) s.2.1 s.2.2)
 | [], _, _, _ => by simp [forL, deedsGo, fres]
 | y :: r, i, s, hd => by
  have hy : a0[i]? = some y := by
   have := congrArg (·[0]?) hd
   simpa [List.getElem?_drop] using this
  have hr : a0.drop (i + 1) = r := by
   have := congrArg List.tail hd
   simpa [List.tail_drop] using this
  have hp : prevOf a0 (i + 1) = some y := hy
  show dG a0 s i y (fun s' => forL (dG a0) (fun _ => some (Sum.inr ())) r (i + 1) s') = _
  rw [show (fun s' => forL (dG a0) (fun _ => some (Sum.inr ())) r (i + 1) s') = fun s' => fres (deedsGo r (prevOf a0 (i + 1)) s'.2.1 s'.2.2) from funext fun s' => deedsGo_forL a0 r (i + 1) s' hr, hp]
  unfold dG
  by_cases hf : deedF y = 0
  ·have e0 : ¬deedF y ≠ 0 := fun h => h hf
   rw [if_neg e0]
   by_cases ha : ((prevOf a0 i).any fun q => decide (0 ≤ dCw q y)) = true
   ·rw [if_pos ha, show deedsGo (y :: r) (prevOf a0 i) s.2.1 s.2.2 = 8 by simp only [deedsGo]; rw [if_neg e0, if_pos ha]]
    rfl
   ·rw [if_neg ha]
    by_cases h1 : y.2.1 = 1
    ·rw [if_pos h1]
     by_cases hn : y.2.2.1 ≠ w64 (s.2.1 + 1)
     ·rw [if_pos hn, show deedsGo (y :: r) (prevOf a0 i) s.2.1 s.2.2 = 9 by simp only [deedsGo]; rw [if_neg e0, if_neg ha, if_pos h1, if_pos hn]]
      rfl
     ·rw [if_neg hn, show deedsGo (y :: r) (prevOf a0 i) s.2.1 s.2.2 = deedsGo r (some y) y.2.2.1 s.2.2 by rw [deedsGo, if_neg e0, if_neg ha, if_pos h1, if_neg hn]]
    ·rw [if_neg h1]
     by_cases hn : y.2.2.1 ≠ w64 (s.2.2 + 1)
     ·rw [if_pos hn, show deedsGo (y :: r) (prevOf a0 i) s.2.1 s.2.2 = 9 by simp only [deedsGo]; rw [if_neg e0, if_neg ha, if_neg h1, if_pos hn]]
      rfl
     ·rw [if_neg hn, show deedsGo (y :: r) (prevOf a0 i) s.2.1 s.2.2 = deedsGo r (some y) s.2.1 y.2.2.1 by rw [deedsGo, if_neg e0, if_neg ha, if_neg h1, if_neg hn]]
  ·rw [if_pos hf, show deedsGo (y :: r) (prevOf a0 i) s.2.1 s.2.2 = deedF y by rw [deedsGo, if_pos hf], fres_ne hf]

theorem order_CheckDeeds_eq (l : List D_api_Deed) : order_CheckDeeds l = some (deedsF l, ()) := by
 unfold order_CheckDeeds deedsF
 by_cases hl : 2000 < l.length
 ·rw [decide_eq_true (show (l.length : Int) > 2000 by omega), cond_true, if_pos hl]
 ·rw [decide_eq_false (show ¬ (l.length : Int) > 2000 by omega), cond_false, if_neg hl]
  have := iter_for (f := order_CheckDeeds_b5) (fun (s : Int × Int × Int) (i : Nat) => ((l, l, (l.length : Int), (i : Int), s.1, s.2.1, s.2.2, ()) : order_CheckDeeds_x5)) l (dG l) (fun _ => some (Sum.inr ()))
   (fun s i y again hy => checkDeeds_step l (by omega) s i y again hy) (fun s again => by
    unfold order_CheckDeeds_b5
    dsimp only
    rw [decide_eq_false (by omega)]; rfl) (0, 0, 0)
  refine (congrArg (fun z => joinB (β := (Int × Unit)) (γ := Unit) z fun _ => some (0, ())) (this _ (by omega))).trans ?_
  rw [deedsGo_forL l l 0 (0, 0, 0) rfl]
  simp only [prevOf]
  by_cases h : deedsGo l none 0 0 = 0
  ·rw [fres_zero h, h]; rfl
  ·rw [fres_ne h]; rfl

theorem deedsGo_zero : ∀ {l : List D_api_Deed} {p : Option D_api_Deed} {nb ns : Int}, deedsGo l p nb ns = 0 → ∀ d, d ∈ l → deedF d = 0
 | [], _, _, _, _, _, h => by cases h
 | y :: r, p, nb, ns, h, d, hd => by
  simp only [deedsGo] at h
  by_cases hf : deedF y = 0
  ·rw [if_neg (by simp [hf])] at h
   rcases List.mem_cons.1 hd with rfl | hd
   ·exact hf
   ·split at h
    ·cases h
    ·split at h
     ·split at h
      ·cases h
      ·exact deedsGo_zero h d hd
     ·split at h
      ·cases h
      ·exact deedsGo_zero h d hd
  ·rw [if_pos hf] at h
   exact absurd h hf
theorem deedsF_zero {l : List D_api_Deed} (h : deedsF l = 0) : l.length ≤ 2000 ∧ ∀ d, d ∈ l → deedF d = 0 := by
 unfold deedsF at h
 split at h
 ·cases h
 ·rename_i hl
  exact ⟨by omega, deedsGo_zero h⟩

/-! ### orders -/

abbrev oNum (o : D_api_Order) := o.1
abbrev oBuy (o : D_api_Order) := o.2.1
abbrev oSel (o : D_api_Order) := o.2.2.1
abbrev oDay (o : D_api_Order) := o.2.2.2.1
abbrev oExt (o : D_api_Order) := o.2.2.2.2.1
abbrev oLns (o : D_api_Order) := o.2.2.2.2.2

def olineF (day : Int) (p : Option D_api_Line) (x : D_api_Line) : Int :=
 if ¬(1 ≤ x.1 ∧ x.1 ≤ 99999) then 1
 else if (p.any fun q => decide (x.1 ≤ q.1)) = true then 8
 else if isNm x.2.1 = false then 5
 else if qOk x.2.2.1 false = false then 1
 else if isNm x.2.2.2.1 = false then 5
 else if inR x.2.2.2.2.1 0 1000000000 4 = false then 1
 else if ¬(day ≤ x.2.2.2.2.2 ∧ x.2.2.2.2.2 ≤ 3652059) then 1
 else 0
def olinesGo (day : Int) : List D_api_Line → Option D_api_Line → Int
 | [], _ => 0
 | x :: r, p => if olineF day p x ≠ 0 then olineF day p x else olinesGo day r (some x)
def ordF (o : D_api_Order) : Int :=
 if isNm (oNum o) = false ∨ isNm (oBuy o) = false ∨ isNm (oSel o) = false then 5
 else if oBuy o = oSel o then 12
 else if ¬(1 ≤ oDay o ∧ oDay o ≤ 3652059) then 1
 else if ¬(0 ≤ oExt o ∧ oExt o ≤ 1000) then 1
 else if oLns o = [] then 9
 else if 500 < (oLns o).length then 2
 else olinesGo (oDay o) (oLns o) none

theorem qf_if (b : Bool) : ((if b = true then (0 : Int) else 1) != 0) = !b := by cases b <;> rfl

theorem order_lineFault_eq (o : D_api_Order) (i : Nat) (x : D_api_Line) (hi : (oLns o)[i]? = some x) (hl : (oLns o).length ≤ 500) : order_lineFault o (i : Int) = some (olineF (oDay o) (prevOf (oLns o) i) x, ()) := by
 have hlt : i < (oLns o).length := (List.getElem?_eq_some_iff.1 hi).1
 unfold order_lineFault
 rw [idx_get hi, Option.bind_some]
 simp only [kit_Outside_eq, out_not, kit_IsName_eq, order_QuantityFault_eq, order_PriceFault_eq, Option.bind_some, qf_if]
 have tail : ∀ (p : Option D_api_Line) (hp : (p.any fun q => decide (x.1 ≤ q.1)) = false) (h1 : 1 ≤ x.1 ∧ x.1 ≤ 99999),
   (bif !isNm x.2.1 then some (5, ()) else bif !qOk x.2.2.1 false then some ((if qOk x.2.2.1 false = true then 0 else 1), ()) else bif !isNm x.2.2.2.1 then some (5, ()) else
    bif !inR x.2.2.2.2.1 0 1000000000 4 then some ((if inR x.2.2.2.2.1 0 1000000000 4 = true then 0 else 1), ()) else bif !decide (oDay o ≤ x.2.2.2.2.2 ∧ x.2.2.2.2.2 ≤ 3652059) then some (1, ()) else some (0, ())) = some (olineF (oDay o) p x, ()) := fun p hp h1 => by
  unfold olineF
  rw [if_neg (show ¬¬(1 ≤ x.1 ∧ x.1 ≤ 99999) from fun h => h h1), if_neg (show ¬(p.any fun q => decide (x.1 ≤ q.1)) = true by rw [hp]; exact Bool.false_ne_true)]
  cases isNm x.2.1
  ·rfl
  ·cases qOk x.2.2.1 false
   ·rfl
   ·cases isNm x.2.2.2.1
    ·rfl
    ·cases inR x.2.2.2.2.1 0 1000000000 4
     ·rfl
     ·by_cases hd : oDay o ≤ x.2.2.2.2.2 ∧ x.2.2.2.2.2 ≤ 3652059
      ·simp [hd]
      ·simp [hd]
 by_cases h1 : 1 ≤ x.1 ∧ x.1 ≤ 99999
 ·rw [decide_eq_true h1, Bool.not_true, cond_false]
  cases i with
  | zero =>
   rw [decide_eq_false (show ¬((0 : Nat) : Int) > 0 by omega), cond_false]
   exact tail none rfl h1
  | succ j =>
   have hq : (oLns o)[j]? = some (oLns o)[j] := List.getElem?_eq_getElem (by omega)
   have e : w64 (((j + 1 : Nat) : Int) - 1) = (j : Int) := by rw [w64_id (by omega) (by omega)]; omega
   rw [decide_eq_true (show ((j + 1 : Nat) : Int) > 0 by omega), cond_true, e, idx_get hq, Option.bind_some]
   simp only [prevOf, hq]
   by_cases h2 : x.1 ≤ (oLns o)[j].1
   ·rw [decide_eq_true h2, Option.bind_some]
    have : olineF (oDay o) (some (oLns o)[j]) x = 8 := by
     unfold olineF
     rw [if_neg (show ¬¬(1 ≤ x.1 ∧ x.1 ≤ 99999) from fun h => h h1), if_pos (show (Option.any (fun q => decide (x.1 ≤ q.1)) (some (oLns o)[j])) = true from decide_eq_true h2)]
    rw [this]
    rfl
   ·rw [decide_eq_false h2, Option.bind_some]
    exact tail (some (oLns o)[j]) (by simp [h2]) h1
 ·rw [decide_eq_false h1, Bool.not_false, cond_true]
  unfold olineF
  rw [if_pos h1]

theorem olinesGo_forL (a0 : List D_api_Line) (day : Int) : ∀ (r : List D_api_Line) (i : Nat) (s : Unit), a0.drop i = r →
  forL (fun (_ : Unit) i y k => if olineF day (prevOf a0 i) y ≠ 0 then some (Sum.inl (olineF day (prevOf a0 i) y, ())) else k ()) (fun _ => (some (Sum.inr ()) : Option order_CheckOrder_r12)) r i s = fres (olinesGo day r (prevOf a0 i))
 | [], _, _, _ => by simp [forL, olinesGo, fres]
 | y :: r, i, s, hd => by
  have hy : a0[i]? = some y := by
   have := congrArg (·[0]?) hd
   simpa [List.getElem?_drop] using this
  have hr : a0.drop (i + 1) = r := by
   have := congrArg List.tail hd
   simpa [List.tail_drop] using this
  have hp : prevOf a0 (i + 1) = some y := hy
  have ih := olinesGo_forL a0 day r (i + 1) () hr
  rw [hp] at ih
  by_cases hf : olineF day (prevOf a0 i) y = 0
  ·have e0 : ¬olineF day (prevOf a0 i) y ≠ 0 := fun h => h hf
   rw [show olinesGo day (y :: r) (prevOf a0 i) = olinesGo day r (some y) by rw [olinesGo, if_neg e0], ← ih]
   show (if olineF day (prevOf a0 i) y ≠ 0 then _ else _) = _
   rw [if_neg e0]
  ·rw [show olinesGo day (y :: r) (prevOf a0 i) = olineF day (prevOf a0 i) y by rw [olinesGo, if_pos hf], fres_ne hf]
   show (if olineF day (prevOf a0 i) y ≠ 0 then _ else _) = _
   rw [if_pos hf]

theorem order_CheckOrder_eq (o : D_api_Order) : order_CheckOrder o = some (ordF o, ()) := by
 unfold order_CheckOrder ordF
 simp only [kit_IsName_eq, kit_IsDay_eq, kit_Outside_eq, out_not, Option.bind_some]
 cases h1 : isNm o.1
 ·simp [oNum, h1]
 cases h2 : isNm o.2.1
 ·simp [oNum, oBuy, h1, h2]
 cases h3 : isNm o.2.2.1
 ·simp [oNum, oBuy, oSel, h1, h2, h3]
 rw [if_neg (by simp [oNum, oBuy, oSel, h1, h2, h3])]
 simp only [Bool.not_true, cond_false]
 by_cases h4 : o.2.1 = o.2.2.1
 ·rw [if_pos h4, show (o.2.1 == o.2.2.1) = true by simp [h4], cond_true]
 rw [if_neg h4, show (o.2.1 == o.2.2.1) = false by simp [h4], cond_false]
 by_cases h5 : 1 ≤ o.2.2.2.1 ∧ o.2.2.2.1 ≤ 3652059
 ·rw [if_neg (by simp [oDay, h5]), decide_eq_true h5, Bool.not_true, cond_false]
  by_cases h6 : 0 ≤ o.2.2.2.2.1 ∧ o.2.2.2.2.1 ≤ 1000
  ·rw [if_neg (by simp [oExt, h6]), decide_eq_true h6, Bool.not_true, cond_false]
   by_cases h7 : o.2.2.2.2.2 = []
   ·rw [if_pos h7, h7]; rfl
   ·have h7' : o.2.2.2.2.2.length ≠ 0 := fun e => h7 (List.eq_nil_of_length_eq_zero e)
    rw [if_neg h7, beq_of_ne (show (o.2.2.2.2.2.length : Int) ≠ 0 by omega), cond_false]
    by_cases h8 : 500 < o.2.2.2.2.2.length
    ·rw [if_pos h8, decide_eq_true (by omega), cond_true]
    ·rw [if_neg h8, decide_eq_false (by omega), cond_false]
     have := iter_for (f := order_CheckOrder_b12) (fun (_ : Unit) (i : Nat) => (((o.2.2.2.2.2.length : Int), (i : Int), o.1, o.2.1, o.2.2.1, o.2.2.2.1, o.2.2.2.2.1, o.2.2.2.2.2, ()) : order_CheckOrder_x12)) o.2.2.2.2.2
      (fun (_ : Unit) i y k => if olineF (oDay o) (prevOf o.2.2.2.2.2 i) y ≠ 0 then some (Sum.inl (olineF (oDay o) (prevOf o.2.2.2.2.2 i) y, ())) else k ()) (fun _ => some (Sum.inr ()))
      (fun s i y again hy => by
       have hlt : i < o.2.2.2.2.2.length := (List.getElem?_eq_some_iff.1 hy).1
       unfold order_CheckOrder_b12
       dsimp only
       rw [decide_eq_true (by omega), cond_true]
       have := order_lineFault_eq o i y hy (by show o.2.2.2.2.2.length ≤ 500; omega)
       rw [show ((o.1, o.2.1, o.2.2.1, o.2.2.2.1, o.2.2.2.2.1, o.2.2.2.2.2) : D_api_Order) = o from rfl, this, Option.bind_some]
       dsimp only
       by_cases hf : olineF (oDay o) (prevOf o.2.2.2.2.2 i) y = 0
       ·rw [if_neg (by simp [hf]), show (olineF (oDay o) (prevOf (oLns o) i) y != 0) = false by simp [hf], cond_false, w64_id (by omega) (by omega)]
        rfl
       ·rw [if_pos hf, show (olineF (oDay o) (prevOf (oLns o) i) y != 0) = true by simp [hf], cond_true]) (fun s again => by
       unfold order_CheckOrder_b12
       dsimp only
       rw [decide_eq_false (show ¬((o.2.2.2.2.2.length : Int) < (o.2.2.2.2.2.length : Int)) by omega)]; rfl) ()
     refine (congrArg (fun z => joinB (β := (Int × Unit)) (γ := Unit) z fun _ => some (0, ())) (this _ (by omega))).trans ?_
     rw [olinesGo_forL o.2.2.2.2.2 (oDay o) o.2.2.2.2.2 0 () rfl]
     simp only [prevOf]
     by_cases h : olinesGo (oDay o) o.2.2.2.2.2 none = 0
     ·rw [fres_zero h, h]; rfl
     ·rw [fres_ne h]; rfl
  ·rw [if_pos h6, decide_eq_false h6]; rfl
 ·rw [if_pos h5, decide_eq_false h5]; rfl

end Go.Md

namespace Go.Md
open Go.Dn

structure LineS where
 no : Int
 art : List UInt8
 unit : List UInt8
 ord : Int
 shp : Int
 rcv : Int
 ret : Int
 price : D_api_Decimal
 due : Int
 wish : Int
 ono : Int
 oq : Int
 ount : Int

abbrev LineS.tup (x : LineS) : D_order_line := (x.no, x.art, x.unit, x.ord, x.shp, x.rcv, x.ret, x.price, x.due, x.wish, x.ono, x.oq, x.ount)
def LineS.opn (x : LineS) : Int := if x.ord - x.shp + x.ret > 0 then x.ord - x.shp + x.ret else 0

structure LOk (x : LineS) : Prop where
 ret0 : 0 ≤ x.ret
 retr : x.ret ≤ x.rcv
 rcvs : x.rcv ≤ x.shp
 shp1 : x.shp ≤ 1000000000000000
 ord0 : 0 ≤ x.ord
 ord1 : x.ord ≤ 1000000000000
 off : x.ono ≠ 0 → 0 < x.oq ∧ x.oq + x.shp - x.ret ≤ x.ord

def findGo (n : Int) (i : Nat) : List LineS → Option Nat
 | [] => none
 | x :: r => if n = x.no then some i else findGo n (i + 1) r
abbrev findL (n : Int) (A : List LineS) : Option Nat := findGo n 0 A

theorem ibeq_self (n : Int) : ibeq n n = true := by simp [ibeq]
theorem ibeq_ne {n a : Int} (h : n ≠ a) : ibeq n a = false := by simp [ibeq, h]
end Go.Md

namespace Go.Md
open Go.Dn

abbrev dKind (d : D_api_Deed) := d.2.2.2.1
abbrev dLine (d : D_api_Deed) := d.2.2.2.2.1
abbrev dUntil (d : D_api_Deed) := d.2.2.2.2.2.2.2.2.2.1
def wishDeed (l : List D_api_Deed) (x : LineS) : D_api_Deed := l.getD x.wish.toNat (0, 0, 0, 0, 0, [], (0, 0), [], (0, 0), 0, 0)
variable {o : D_api_Order} {l : List D_api_Deed} {m : List (Int × Option Nat)} {ref : List D_api_Decimal} {pts : List D_api_Point} {wt : Int} {A : List LineS} {k : Nat} {x : LineS}

structure WOk (l : List D_api_Deed) (x : LineS) : Prop where
 low : -1 ≤ x.wish
 kind : 0 ≤ x.wish → ∃ d, l[x.wish.toNat]? = some d ∧ dKind d ≤ 4

end Go.Md

namespace Go.Md
open Go.Dn

structure Sound (l : List D_api_Deed) (A : List LineS) : Prop where
 line : ∀ x, x ∈ A → LOk x ∧ WOk l x

variable {o : D_api_Order} {l : List D_api_Deed} {ref : List D_api_Decimal} {pts : List D_api_Point} {wt : Int} {A : List LineS}

end Go.Md

namespace Go.Md
open Go.Dn

variable {o : D_api_Order} {l : List D_api_Deed} {ref : List D_api_Decimal} {pts : List D_api_Point} {wt : Int} {A : List LineS}

end Go.Md
