/-
 Plain facts: deeds and orders checked; what a deed does with a line. No condition.
-/
import Derived.Test.YtcoofjaonlccjaaGreatDoorUo
import Derived.Test.YtcoofjaonlccjaaGreatDoorUr
set_option linter.all false
namespace Go.Md
open Go.Dn

theorem order_isSellers_eq (k : Int) : order_isSellers k = some (decide (k = 5 ∨ k = 6 ∨ k = 7 ∨ k = 9), ()) := by
 unfold order_isSellers
 by_cases h5 : k = 5
 ·subst h5; rfl
 by_cases h6 : k = 6
 ·subst h6; rfl
 by_cases h7 : k = 7
 ·subst h7; rfl
 by_cases h9 : k = 9
 ·subst h9; rfl
 have e5 : (k == 5) = false := by simp [h5]
 have e6 : (k == 6) = false := by simp [h6]
 have e7 : (k == 7) = false := by simp [h7]
 have e9 : (k == 9) = false := by simp [h9]
 simp only [e5, e6, e7, e9, cond_false]
 simp [h5, h6, h7, h9]

def usA (k : Int) : Bool := decide (k = 1)
def usQ (k : Int) : Bool := decide (k ≠ 3 ∧ k ≠ 4 ∧ k ≠ 5 ∧ k ≠ 6 ∧ k ≠ 8)
def usP (k : Int) : Bool := decide (k = 1 ∨ k = 4)
def usU (k : Int) : Bool := decide (k = 1 ∨ k = 3 ∨ k = 7)
def usT (k : Int) : Bool := decide (k = 5 ∨ k = 6 ∨ k = 8)
theorem order_usesOf_eq (k : Int) : order_usesOf k = some ((usA k, usQ k, usA k, usP k, usU k, usT k), ()) := by
 unfold order_usesOf
 by_cases h1 : k = 1
 ·subst h1; rfl
 by_cases h3 : k = 3
 ·subst h3; rfl
 by_cases h4 : k = 4
 ·subst h4; rfl
 by_cases h5 : k = 5
 ·subst h5; rfl
 by_cases h6 : k = 6
 ·subst h6; rfl
 by_cases h7 : k = 7
 ·subst h7; rfl
 by_cases h8 : k = 8
 ·subst h8; rfl
 have e1 : (k == 1) = false := by simp [h1]
 have e3 : (k == 3) = false := by simp [h3]
 have e4 : (k == 4) = false := by simp [h4]
 have e5 : (k == 5) = false := by simp [h5]
 have e6 : (k == 6) = false := by simp [h6]
 have e8 : (k == 8) = false := by simp [h8]
 have e7 : (k == 7) = false := by simp [h7]
 simp only [e1, e3, e4, e5, e6, e7, e8, cond_false]
 simp [h1, h3, h4, h5, h6, h7, h8, usA, usQ, usP, usU, usT]

def isDay (n : Int) : Bool := decide (1 ≤ n ∧ n ≤ 3652059)
def inTo (n : Int) : Bool := decide (1 ≤ n ∧ n ≤ 2000)
def usedFU (ua uq up uu ut k2 : Bool) (art : List UInt8) (q : D_api_Decimal) (unit : List UInt8) (p : D_api_Decimal) (un to : Int) : Int :=
 bif uq && !qOk q k2 then 1
 else bif up && !inR p 0 1000000000 4 then 1
 else bif uu && !isDay un then 1
 else bif ua && (!isNm art || !isNm unit) then 5
 else bif ut && !inTo to then 1
 else bif (!ua && !(art == [])) || ((!uq && !(q.1 == 0 && q.2 == 0)) || ((!ua && !(unit == [])) || ((!up && !(p.1 == 0 && p.2 == 0)) || ((!uu && un != 0) || (!ut && to != 0))))) then 3
 else 0
def usedF (d : D_api_Deed) : Int :=
 usedFU (usA d.2.2.2.1) (usQ d.2.2.2.1) (usP d.2.2.2.1) (usU d.2.2.2.1) (usT d.2.2.2.1) (d.2.2.2.1 == 2) d.2.2.2.2.2.1 d.2.2.2.2.2.2.1 d.2.2.2.2.2.2.2.1 d.2.2.2.2.2.2.2.2.1 d.2.2.2.2.2.2.2.2.2.1 d.2.2.2.2.2.2.2.2.2.2

theorem kit_IsDay_eq' (n : Int) : kit_IsDay n = some (isDay n, ()) := kit_IsDay_eq n
theorem outTo_eq (n : Int) : kit_Outside n 1 2000 = some (!inTo n, ()) := by
 rw [kit_Outside_eq]
 congr 2
 unfold inTo
 by_cases h1 : 1 ≤ n <;> by_cases h2 : n ≤ 2000 <;> simp [h1, h2] <;> omega

theorem order_usedFault_eq (d : D_api_Deed) : order_usedFault d = some (usedF d, ()) := by
 obtain ⟨day, byy, no, k, line, art, ⟨q1, q2⟩, unit, ⟨p1, p2⟩, un, to⟩ := d
 unfold order_usedFault usedF
 dsimp only
 rw [order_usesOf_eq, Option.bind_some]
 dsimp only
 rw [order_QuantityFault_eq]
 simp only [order_PriceFault_eq, kit_IsDay_eq', kit_IsName_eq, outTo_eq, Option.bind_some]
 generalize usA k = ua
 generalize usQ k = uq
 generalize usP k = up
 generalize usU k = uu
 generalize usT k = ut
 generalize (k == 2) = k2
 unfold usedFU
 generalize qOk (q1, q2) k2 = b1
 have step1 : ∀ (A : Option ((Int × Unit) ⊕ (Int × Int × Int × Int × Int × (List UInt8) × Int × Int × (List UInt8) × Int × Int × Int × Int × Bool × Bool × Bool × Bool × Bool × Bool × Unit))) (v : Int × Int × Int × Int × Int × (List UInt8) × Int × Int × (List UInt8) × Int × Int × Int × Int × Bool × Bool × Bool × Bool × Bool × Bool × Unit) (K : (Int × Int × Int × Int × Int × (List UInt8) × Int × Int × (List UInt8) × Int × Int × Int × Int × Bool × Bool × Bool × Bool × Bool × Bool × Unit) → Option (Int × Unit)),
   A = some (.inr v) → joinB A K = K v := fun A v K h => by rw [h]; rfl
 cases uq
 ·refine Eq.trans (step1 _ _ _ (by exact rfl)) ?_
  cases up
  ·refine Eq.trans (step1 _ _ _ (by exact rfl)) ?_
   dsimp only
   generalize isDay un = b3
   generalize isNm art = b4
   generalize isNm unit = b5
   generalize inTo to = b6
   generalize (art == []) = c1
   generalize (q1 == 0) = c2
   generalize (q2 == 0) = c3
   generalize (unit == []) = c4
   generalize (p1 == 0) = c5
   generalize (p2 == 0) = c6
   generalize (un != 0) = c7
   generalize (to != 0) = c8
   cases uu
   ·cases ua
    ·cases ut
     ·cases c1 <;> first | rfl | (cases c4 <;> first | rfl | (cases c7 <;> first | rfl | (cases c8 <;> first | rfl | (cases c2 <;> first | rfl | (cases c3 <;> first | rfl | (cases c5 <;> first | rfl | (cases c6 <;> rfl)))))))
     ·cases b6
      ·rfl
      ·cases c1 <;> first | rfl | (cases c4 <;> first | rfl | (cases c7 <;> first | rfl | (cases c8 <;> first | rfl | (cases c2 <;> first | rfl | (cases c3 <;> first | rfl | (cases c5 <;> first | rfl | (cases c6 <;> rfl)))))))
    ·cases b4
     ·rfl
     ·cases b5
      ·rfl
      ·cases ut
       ·cases c1 <;> first | rfl | (cases c4 <;> first | rfl | (cases c7 <;> first | rfl | (cases c8 <;> first | rfl | (cases c2 <;> first | rfl | (cases c3 <;> first | rfl | (cases c5 <;> first | rfl | (cases c6 <;> rfl)))))))
       ·cases b6
        ·rfl
        ·cases c1 <;> first | rfl | (cases c4 <;> first | rfl | (cases c7 <;> first | rfl | (cases c8 <;> first | rfl | (cases c2 <;> first | rfl | (cases c3 <;> first | rfl | (cases c5 <;> first | rfl | (cases c6 <;> rfl)))))))
   ·cases b3
    ·rfl
    ·cases ua
     ·cases ut
      ·cases c1 <;> first | rfl | (cases c4 <;> first | rfl | (cases c7 <;> first | rfl | (cases c8 <;> first | rfl | (cases c2 <;> first | rfl | (cases c3 <;> first | rfl | (cases c5 <;> first | rfl | (cases c6 <;> rfl)))))))
      ·cases b6
       ·rfl
       ·cases c1 <;> first | rfl | (cases c4 <;> first | rfl | (cases c7 <;> first | rfl | (cases c8 <;> first | rfl | (cases c2 <;> first | rfl | (cases c3 <;> first | rfl | (cases c5 <;> first | rfl | (cases c6 <;> rfl)))))))
     ·cases b4
      ·rfl
      ·cases b5
       ·rfl
       ·cases ut
        ·cases c1 <;> first | rfl | (cases c4 <;> first | rfl | (cases c7 <;> first | rfl | (cases c8 <;> first | rfl | (cases c2 <;> first | rfl | (cases c3 <;> first | rfl | (cases c5 <;> first | rfl | (cases c6 <;> rfl)))))))
        ·cases b6
         ·rfl
         ·cases c1 <;> first | rfl | (cases c4 <;> first | rfl | (cases c7 <;> first | rfl | (cases c8 <;> first | rfl | (cases c2 <;> first | rfl | (cases c3 <;> first | rfl | (cases c5 <;> first | rfl | (cases c6 <;> rfl)))))))
  ·dsimp only
   generalize inR (p1, p2) 0 1000000000 4 = b2
   cases b2
   ·rfl
   ·refine Eq.trans (step1 _ _ _ (by exact rfl)) ?_
    dsimp only
    generalize isDay un = b3
    generalize isNm art = b4
    generalize isNm unit = b5
    generalize inTo to = b6
    generalize (art == []) = c1
    generalize (q1 == 0) = c2
    generalize (q2 == 0) = c3
    generalize (unit == []) = c4
    generalize (p1 == 0) = c5
    generalize (p2 == 0) = c6
    generalize (un != 0) = c7
    generalize (to != 0) = c8
    cases uu
    ·cases ua
     ·cases ut
      ·cases c1 <;> first | rfl | (cases c4 <;> first | rfl | (cases c7 <;> first | rfl | (cases c8 <;> first | rfl | (cases c2 <;> first | rfl | (cases c3 <;> first | rfl | (cases c5 <;> first | rfl | (cases c6 <;> rfl)))))))
      ·cases b6
       ·rfl
       ·cases c1 <;> first | rfl | (cases c4 <;> first | rfl | (cases c7 <;> first | rfl | (cases c8 <;> first | rfl | (cases c2 <;> first | rfl | (cases c3 <;> first | rfl | (cases c5 <;> first | rfl | (cases c6 <;> rfl)))))))
     ·cases b4
      ·rfl
      ·cases b5
       ·rfl
       ·cases ut
        ·cases c1 <;> first | rfl | (cases c4 <;> first | rfl | (cases c7 <;> first | rfl | (cases c8 <;> first | rfl | (cases c2 <;> first | rfl | (cases c3 <;> first | rfl | (cases c5 <;> first | rfl | (cases c6 <;> rfl)))))))
        ·cases b6
         ·rfl
         ·cases c1 <;> first | rfl | (cases c4 <;> first | rfl | (cases c7 <;> first | rfl | (cases c8 <;> first | rfl | (cases c2 <;> first | rfl | (cases c3 <;> first | rfl | (cases c5 <;> first | rfl | (cases c6 <;> rfl)))))))
    ·cases b3
     ·rfl
     ·cases ua
      ·cases ut
       ·cases c1 <;> first | rfl | (cases c4 <;> first | rfl | (cases c7 <;> first | rfl | (cases c8 <;> first | rfl | (cases c2 <;> first | rfl | (cases c3 <;> first | rfl | (cases c5 <;> first | rfl | (cases c6 <;> rfl)))))))
       ·cases b6
        ·rfl
        ·cases c1 <;> first | rfl | (cases c4 <;> first | rfl | (cases c7 <;> first | rfl | (cases c8 <;> first | rfl | (cases c2 <;> first | rfl | (cases c3 <;> first | rfl | (cases c5 <;> first | rfl | (cases c6 <;> rfl)))))))
      ·cases b4
       ·rfl
       ·cases b5
        ·rfl
        ·cases ut
         ·cases c1 <;> first | rfl | (cases c4 <;> first | rfl | (cases c7 <;> first | rfl | (cases c8 <;> first | rfl | (cases c2 <;> first | rfl | (cases c3 <;> first | rfl | (cases c5 <;> first | rfl | (cases c6 <;> rfl)))))))
         ·cases b6
          ·rfl
          ·cases c1 <;> first | rfl | (cases c4 <;> first | rfl | (cases c7 <;> first | rfl | (cases c8 <;> first | rfl | (cases c2 <;> first | rfl | (cases c3 <;> first | rfl | (cases c5 <;> first | rfl | (cases c6 <;> rfl)))))))
 ·cases b1
  ·rfl
  ·refine Eq.trans (step1 _ _ _ (by exact rfl)) ?_
   cases up
   ·refine Eq.trans (step1 _ _ _ (by exact rfl)) ?_
    dsimp only
    generalize isDay un = b3
    generalize isNm art = b4
    generalize isNm unit = b5
    generalize inTo to = b6
    generalize (art == []) = c1
    generalize (q1 == 0) = c2
    generalize (q2 == 0) = c3
    generalize (unit == []) = c4
    generalize (p1 == 0) = c5
    generalize (p2 == 0) = c6
    generalize (un != 0) = c7
    generalize (to != 0) = c8
    cases uu
    ·cases ua
     ·cases ut
      ·cases c1 <;> first | rfl | (cases c4 <;> first | rfl | (cases c7 <;> first | rfl | (cases c8 <;> first | rfl | (cases c2 <;> first | rfl | (cases c3 <;> first | rfl | (cases c5 <;> first | rfl | (cases c6 <;> rfl)))))))
      ·cases b6
       ·rfl
       ·cases c1 <;> first | rfl | (cases c4 <;> first | rfl | (cases c7 <;> first | rfl | (cases c8 <;> first | rfl | (cases c2 <;> first | rfl | (cases c3 <;> first | rfl | (cases c5 <;> first | rfl | (cases c6 <;> rfl)))))))
     ·cases b4
      ·rfl
      ·cases b5
       ·rfl
       ·cases ut
        ·cases c1 <;> first | rfl | (cases c4 <;> first | rfl | (cases c7 <;> first | rfl | (cases c8 <;> first | rfl | (cases c2 <;> first | rfl | (cases c3 <;> first | rfl | (cases c5 <;> first | rfl | (cases c6 <;> rfl)))))))
        ·cases b6
         ·rfl
         ·cases c1 <;> first | rfl | (cases c4 <;> first | rfl | (cases c7 <;> first | rfl | (cases c8 <;> first | rfl | (cases c2 <;> first | rfl | (cases c3 <;> first | rfl | (cases c5 <;> first | rfl | (cases c6 <;> rfl)))))))
    ·cases b3
     ·rfl
     ·cases ua
      ·cases ut
       ·cases c1 <;> first | rfl | (cases c4 <;> first | rfl | (cases c7 <;> first | rfl | (cases c8 <;> first | rfl | (cases c2 <;> first | rfl | (cases c3 <;> first | rfl | (cases c5 <;> first | rfl | (cases c6 <;> rfl)))))))
       ·cases b6
        ·rfl
        ·cases c1 <;> first | rfl | (cases c4 <;> first | rfl | (cases c7 <;> first | rfl | (cases c8 <;> first | rfl | (cases c2 <;> first | rfl | (cases c3 <;> first | rfl | (cases c5 <;> first | rfl | (cases c6 <;> rfl)))))))
      ·cases b4
       ·rfl
       ·cases b5
        ·rfl
        ·cases ut
         ·cases c1 <;> first | rfl | (cases c4 <;> first | rfl | (cases c7 <;> first | rfl | (cases c8 <;> first | rfl | (cases c2 <;> first | rfl | (cases c3 <;> first | rfl | (cases c5 <;> first | rfl | (cases c6 <;> rfl)))))))
         ·cases b6
          ·rfl
          ·cases c1 <;> first | rfl | (cases c4 <;> first | rfl | (cases c7 <;> first | rfl | (cases c8 <;> first | rfl | (cases c2 <;> first | rfl | (cases c3 <;> first | rfl | (cases c5 <;> first | rfl | (cases c6 <;> rfl)))))))
   ·dsimp only
    generalize inR (p1, p2) 0 1000000000 4 = b2
    cases b2
    ·rfl
    ·refine Eq.trans (step1 _ _ _ (by exact rfl)) ?_
     dsimp only
     generalize isDay un = b3
     generalize isNm art = b4
     generalize isNm unit = b5
     generalize inTo to = b6
     generalize (art == []) = c1
     generalize (q1 == 0) = c2
     generalize (q2 == 0) = c3
     generalize (unit == []) = c4
     generalize (p1 == 0) = c5
     generalize (p2 == 0) = c6
     generalize (un != 0) = c7
     generalize (to != 0) = c8
     cases uu
     ·cases ua
      ·cases ut
       ·cases c1 <;> first | rfl | (cases c4 <;> first | rfl | (cases c7 <;> first | rfl | (cases c8 <;> first | rfl | (cases c2 <;> first | rfl | (cases c3 <;> first | rfl | (cases c5 <;> first | rfl | (cases c6 <;> rfl)))))))
       ·cases b6
        ·rfl
        ·cases c1 <;> first | rfl | (cases c4 <;> first | rfl | (cases c7 <;> first | rfl | (cases c8 <;> first | rfl | (cases c2 <;> first | rfl | (cases c3 <;> first | rfl | (cases c5 <;> first | rfl | (cases c6 <;> rfl)))))))
      ·cases b4
       ·rfl
       ·cases b5
        ·rfl
        ·cases ut
         ·cases c1 <;> first | rfl | (cases c4 <;> first | rfl | (cases c7 <;> first | rfl | (cases c8 <;> first | rfl | (cases c2 <;> first | rfl | (cases c3 <;> first | rfl | (cases c5 <;> first | rfl | (cases c6 <;> rfl)))))))
         ·cases b6
          ·rfl
          ·cases c1 <;> first | rfl | (cases c4 <;> first | rfl | (cases c7 <;> first | rfl | (cases c8 <;> first | rfl | (cases c2 <;> first | rfl | (cases c3 <;> first | rfl | (cases c5 <;> first | rfl | (cases c6 <;> rfl)))))))
     ·cases b3
      ·rfl
      ·cases ua
       ·cases ut
        ·cases c1 <;> first | rfl | (cases c4 <;> first | rfl | (cases c7 <;> first | rfl | (cases c8 <;> first | rfl | (cases c2 <;> first | rfl | (cases c3 <;> first | rfl | (cases c5 <;> first | rfl | (cases c6 <;> rfl)))))))
        ·cases b6
         ·rfl
         ·cases c1 <;> first | rfl | (cases c4 <;> first | rfl | (cases c7 <;> first | rfl | (cases c8 <;> first | rfl | (cases c2 <;> first | rfl | (cases c3 <;> first | rfl | (cases c5 <;> first | rfl | (cases c6 <;> rfl)))))))
       ·cases b4
        ·rfl
        ·cases b5
         ·rfl
         ·cases ut
          ·cases c1 <;> first | rfl | (cases c4 <;> first | rfl | (cases c7 <;> first | rfl | (cases c8 <;> first | rfl | (cases c2 <;> first | rfl | (cases c3 <;> first | rfl | (cases c5 <;> first | rfl | (cases c6 <;> rfl)))))))
          ·cases b6
           ·rfl
           ·cases c1 <;> first | rfl | (cases c4 <;> first | rfl | (cases c7 <;> first | rfl | (cases c8 <;> first | rfl | (cases c2 <;> first | rfl | (cases c3 <;> first | rfl | (cases c5 <;> first | rfl | (cases c6 <;> rfl)))))))

def deedF (d : D_api_Deed) : Int :=
 if ¬(1 ≤ d.1 ∧ d.1 ≤ 3652059) then 1
 else if ¬(1 ≤ d.2.1 ∧ d.2.1 ≤ 2) then 4
 else if ¬(1 ≤ d.2.2.1 ∧ d.2.2.1 ≤ 2000) then 1
 else if ¬(1 ≤ d.2.2.2.1 ∧ d.2.2.2.1 ≤ 11) then 4
 else if ¬((d.2.2.2.1 = 5 ∨ d.2.2.2.1 = 6 ∨ d.2.2.2.1 = 7 ∨ d.2.2.2.1 = 9) ↔ d.2.1 = 2) then 4
 else if ¬(1 ≤ d.2.2.2.2.1 ∧ d.2.2.2.2.1 ≤ 99999) then 1
 else usedF d

theorem out_not (n a b : Int) : decide (n < a ∨ b < n) = !decide (a ≤ n ∧ n ≤ b) := by
 by_cases h1 : a ≤ n <;> by_cases h2 : n ≤ b <;> simp [h1, h2] <;> omega

theorem order_deedFault_eq (d : D_api_Deed) : order_deedFault d = some (deedF d, ()) := by
 unfold order_deedFault deedF
 simp only [kit_IsDay_eq, kit_Outside_eq, out_not, order_isSellers_eq, order_usedFault_eq, Option.bind_some]
 by_cases h1 : 1 ≤ d.1 ∧ d.1 ≤ 3652059
 ·by_cases h2 : 1 ≤ d.2.1 ∧ d.2.1 ≤ 2
  ·by_cases h3 : 1 ≤ d.2.2.1 ∧ d.2.2.1 ≤ 2000
   ·by_cases h4 : 1 ≤ d.2.2.2.1 ∧ d.2.2.2.1 ≤ 11
    ·by_cases h5 : (d.2.2.2.1 = 5 ∨ d.2.2.2.1 = 6 ∨ d.2.2.2.1 = 7 ∨ d.2.2.2.1 = 9) ↔ d.2.1 = 2
     ·have e5 : (decide (d.2.2.2.1 = 5 ∨ d.2.2.2.1 = 6 ∨ d.2.2.2.1 = 7 ∨ d.2.2.2.1 = 9) == (d.2.1 == 2)) = true := by
       by_cases h6 : d.2.1 = 2
       ·simp [h6, h5.2 h6]
       ·have : ¬(d.2.2.2.1 = 5 ∨ d.2.2.2.1 = 6 ∨ d.2.2.2.1 = 7 ∨ d.2.2.2.1 = 9) := fun h => h6 (h5.1 h)
        simp [h6, this]
      by_cases h6 : 1 ≤ d.2.2.2.2.1 ∧ d.2.2.2.2.1 ≤ 99999
      ·rw [e5]
       simp only [h1, h2, h3, h4, h5, h6, iff_self, decide_true, Bool.not_true, cond_false, not_true, if_false, and_self]
      ·rw [e5]
       simp only [h1, h2, h3, h4, h5, h6, iff_self, decide_true, decide_false, Bool.not_true, Bool.not_false, cond_false, cond_true, not_true, not_false_eq_true, if_false, if_true, and_self]
     ·have e5 : (decide (d.2.2.2.1 = 5 ∨ d.2.2.2.1 = 6 ∨ d.2.2.2.1 = 7 ∨ d.2.2.2.1 = 9) == (d.2.1 == 2)) = false := by
       by_cases h6 : d.2.1 = 2
       ·have : ¬(d.2.2.2.1 = 5 ∨ d.2.2.2.1 = 6 ∨ d.2.2.2.1 = 7 ∨ d.2.2.2.1 = 9) := fun h => h5 ⟨fun _ => h6, fun _ => h⟩
        simp [h6, this]
       ·have : (d.2.2.2.1 = 5 ∨ d.2.2.2.1 = 6 ∨ d.2.2.2.1 = 7 ∨ d.2.2.2.1 = 9) := Classical.byContradiction fun h => h5 ⟨fun h' => absurd h' h, fun h' => absurd h' h6⟩
        simp [h6, this]
      rw [e5]
      simp only [h1, h2, h3, h4, h5, decide_true, Bool.not_true, Bool.not_false, cond_false, cond_true, not_true, not_false_eq_true, if_false, if_true, and_self]
    ·simp only [h1, h2, h3, h4, decide_true, decide_false, Bool.not_true, Bool.not_false, cond_false, cond_true, not_true, not_false_eq_true, if_false, if_true, and_self]
   ·simp only [h1, h2, h3, decide_true, decide_false, Bool.not_true, Bool.not_false, cond_false, cond_true, not_true, not_false_eq_true, if_false, if_true, and_self]
  ·simp only [h1, h2, decide_true, decide_false, Bool.not_true, Bool.not_false, cond_false, cond_true, not_true, not_false_eq_true, if_false, if_true, and_self]
 ·simp only [h1, decide_false, Bool.not_false, cond_true, not_false_eq_true, if_true]

theorem deedF_zero {d : D_api_Deed} (h : deedF d = 0) : (1 ≤ d.1 ∧ d.1 ≤ 3652059) ∧ (1 ≤ d.2.1 ∧ d.2.1 ≤ 2) ∧ (1 ≤ d.2.2.1 ∧ d.2.2.1 ≤ 2000) ∧ (1 ≤ d.2.2.2.1 ∧ d.2.2.2.1 ≤ 11) ∧
  ((d.2.2.2.1 = 5 ∨ d.2.2.2.1 = 6 ∨ d.2.2.2.1 = 7 ∨ d.2.2.2.1 = 9) ↔ d.2.1 = 2) ∧ (1 ≤ d.2.2.2.2.1 ∧ d.2.2.2.2.1 ≤ 99999) ∧ usedF d = 0 := by
 unfold deedF at h
 split at h
 ·cases h
 ·rename_i h1
  split at h
  ·cases h
  ·rename_i h2
   split at h
   ·cases h
   ·rename_i h3
    split at h
    ·cases h
    ·rename_i h4
     split at h
     ·cases h
     ·rename_i h5
      split at h
      ·cases h
      ·rename_i h6
       exact ⟨Classical.not_not.1 h1, Classical.not_not.1 h2, Classical.not_not.1 h3, Classical.not_not.1 h4, Classical.not_not.1 h5, Classical.not_not.1 h6, h⟩

end Go.Md

namespace Go.Md
open Go.Dn

def dCw (a b : D_api_Deed) : Int := if w64 (a.1 - b.1) ≠ 0 then w64 (a.1 - b.1) else if w64 (a.2.1 - b.2.1) ≠ 0 then w64 (a.2.1 - b.2.1) else w64 (a.2.2.1 - b.2.2.1)
theorem order_compareDeeds_w (a b : D_api_Deed) : order_compareDeeds a b = some (dCw a b, ()) := by
 unfold order_compareDeeds dCw
 generalize w64 (a.1 - b.1) = x
 generalize w64 (a.2.1 - b.2.1) = y
 generalize w64 (a.2.2.1 - b.2.2.1) = z
 simp only [List.length_cons, List.length_nil]
 have key : iter (X := order_compareDeeds_x2) (β := order_compareDeeds_r2) 8 (3, 0, [x, y, z], ()) order_compareDeeds_b2 = (bif x != 0 then some (Sum.inl (x, ())) else bif y != 0 then some (Sum.inl (y, ())) else bif z != 0 then some (Sum.inl (z, ())) else some (Sum.inr ())) := by kernel_rfl
 show joinB (β := (Int × Unit)) (γ := Unit) (iter 8 (3, 0, [x, y, z], ()) order_compareDeeds_b2) _ = _
 rw [key]
 by_cases hx : x = 0
 ·subst hx
  by_cases hy : y = 0
  ·subst hy
   by_cases hz : z = 0
   ·subst hz; rfl
   ·have : (z != 0) = true := by simp [hz]
    rw [this]; simp [joinB]
  ·have : (y != 0) = true := by simp [hy]
   rw [this]; simp [joinB, hy]
 ·have : (x != 0) = true := by simp [hx]
  rw [this]; simp [joinB, hx]

def deedsGo : List D_api_Deed → Option D_api_Deed → Int → Int → Int
 | [], _, _, _ => 0
 | d :: r, p, nb, ns =>
  if deedF d ≠ 0 then deedF d
  else if (p.any fun q => decide (0 ≤ dCw q d)) = true then 8
  else if d.2.1 = 1 then (if d.2.2.1 ≠ w64 (nb + 1) then 9 else deedsGo r (some d) d.2.2.1 ns)
  else (if d.2.2.1 ≠ w64 (ns + 1) then 9 else deedsGo r (some d) nb d.2.2.1)
def deedsF (l : List D_api_Deed) : Int := if 2000 < l.length then 2 else deedsGo l none 0 0

def prevOf {α : Type} (l : List α) : Nat → Option α
 | 0 => none
 | i + 1 => l[i]?
def dG (a0 : List D_api_Deed) (s : Int × Int × Int) (i : Nat) (y : D_api_Deed) (k : (Int × Int × Int) → Option order_CheckDeeds_r5) : Option order_CheckDeeds_r5 :=
 if deedF y ≠ 0 then some (Sum.inl (deedF y, ()))
 else if ((prevOf a0 i).any fun q => decide (0 ≤ dCw q y)) = true then some (Sum.inl (8, ()))
 else if y.2.1 = 1 then (if y.2.2.1 ≠ w64 (s.2.1 + 1) then some (Sum.inl (9, ())) else k (s.1, y.2.2.1, s.2.2))
 else (if y.2.2.1 ≠ w64 (s.2.2 + 1) then some (Sum.inl (9, ())) else k (s.1, s.2.1, y.2.2.1))

theorem bne_of_ne {a b : Int} (h : a ≠ b) : (a != b) = true := by simp [h]
theorem beq_of_ne {a b : Int} (h : a ≠ b) : (a == b) = false := by simp [h]

theorem idx_get {α : Type} {l : List α} {i : Nat} {y : α} (h : l[i]? = some y) : idx l (i : Int) = some y := by
 unfold idx
 rw [if_pos (Int.natCast_nonneg i)]
 exact h

theorem checkDeeds_step (a0 : List D_api_Deed) (hl : a0.length ≤ 2000) (s : Int × Int × Int) (i : Nat) (y : D_api_Deed) (again : order_CheckDeeds_x5 → Option order_CheckDeeds_r5) (hy : a0[i]? = some y) :
  order_CheckDeeds_b5 (a0, a0, (a0.length : Int), (i : Int), s.1, s.2.1, s.2.2, ()) again = dG a0 s i y fun s' => again (a0, a0, (a0.length : Int), ((i + 1 : Nat) : Int), s'.1, s'.2.1, s'.2.2, ()) := by
 have hi : i < a0.length := (List.getElem?_eq_some_iff.1 hy).1
 unfold order_CheckDeeds_b5 dG
 dsimp only
 rw [decide_eq_true (show (i : Int) < (a0.length : Int) by omega), cond_true, idx_get hy, Option.bind_some, order_deedFault_eq, Option.bind_some]
 dsimp only
 have hw : w64 ((i : Int) + 1) = ((i + 1 : Nat) : Int) := by rw [w64_id (by omega) (by omega)]; omega
 rw [hw]
 by_cases hf : deedF y = 0
 ·rw [hf, show ((0 : Int) != 0) = false from rfl, cond_false, if_neg (by simp)]
  obtain ⟨_, hby, _⟩ := deedF_zero hf
  have hprev' : (bif decide ((i : Int) > 0) then Option.bind (idx a0 (w64 ((i : Int) - 1))) fun y4 => Option.bind (order_compareDeeds y4 y) fun r5 => some (decide (r5.1 ≥ 0), ()) else some (false, ())) = some ((prevOf a0 i).any fun q => decide (0 ≤ dCw q y), ()) := by
   cases i with
   | zero => rfl
   | succ j =>
    have hj : j < a0.length := by omega
    have hq : a0[j]? = some a0[j] := List.getElem?_eq_getElem hj
    have e : w64 (((j + 1 : Nat) : Int) - 1) = (j : Int) := by rw [w64_id (by omega) (by omega)]; omega
    rw [decide_eq_true (by omega), cond_true, e, idx_get hq, Option.bind_some, order_compareDeeds_w, Option.bind_some]
    simp only [prevOf, hq, Option.any_some]
  rw [hprev', Option.bind_some]
  dsimp only
  cases ((prevOf a0 i).any fun q => decide (0 ≤ dCw q y)) with
  | true => rfl
  | false =>
   rw [cond_false, if_neg (by simp)]
   by_cases h1 : y.2.1 = 1
   ·rw [beq_of_ne (show y.2.1 ≠ 0 by omega), cond_false, show (y.2.1 == 1) = true by simp [h1], cond_true, if_pos h1]
    by_cases hn : y.2.2.1 = w64 (s.2.1 + 1)
    ·rw [show (y.2.2.1 != w64 (s.2.1 + 1)) = false by simp [hn], cond_false, if_neg (by simp [hn])]
     rfl
    ·rw [bne_of_ne hn, cond_true, if_pos hn]
   ·have h2 : y.2.1 = 2 := by omega
    rw [beq_of_ne (show y.2.1 ≠ 0 by omega), cond_false, beq_of_ne h1, cond_false, show (y.2.1 == 2) = true by simp [h2], cond_true, if_neg h1]
    by_cases hn : y.2.2.1 = w64 (s.2.2 + 1)
    ·rw [show (y.2.2.1 != w64 (s.2.2 + 1)) = false by simp [hn], cond_false, if_neg (by simp [hn])]
     rfl
    ·rw [bne_of_ne hn, cond_true, if_pos hn]
 ·rw [bne_of_ne hf, cond_true, if_pos hf]

def fres (f : Int) : Option ((Int × Unit) ⊕ Unit) := if f = 0 then some (Sum.inr ()) else some (Sum.inl (f, ()))
theorem fres_zero {f : Int} (h : f = 0) : fres f = some (Sum.inr ()) := if_pos h
theorem fres_ne {f : Int} (h : f ≠ 0) : fres f = some (Sum.inl (f, ())) := if_neg h

theorem deedsGo_forL (a0 : List D_api_Deed) : ∀ (r : List D_api_Deed) (i : Nat) (s : Int × Int × Int), a0.drop i = r →
  forL (dG a0) (fun _ => some (Sum.inr ())) r i s = fres (deedsGo r (prevOf a0 i) s.2.1 s.2.2)
 | [], _, _, _ => by simp [forL, deedsGo, fres]
 | y :: r, i, s, hd => by
  have hy : a0[i]? = some y := by
   have := congrArg (·[0]?) hd
   simpa [List.getElem?_drop] using this
  have hr : a0.drop (i + 1) = r := by
   have := congrArg List.tail hd
   simpa [List.tail_drop] using this
  have hp : prevOf a0 (i + 1) = some y := hy
  show dG a0 s i y (fun s' => forL (dG a0) (fun _ => some (Sum.inr ())) r (i + 1) s') = _
  rw [show (fun s' => forL (dG a0) (fun _ => some (Sum.inr ())) r (i + 1) s') = fun s' => fres (deedsGo r (prevOf a0 (i + 1)) s'.2.1 s'.2.2) from funext fun s' => deedsGo_forL a0 r (i + 1) s' hr, hp]
  unfold dG
  by_cases hf : deedF y = 0
  ·have e0 : ¬deedF y ≠ 0 := fun h => h hf
   rw [if_neg e0]
   by_cases ha : ((prevOf a0 i).any fun q => decide (0 ≤ dCw q y)) = true
   ·rw [if_pos ha, show deedsGo (y :: r) (prevOf a0 i) s.2.1 s.2.2 = 8 by simp only [deedsGo]; rw [if_neg e0, if_pos ha]]
    rfl
   ·rw [if_neg ha]
    by_cases h1 : y.2.1 = 1
    ·rw [if_pos h1]
     by_cases hn : y.2.2.1 ≠ w64 (s.2.1 + 1)
     ·rw [if_pos hn, show deedsGo (y :: r) (prevOf a0 i) s.2.1 s.2.2 = 9 by simp only [deedsGo]; rw [if_neg e0, if_neg ha, if_pos h1, if_pos hn]]
      rfl
     ·rw [if_neg hn, show deedsGo (y :: r) (prevOf a0 i) s.2.1 s.2.2 = deedsGo r (some y) y.2.2.1 s.2.2 by rw [deedsGo, if_neg e0, if_neg ha, if_pos h1, if_neg hn]]
    ·rw [if_neg h1]
     by_cases hn : y.2.2.1 ≠ w64 (s.2.2 + 1)
     ·rw [if_pos hn, show deedsGo (y :: r) (prevOf a0 i) s.2.1 s.2.2 = 9 by simp only [deedsGo]; rw [if_neg e0, if_neg ha, if_neg h1, if_pos hn]]
      rfl
     ·rw [if_neg hn, show deedsGo (y :: r) (prevOf a0 i) s.2.1 s.2.2 = deedsGo r (some y) s.2.1 y.2.2.1 by rw [deedsGo, if_neg e0, if_neg ha, if_neg h1, if_neg hn]]
  ·rw [if_pos hf, show deedsGo (y :: r) (prevOf a0 i) s.2.1 s.2.2 = deedF y by rw [deedsGo, if_pos hf], fres_ne hf]

theorem order_CheckDeeds_eq (l : List D_api_Deed) : order_CheckDeeds l = some (deedsF l, ()) := by
 unfold order_CheckDeeds deedsF
 by_cases hl : 2000 < l.length
 ·rw [decide_eq_true (show (l.length : Int) > 2000 by omega), cond_true, if_pos hl]
 ·rw [decide_eq_false (show ¬ (l.length : Int) > 2000 by omega), cond_false, if_neg hl]
  have := iter_for (f := order_CheckDeeds_b5) (fun (s : Int × Int × Int) (i : Nat) => ((l, l, (l.length : Int), (i : Int), s.1, s.2.1, s.2.2, ()) : order_CheckDeeds_x5)) l (dG l) (fun _ => some (Sum.inr ()))
   (fun s i y again hy => checkDeeds_step l (by omega) s i y again hy) (fun s again => by
    unfold order_CheckDeeds_b5
    dsimp only
    rw [decide_eq_false (by omega)]; rfl) (0, 0, 0)
  refine (congrArg (fun z => joinB (β := (Int × Unit)) (γ := Unit) z fun _ => some (0, ())) (this _ (by omega))).trans ?_
  rw [deedsGo_forL l l 0 (0, 0, 0) rfl]
  simp only [prevOf]
  by_cases h : deedsGo l none 0 0 = 0
  ·rw [fres_zero h, h]; rfl
  ·rw [fres_ne h]; rfl

theorem deedsGo_zero : ∀ {l : List D_api_Deed} {p : Option D_api_Deed} {nb ns : Int}, deedsGo l p nb ns = 0 → ∀ d, d ∈ l → deedF d = 0
 | [], _, _, _, _, _, h => by cases h
 | y :: r, p, nb, ns, h, d, hd => by
  simp only [deedsGo] at h
  by_cases hf : deedF y = 0
  ·rw [if_neg (by simp [hf])] at h
   rcases List.mem_cons.1 hd with rfl | hd
   ·exact hf
   ·split at h
    ·cases h
    ·split at h
     ·split at h
      ·cases h
      ·exact deedsGo_zero h d hd
     ·split at h
      ·cases h
      ·exact deedsGo_zero h d hd
  ·rw [if_pos hf] at h
   exact absurd h hf
theorem deedsF_zero {l : List D_api_Deed} (h : deedsF l = 0) : l.length ≤ 2000 ∧ ∀ d, d ∈ l → deedF d = 0 := by
 unfold deedsF at h
 split at h
 ·cases h
 ·rename_i hl
  exact ⟨by omega, deedsGo_zero h⟩

/-! ### orders -/

abbrev oNum (o : D_api_Order) := o.1
abbrev oBuy (o : D_api_Order) := o.2.1
abbrev oSel (o : D_api_Order) := o.2.2.1
abbrev oDay (o : D_api_Order) := o.2.2.2.1
abbrev oExt (o : D_api_Order) := o.2.2.2.2.1
abbrev oLns (o : D_api_Order) := o.2.2.2.2.2

def olineF (day : Int) (p : Option D_api_Line) (x : D_api_Line) : Int :=
 if ¬(1 ≤ x.1 ∧ x.1 ≤ 99999) then 1
 else if (p.any fun q => decide (x.1 ≤ q.1)) = true then 8
 else if isNm x.2.1 = false then 5
 else if qOk x.2.2.1 false = false then 1
 else if isNm x.2.2.2.1 = false then 5
 else if inR x.2.2.2.2.1 0 1000000000 4 = false then 1
 else if ¬(day ≤ x.2.2.2.2.2 ∧ x.2.2.2.2.2 ≤ 3652059) then 1
 else 0
def olinesGo (day : Int) : List D_api_Line → Option D_api_Line → Int
 | [], _ => 0
 | x :: r, p => if olineF day p x ≠ 0 then olineF day p x else olinesGo day r (some x)
def ordF (o : D_api_Order) : Int :=
 if isNm (oNum o) = false ∨ isNm (oBuy o) = false ∨ isNm (oSel o) = false then 5
 else if oBuy o = oSel o then 12
 else if ¬(1 ≤ oDay o ∧ oDay o ≤ 3652059) then 1
 else if ¬(0 ≤ oExt o ∧ oExt o ≤ 1000) then 1
 else if oLns o = [] then 9
 else if 500 < (oLns o).length then 2
 else olinesGo (oDay o) (oLns o) none

theorem qf_if (b : Bool) : ((if b = true then (0 : Int) else 1) != 0) = !b := by cases b <;> rfl

theorem order_lineFault_eq (o : D_api_Order) (i : Nat) (x : D_api_Line) (hi : (oLns o)[i]? = some x) (hl : (oLns o).length ≤ 500) : order_lineFault o (i : Int) = some (olineF (oDay o) (prevOf (oLns o) i) x, ()) := by
 have hlt : i < (oLns o).length := (List.getElem?_eq_some_iff.1 hi).1
 unfold order_lineFault
 rw [idx_get hi, Option.bind_some]
 simp only [kit_Outside_eq, out_not, kit_IsName_eq, order_QuantityFault_eq, order_PriceFault_eq, Option.bind_some, qf_if]
 have tail : ∀ (p : Option D_api_Line) (hp : (p.any fun q => decide (x.1 ≤ q.1)) = false) (h1 : 1 ≤ x.1 ∧ x.1 ≤ 99999),
   (bif !isNm x.2.1 then some (5, ()) else bif !qOk x.2.2.1 false then some ((if qOk x.2.2.1 false = true then 0 else 1), ()) else bif !isNm x.2.2.2.1 then some (5, ()) else
    bif !inR x.2.2.2.2.1 0 1000000000 4 then some ((if inR x.2.2.2.2.1 0 1000000000 4 = true then 0 else 1), ()) else bif !decide (oDay o ≤ x.2.2.2.2.2 ∧ x.2.2.2.2.2 ≤ 3652059) then some (1, ()) else some (0, ())) = some (olineF (oDay o) p x, ()) := fun p hp h1 => by
  unfold olineF
  rw [if_neg (show ¬¬(1 ≤ x.1 ∧ x.1 ≤ 99999) from fun h => h h1), if_neg (show ¬(p.any fun q => decide (x.1 ≤ q.1)) = true by rw [hp]; exact Bool.false_ne_true)]
  cases isNm x.2.1
  ·rfl
  ·cases qOk x.2.2.1 false
   ·rfl
   ·cases isNm x.2.2.2.1
    ·rfl
    ·cases inR x.2.2.2.2.1 0 1000000000 4
     ·rfl
     ·by_cases hd : oDay o ≤ x.2.2.2.2.2 ∧ x.2.2.2.2.2 ≤ 3652059
      ·simp [hd]
      ·simp [hd]
 by_cases h1 : 1 ≤ x.1 ∧ x.1 ≤ 99999
 ·rw [decide_eq_true h1, Bool.not_true, cond_false]
  cases i with
  | zero =>
   rw [decide_eq_false (show ¬((0 : Nat) : Int) > 0 by omega), cond_false]
   exact tail none rfl h1
  | succ j =>
   have hq : (oLns o)[j]? = some (oLns o)[j] := List.getElem?_eq_getElem (by omega)
   have e : w64 (((j + 1 : Nat) : Int) - 1) = (j : Int) := by rw [w64_id (by omega) (by omega)]; omega
   rw [decide_eq_true (show ((j + 1 : Nat) : Int) > 0 by omega), cond_true, e, idx_get hq, Option.bind_some]
   simp only [prevOf, hq]
   by_cases h2 : x.1 ≤ (oLns o)[j].1
   ·rw [decide_eq_true h2, Option.bind_some]
    have : olineF (oDay o) (some (oLns o)[j]) x = 8 := by
     unfold olineF
     rw [if_neg (show ¬¬(1 ≤ x.1 ∧ x.1 ≤ 99999) from fun h => h h1), if_pos (show (Option.any (fun q => decide (x.1 ≤ q.1)) (some (oLns o)[j])) = true from decide_eq_true h2)]
    rw [this]
    rfl
   ·rw [decide_eq_false h2, Option.bind_some]
    exact tail (some (oLns o)[j]) (by simp [h2]) h1
 ·rw [decide_eq_false h1, Bool.not_false, cond_true]
  unfold olineF
  rw [if_pos h1]

theorem olinesGo_forL (a0 : List D_api_Line) (day : Int) : ∀ (r : List D_api_Line) (i : Nat) (s : Unit), a0.drop i = r →
  forL (fun (_ : Unit) i y k => if olineF day (prevOf a0 i) y ≠ 0 then some (Sum.inl (olineF day (prevOf a0 i) y, ())) else k ()) (fun _ => (some (Sum.inr ()) : Option order_CheckOrder_r12)) r i s = fres (olinesGo day r (prevOf a0 i))
 | [], _, _, _ => by simp [forL, olinesGo, fres]
 | y :: r, i, s, hd => by
  have hy : a0[i]? = some y := by
   have := congrArg (·[0]?) hd
   simpa [List.getElem?_drop] using this
  have hr : a0.drop (i + 1) = r := by
   have := congrArg List.tail hd
   simpa [List.tail_drop] using this
  have hp : prevOf a0 (i + 1) = some y := hy
  have ih := olinesGo_forL a0 day r (i + 1) () hr
  rw [hp] at ih
  by_cases hf : olineF day (prevOf a0 i) y = 0
  ·have e0 : ¬olineF day (prevOf a0 i) y ≠ 0 := fun h => h hf
   rw [show olinesGo day (y :: r) (prevOf a0 i) = olinesGo day r (some y) by rw [olinesGo, if_neg e0], ← ih]
   show (if olineF day (prevOf a0 i) y ≠ 0 then _ else _) = _
   rw [if_neg e0]
  ·rw [show olinesGo day (y :: r) (prevOf a0 i) = olineF day (prevOf a0 i) y by rw [olinesGo, if_pos hf], fres_ne hf]
   show (if olineF day (prevOf a0 i) y ≠ 0 then _ else _) = _
   rw [if_pos hf]

theorem order_CheckOrder_eq (o : D_api_Order) : order_CheckOrder o = some (ordF o, ()) := by
 unfold order_CheckOrder ordF
 simp only [kit_IsName_eq, kit_IsDay_eq, kit_Outside_eq, out_not, Option.bind_some]
 cases h1 : isNm o.1
 ·simp [oNum, h1]
 cases h2 : isNm o.2.1
 ·simp [oNum, oBuy, h1, h2]
 cases h3 : isNm o.2.2.1
 ·simp [oNum, oBuy, oSel, h1, h2, h3]
 rw [if_neg (by simp [oNum, oBuy, oSel, h1, h2, h3])]
 simp only [Bool.not_true, cond_false]
 by_cases h4 : o.2.1 = o.2.2.1
 ·rw [if_pos h4, show (o.2.1 == o.2.2.1) = true by simp [h4], cond_true]
 rw [if_neg h4, show (o.2.1 == o.2.2.1) = false by simp [h4], cond_false]
 by_cases h5 : 1 ≤ o.2.2.2.1 ∧ o.2.2.2.1 ≤ 3652059
 ·rw [if_neg (by simp [oDay, h5]), decide_eq_true h5, Bool.not_true, cond_false]
  by_cases h6 : 0 ≤ o.2.2.2.2.1 ∧ o.2.2.2.2.1 ≤ 1000
  ·rw [if_neg (by simp [oExt, h6]), decide_eq_true h6, Bool.not_true, cond_false]
   by_cases h7 : o.2.2.2.2.2 = []
   ·rw [if_pos h7, h7]; rfl
   ·have h7' : o.2.2.2.2.2.length ≠ 0 := fun e => h7 (List.eq_nil_of_length_eq_zero e)
    rw [if_neg h7, beq_of_ne (show (o.2.2.2.2.2.length : Int) ≠ 0 by omega), cond_false]
    by_cases h8 : 500 < o.2.2.2.2.2.length
    ·rw [if_pos h8, decide_eq_true (by omega), cond_true]
    ·rw [if_neg h8, decide_eq_false (by omega), cond_false]
     have := iter_for (f := order_CheckOrder_b12) (fun (_ : Unit) (i : Nat) => (((o.2.2.2.2.2.length : Int), (i : Int), o.1, o.2.1, o.2.2.1, o.2.2.2.1, o.2.2.2.2.1, o.2.2.2.2.2, ()) : order_CheckOrder_x12)) o.2.2.2.2.2
      (fun (_ : Unit) i y k => if olineF (oDay o) (prevOf o.2.2.2.2.2 i) y ≠ 0 then some (Sum.inl (olineF (oDay o) (prevOf o.2.2.2.2.2 i) y, ())) else k ()) (fun _ => some (Sum.inr ()))
      (fun s i y again hy => by
       have hlt : i < o.2.2.2.2.2.length := (List.getElem?_eq_some_iff.1 hy).1
       unfold order_CheckOrder_b12
       dsimp only
       rw [decide_eq_true (by omega), cond_true]
       have := order_lineFault_eq o i y hy (by show o.2.2.2.2.2.length ≤ 500; omega)
       rw [show ((o.1, o.2.1, o.2.2.1, o.2.2.2.1, o.2.2.2.2.1, o.2.2.2.2.2) : D_api_Order) = o from rfl, this, Option.bind_some]
       dsimp only
       by_cases hf : olineF (oDay o) (prevOf o.2.2.2.2.2 i) y = 0
       ·rw [if_neg (by simp [hf]), show (olineF (oDay o) (prevOf (oLns o) i) y != 0) = false by simp [hf], cond_false, w64_id (by omega) (by omega)]
        rfl
       ·rw [if_pos hf, show (olineF (oDay o) (prevOf (oLns o) i) y != 0) = true by simp [hf], cond_true]) (fun s again => by
       unfold order_CheckOrder_b12
       dsimp only
       rw [decide_eq_false (show ¬((o.2.2.2.2.2.length : Int) < (o.2.2.2.2.2.length : Int)) by omega)]; rfl) ()
     refine (congrArg (fun z => joinB (β := (Int × Unit)) (γ := Unit) z fun _ => some (0, ())) (this _ (by omega))).trans ?_
     rw [olinesGo_forL o.2.2.2.2.2 (oDay o) o.2.2.2.2.2 0 () rfl]
     simp only [prevOf]
     by_cases h : olinesGo (oDay o) o.2.2.2.2.2 none = 0
     ·rw [fres_zero h, h]; rfl
     ·rw [fres_ne h]; rfl
  ·rw [if_pos h6, decide_eq_false h6]; rfl
 ·rw [if_pos h5, decide_eq_false h5]; rfl

theorem order_checked_eq (o : D_api_Order) (l : List D_api_Deed) : order_checked o l = some (if ordF o ≠ 0 then ordF o else deedsF l, ()) := by
 unfold order_checked
 rw [order_CheckOrder_eq, Option.bind_some, order_CheckDeeds_eq]
 dsimp only
 by_cases h : ordF o = 0
 ·rw [h]; rfl
 ·rw [bne_of_ne h, cond_true, if_pos h]

end Go.Md

namespace Go.Md
open Go.Dn

def unitsZ (d : D_api_Decimal) : Int := d.1 * 10 ^ (3 - d.2).toNat
theorem qOk_facts {d : D_api_Decimal} {z : Bool} (h : qOk d z = true) : (0 ≤ d.2 ∧ d.2 ≤ 3) ∧ 0 ≤ d.1 ∧ d.1 ≤ 1000000000 * 10 ^ d.2.toNat ∧ (z = false → d.1 ≠ 0) := by
 unfold qOk inR at h
 simp only [Bool.and_eq_true, decide_eq_true_eq, Bool.or_eq_true, Bool.not_eq_true', beq_eq_false_iff_ne] at h
 obtain ⟨⟨h1, h2, h3, h4⟩, h5⟩ := h
 exact ⟨⟨h1.2.1, h2⟩, by omega, h4, fun hz => by rcases h5 with h5 | h5; exact h5; rw [hz] at h5; cases h5⟩
theorem unitsZ_le {d : D_api_Decimal} {z : Bool} (h : qOk d z = true) : 0 ≤ unitsZ d ∧ unitsZ d ≤ 1000000000000 ∧ (z = false → 0 < unitsZ d) := by
 obtain ⟨⟨h1, h2⟩, h3, h4, h5⟩ := qOk_facts h
 unfold unitsZ
 obtain ⟨k, hk⟩ : ∃ k : Nat, d.2 = k := ⟨d.2.toNat, by omega⟩
 rw [hk] at h1 h2 h4 ⊢
 have : k = 0 ∨ k = 1 ∨ k = 2 ∨ k = 3 := by omega
 rcases this with rfl | rfl | rfl | rfl <;> simp at h4 ⊢ <;> refine ⟨by omega, by omega, fun hz => ?_⟩ <;> have := h5 hz <;> omega
theorem order_units_eq {d : D_api_Decimal} {z : Bool} (h : qOk d z = true) : order_units d = some (unitsZ d, ()) := by
 obtain ⟨⟨h1, h2⟩, h3, h4, _⟩ := qOk_facts h
 obtain ⟨u1, u2, _⟩ := unitsZ_le h
 unfold order_units
 rw [w64_id (n := 3 - d.2) (by omega) (by omega), order_power_eq (3 - d.2) (by omega) (by omega), Option.bind_some]
 show some (w64 (unitsZ d), ()) = _
 rw [w64_id (by omega) (by omega)]

structure LineS where
 no : Int
 art : List UInt8
 unit : List UInt8
 ord : Int
 shp : Int
 rcv : Int
 ret : Int
 price : D_api_Decimal
 due : Int
 wish : Int
 ono : Int
 oq : Int
 ount : Int

abbrev LineS.tup (x : LineS) : D_order_line := (x.no, x.art, x.unit, x.ord, x.shp, x.rcv, x.ret, x.price, x.due, x.wish, x.ono, x.oq, x.ount)
def LineS.opn (x : LineS) : Int := if x.ord - x.shp + x.ret > 0 then x.ord - x.shp + x.ret else 0

structure LOk (x : LineS) : Prop where
 ret0 : 0 ≤ x.ret
 retr : x.ret ≤ x.rcv
 rcvs : x.rcv ≤ x.shp
 shp1 : x.shp ≤ 1000000000000000
 ord0 : 0 ≤ x.ord
 ord1 : x.ord ≤ 1000000000000
 off : x.ono ≠ 0 → 0 < x.oq ∧ x.oq + x.shp - x.ret ≤ x.ord

def mapGo (i : Nat) : List LineS → List (Int × Option Nat)
 | [] => []
 | x :: r => (x.no, some i) :: mapGo (i + 1) r
abbrev mapOf (A : List LineS) : List (Int × Option Nat) := mapGo 0 A
def findGo (n : Int) (i : Nat) : List LineS → Option Nat
 | [] => none
 | x :: r => if n = x.no then some i else findGo n (i + 1) r
abbrev findL (n : Int) (A : List LineS) : Option Nat := findGo n 0 A

theorem ibeq_self (n : Int) : ibeq n n = true := by simp [ibeq]
theorem ibeq_ne {n a : Int} (h : n ≠ a) : ibeq n a = false := by simp [ibeq, h]
theorem mget_map (n : Int) : ∀ (A : List LineS) (i : Nat), Option.getD (α := Option Nat) (mget (k := tI) (v := .hnd) (mapGo i A) n) none = findGo n i A
 | [], i => rfl
 | x :: r, i => by
  have e := @mget_cons tI .hnd (x.no, some i) (mapGo (i + 1) r) n
  refine (congrArg (fun z : Option (Option Nat) => Option.getD z none) e).trans ?_
  have ih := mget_map n r (i + 1)
  by_cases h : n = x.no
  ·subst h
   show Option.getD (α := Option Nat) (bif ibeq x.no x.no then some (some i) else _) none = _
   rw [ibeq_self]
   simp only [findGo, if_pos]
   rfl
  ·show Option.getD (α := Option Nat) (bif ibeq n x.no then some (some i) else _) none = _
   rw [ibeq_ne h]
   simp only [findGo, if_neg h]
   exact ih
theorem mset_map (n : Int) (y : LineS) (hy : y.no = n) : ∀ (A : List LineS) (i : Nat), findGo n i A = none → mset (k := tI) (v := .hnd) (mapGo i A) n (some (i + A.length)) = mapGo i (A ++ [y])
 | [], i, _ => by subst hy; rfl
 | x :: r, i, h => by
  simp only [findGo] at h
  by_cases hx : n = x.no
  ·rw [if_pos hx] at h; cases h
  ·rw [if_neg hx] at h
   have ih := mset_map n y hy r (i + 1) h
   have e : i + (x :: r).length = i + 1 + r.length := by simp only [List.length_cons]; omega
   rw [e]
   show (bif ibeq n x.no then _ else (x.no, some i) :: mset (k := tI) (v := .hnd) (mapGo (i + 1) r) n (some (i + 1 + r.length))) = _
   rw [ibeq_ne hx]
   exact congrArg (fun z => (x.no, some i) :: z) ih
theorem mapGo_len : ∀ (A : List LineS) (i : Nat), (mapGo i A).length = A.length
 | [], _ => rfl
 | x :: r, i => by simp [mapGo, mapGo_len r]
theorem mapGo_set {k : Nat} {y : LineS} : ∀ (A : List LineS) (i : Nat), (∀ x, A[k]? = some x → y.no = x.no) → mapGo i (A.set k y) = mapGo i A := by
 intro A
 induction A generalizing k with
 | nil => intro i _; rfl
 | cons x r ih =>
  intro i h
  cases k with
  | zero => simp only [List.set_cons_zero, mapGo]; rw [h x rfl]
  | succ k => simp only [List.set_cons_succ, mapGo]; rw [ih (i + 1) (fun z hz => h z (by simpa using hz))]
theorem findGo_some {n : Int} : ∀ {A : List LineS} {i k : Nat}, findGo n i A = some k → i ≤ k ∧ ∃ x, A[k - i]? = some x ∧ x.no = n
 | [], _, _, h => by cases h
 | x :: r, i, k, h => by
  simp only [findGo] at h
  by_cases hx : n = x.no
  ·rw [if_pos hx] at h; cases h; exact ⟨Nat.le_refl _, x, by simp, hx.symm⟩
  ·rw [if_neg hx] at h
   obtain ⟨h1, y, h2, h3⟩ := findGo_some h
   refine ⟨by omega, y, ?_, h3⟩
   rw [show k - i = k - (i + 1) + 1 by omega, List.getElem?_cons_succ]; exact h2
theorem findL_some {n : Int} {A : List LineS} {k : Nat} (h : findL n A = some k) : ∃ x, A[k]? = some x ∧ x.no = n := (findGo_some h).2
theorem findGo_set {n : Int} {k : Nat} {y : LineS} : ∀ (A : List LineS) (i : Nat), (∀ x, A[k]? = some x → y.no = x.no) → findGo n i (A.set k y) = findGo n i A := by
 intro A
 induction A generalizing k with
 | nil => intro i _; rfl
 | cons x r ih =>
  intro i h
  cases k with
  | zero => simp only [List.set_cons_zero, findGo]; rw [h x rfl]
  | succ k => simp only [List.set_cons_succ, findGo]; rw [ih (i + 1) (fun z hz => h z (by simpa using hz))]
theorem findGo_app {n : Int} {y : LineS} : ∀ (A : List LineS) (i : Nat), findGo n i (A ++ [y]) = (findGo n i A).or (if n = y.no then some (i + A.length) else none)
 | [], i => by simp [findGo]
 | x :: r, i => by
  simp only [List.cons_append, findGo, List.length_cons]
  by_cases h : n = x.no
  ·simp [h]
  ·rw [if_neg h, if_neg h, findGo_app r (i + 1), show i + (r.length + 1) = i + 1 + r.length by omega]

theorem tup_get {A : List LineS} {k : Nat} {x : LineS} (h : A[k]? = some x) : (A.map LineS.tup)[k]? = some x.tup := by rw [List.getElem?_map, h]; rfl
theorem tup_set (A : List LineS) (k : Nat) (y : LineS) : (A.map LineS.tup).set k y.tup = (A.set k y).map LineS.tup := by rw [List.map_set]
theorem get_set {A : List LineS} {k : Nat} {x : LineS} (h : A[k]? = some x) (y : LineS) : (A.set k y)[k]? = some y := by
 have := (List.getElem?_eq_some_iff.1 h).1
 simp [List.getElem?_set, this]

theorem order_line_open_eq {A : List LineS} {k : Nat} {x : LineS} (h : A[k]? = some x) (hx : LOk x) : order_line_open (some k) (A.map LineS.tup) = some (x.opn, ()) := by
 unfold order_line_open
 have ht := tup_get h
 simp only [Option.bind_some, ht]
 have := hx.ret0; have := hx.retr; have := hx.rcvs; have := hx.shp1; have := hx.ord0; have := hx.ord1
 rw [w64_id (n := x.ord - x.shp) (by omega) (by omega), w64_id (n := x.ord - x.shp + x.ret) (by omega) (by omega)]
 rfl

end Go.Md

namespace Go.Md
open Go.Dn

abbrev dNo (d : D_api_Deed) := d.2.2.1
abbrev dKind (d : D_api_Deed) := d.2.2.2.1
abbrev dLine (d : D_api_Deed) := d.2.2.2.2.1
abbrev dQ (d : D_api_Deed) := d.2.2.2.2.2.2.1
abbrev dPrice (d : D_api_Deed) := d.2.2.2.2.2.2.2.2.1
abbrev dUntil (d : D_api_Deed) := d.2.2.2.2.2.2.2.2.2.1
abbrev dTo (d : D_api_Deed) := d.2.2.2.2.2.2.2.2.2.2

theorem used_zero {d : D_api_Deed} (h : usedF d = 0) : (usQ (dKind d) = true → qOk (dQ d) (dKind d == 2) = true) ∧ (usP (dKind d) = true → inR (dPrice d) 0 1000000000 4 = true) ∧ (usU (dKind d) = true → isDay (dUntil d) = true) ∧ (usA (dKind d) = true → isNm d.2.2.2.2.2.1 = true ∧ isNm d.2.2.2.2.2.2.2.1 = true) ∧ (usT (dKind d) = true → inTo (dTo d) = true) := by
 unfold usedF usedFU at h
 show (usQ d.2.2.2.1 = true → qOk d.2.2.2.2.2.2.1 (d.2.2.2.1 == 2) = true) ∧ (usP d.2.2.2.1 = true → inR d.2.2.2.2.2.2.2.2.1 0 1000000000 4 = true) ∧ (usU d.2.2.2.1 = true → isDay d.2.2.2.2.2.2.2.2.2.1 = true) ∧ (usA d.2.2.2.1 = true → isNm d.2.2.2.2.2.1 = true ∧ isNm d.2.2.2.2.2.2.2.1 = true) ∧ (usT d.2.2.2.1 = true → inTo d.2.2.2.2.2.2.2.2.2.2 = true)
 generalize usA d.2.2.2.1 = ua at *
 generalize usQ d.2.2.2.1 = uq at *
 generalize usP d.2.2.2.1 = up at *
 generalize usU d.2.2.2.1 = uu at *
 generalize usT d.2.2.2.1 = ut at *
 generalize qOk d.2.2.2.2.2.2.1 (d.2.2.2.1 == 2) = b1 at *
 generalize inR d.2.2.2.2.2.2.2.2.1 0 1000000000 4 = b2 at *
 generalize isDay d.2.2.2.2.2.2.2.2.2.1 = b3 at *
 generalize isNm d.2.2.2.2.2.1 = b4 at *
 generalize isNm d.2.2.2.2.2.2.2.1 = b5 at *
 generalize inTo d.2.2.2.2.2.2.2.2.2.2 = b6 at *
 cases hq : (uq && !b1)
 ·rw [hq, cond_false] at h
  cases hp : (up && !b2)
  ·rw [hp, cond_false] at h
   cases hu : (uu && !b3)
   ·rw [hu, cond_false] at h
    cases ha : (ua && (!b4 || !b5))
    ·rw [ha, cond_false] at h
     cases ht : (ut && !b6)
     ·refine ⟨?_, ?_, ?_, ?_, ?_⟩
      ·revert hq; cases uq <;> cases b1 <;> simp
      ·revert hp; cases up <;> cases b2 <;> simp
      ·revert hu; cases uu <;> cases b3 <;> simp
      ·revert ha; cases ua <;> cases b4 <;> cases b5 <;> simp
      ·revert ht; cases ut <;> cases b6 <;> simp
     ·rw [ht, cond_true] at h; cases h
    ·rw [ha, cond_true] at h; cases h
   ·rw [hu, cond_true] at h; cases h
  ·rw [hp, cond_true] at h; cases h
 ·rw [hq, cond_true] at h; cases h

def wishZ (day : Int) (i : Int) (d : D_api_Deed) (x : LineS) : Int × LineS :=
 if dKind d = 3 ∧ dUntil d < day then (1, x) else if 0 ≤ x.wish then (11, x) else (0, { x with wish := i })
def wishDeed (l : List D_api_Deed) (x : LineS) : D_api_Deed := l.getD x.wish.toNat (0, 0, 0, 0, 0, [], (0, 0), [], (0, 0), 0, 0)
def answerZ (l : List D_api_Deed) (d : D_api_Deed) (x : LineS) : Int × LineS :=
 if x.wish < 0 then (5, x)
 else if dNo (wishDeed l x) ≠ dTo d then (5, x)
 else if dKind d = 5 then
  (if dKind (wishDeed l x) = 2 then (if unitsZ (dQ (wishDeed l x)) < x.shp - x.ret then (12, x) else (0, { x with ord := unitsZ (dQ (wishDeed l x)), wish := -1 }))
  else if dKind (wishDeed l x) = 1 then (0, { x with ord := unitsZ (dQ (wishDeed l x)), wish := -1 })
  else if dKind (wishDeed l x) = 3 then (0, { x with due := dUntil (wishDeed l x), wish := -1 })
  else (0, { x with price := dPrice (wishDeed l x), wish := -1 }))
 else (0, { x with wish := -1 })
def offeredZ (day : Int) (d : D_api_Deed) (x : LineS) : Int :=
 if dUntil d < day then 1 else if 0 ≤ x.wish ∨ x.opn = 0 then 11 else if x.opn < unitsZ (dQ d) then 12 else 0
def takeZ (d : D_api_Deed) (x : LineS) : Int × LineS :=
 if 0 ≤ x.wish then (11, x) else if x.ono = 0 ∨ x.ono ≠ dTo d then (5, x) else (0, { x with ord := x.shp - x.ret + x.oq, due := x.ount, ono := 0, oq := 0, ount := 0 })
def moveZ (ext : Int) (d : D_api_Deed) (x : LineS) : Int × LineS :=
 if dKind d = 9 then
  (if x.ord + x.ord * ext / 1000 < x.shp - x.ret + unitsZ (dQ d) then (12, x)
  else if 1000000000000000 < x.shp + unitsZ (dQ d) then (16, x)
  else (0, { x with shp := x.shp + unitsZ (dQ d) }))
 else if dKind d = 10 then (if x.shp < x.rcv + unitsZ (dQ d) then (12, x) else (0, { x with rcv := x.rcv + unitsZ (dQ d) }))
 else (if x.rcv < x.ret + unitsZ (dQ d) then (12, x) else (0, { x with ret := x.ret + unitsZ (dQ d) }))

theorem set_self {A : List LineS} {k : Nat} {x : LineS} (h : A[k]? = some x) : A.set k x = A := by
 obtain ⟨h1, h2⟩ := List.getElem?_eq_some_iff.1 h
 rw [← h2]; exact List.set_getElem_self h1
theorem tup_set1 {A : List LineS} {k : Nat} (y : LineS) (T : D_order_line) (hT : T = y.tup) : List.set (A.map LineS.tup) k T = (A.set k y).map LineS.tup := by rw [hT, tup_set]
theorem getset {A : List LineS} {k : Nat} {x : LineS} (h : A[k]? = some x) (T : D_order_line) : (List.set (A.map LineS.tup) k T)[k]? = some T := by
 have := (List.getElem?_eq_some_iff.1 h).1
 rw [List.getElem?_set_self (by simpa using this)]

variable {o : D_api_Order} {l : List D_api_Deed} {m : List (Int × Option Nat)} {ref : List D_api_Decimal} {pts : List D_api_Point} {wt : Int} {A : List LineS} {k : Nat} {x : LineS}

theorem order_follower_wish_eq (h : A[k]? = some x) {i : Nat} {d : D_api_Deed} (hd : l[i]? = some d) :
  order_follower_wish (o, l, m, ref, pts, wt, ()) (some k) (i : Int) (A.map LineS.tup) = some ((wishZ (oDay o) i d x).1, (o, l, m, ref, pts, wt, ()), (A.set k (wishZ (oDay o) i d x).2).map LineS.tup, ()) := by
 unfold order_follower_wish wishZ
 dsimp only
 rw [idx_get hd, Option.bind_some]
 have hv : (bif d.2.2.2.1 == 3 then some (decide (d.2.2.2.2.2.2.2.2.2.1 < o.2.2.2.1), ()) else some (false, ())) = some (decide (dKind d = 3 ∧ dUntil d < oDay o), ()) := by
  by_cases h3 : d.2.2.2.1 = 3
  ·rw [show (d.2.2.2.1 == 3) = true by simp [h3], cond_true]
   simp [dKind, h3]
  ·rw [show (d.2.2.2.1 == 3) = false by simp [h3], cond_false]
   simp [dKind, h3]
 rw [hv, Option.bind_some]
 dsimp only
 by_cases h1 : dKind d = 3 ∧ dUntil d < oDay o
 ·rw [decide_eq_true h1, cond_true, if_pos h1, set_self h]
 ·rw [decide_eq_false h1, cond_false, if_neg h1]
  simp only [Option.bind_some, tup_get h]
  by_cases h2 : 0 ≤ x.wish
  ·rw [if_pos h2, decide_eq_true (show x.wish ≥ 0 from h2), cond_true, set_self h]
  ·rw [if_neg h2, decide_eq_false (show ¬x.wish ≥ 0 from h2), cond_false, tup_set1 { x with wish := (i : Int) } _ rfl]

structure WOk (l : List D_api_Deed) (x : LineS) : Prop where
 low : -1 ≤ x.wish
 kind : 0 ≤ x.wish → ∃ d, l[x.wish.toNat]? = some d ∧ dKind d ≤ 4

theorem wishDeed_eq {d : D_api_Deed} (hw : l[x.wish.toNat]? = some d) : wishDeed l x = d := by
 unfold wishDeed
 rw [List.getD_eq_getElem?_getD, hw]; rfl
theorem idx_wish {d : D_api_Deed} (h0 : 0 ≤ x.wish) (hw : l[x.wish.toNat]? = some d) : idx l x.wish = some d := by
 unfold idx; rw [if_pos h0]; exact hw

theorem order_follower_answer_eq (h : A[k]? = some x) (hx : LOk x) (hw : WOk l x) (hl : ∀ d, d ∈ l → deedF d = 0) (d : D_api_Deed) :
  order_follower_answer (o, l, m, ref, pts, wt, ()) (some k) d (A.map LineS.tup) = some ((answerZ l d x).1, (o, l, m, ref, pts, wt, ()), (A.set k (answerZ l d x).2).map LineS.tup, ()) := by
 unfold order_follower_answer answerZ
 simp only [Option.bind_some, tup_get h]
 by_cases h1 : x.wish < 0
 ·rw [if_pos h1, decide_eq_true h1, cond_true, set_self h]
 ·rw [if_neg h1, decide_eq_false h1, cond_false]
  obtain ⟨w, hw1, hw2⟩ := hw.kind (by omega)
  rw [idx_wish (by omega) hw1, wishDeed_eq hw1]
  simp only [Option.bind_some]
  have hwf := hl w (List.mem_of_getElem? hw1)
  obtain ⟨_, _, _, hk, _, _, hu⟩ := deedF_zero hwf
  obtain ⟨uq, _⟩ := used_zero hu
  have b0 := hx.ret0; have b1 := hx.retr; have b2 := hx.rcvs; have b3 := hx.shp1
  by_cases h2 : dNo w = dTo d
  ·rw [if_neg (fun e => e h2), show (w.2.2.1 != d.2.2.2.2.2.2.2.2.2.2) = false by simpa using h2, cond_false]
   by_cases h3 : dKind d = 5
   ·rw [if_pos h3, show (d.2.2.2.1 == 5) = true by simpa using h3, cond_true]
    by_cases k2 : dKind w = 2
    ·have hq := uq (by rw [k2]; rfl)
     rw [if_pos k2, show (w.2.2.2.1 == 2) = true by simpa using k2, cond_true]
     simp only [order_units_eq hq, Option.bind_some, getset h, List.set_set]
     rw [w64_id (n := x.shp - x.ret) (by omega) (by omega)]
     by_cases h4 : unitsZ (dQ w) < x.shp - x.ret
     ·rw [if_pos h4, decide_eq_true h4, cond_true, set_self h]
     ·rw [if_neg h4, decide_eq_false h4, cond_false, tup_set1 { x with ord := unitsZ (dQ w), wish := -1 } _ rfl]
    ·rw [if_neg k2, show (w.2.2.2.1 == 2) = false by simpa using k2, cond_false]
     by_cases k1 : dKind w = 1
     ·have hq := uq (by rw [k1]; rfl)
      rw [if_pos k1, show (w.2.2.2.1 == 1) = true by simpa using k1, cond_true]
      simp only [order_units_eq hq, Option.bind_some, getset h, List.set_set]
      rw [tup_set1 { x with ord := unitsZ (dQ w), wish := -1 } _ rfl]
     ·rw [if_neg k1, show (w.2.2.2.1 == 1) = false by simpa using k1, cond_false]
      by_cases k3 : dKind w = 3
      ·rw [if_pos k3, show (w.2.2.2.1 == 3) = true by simpa using k3, cond_true]
       simp only [Option.bind_some, getset h, List.set_set]
       rw [tup_set1 { x with due := dUntil w, wish := -1 } _ rfl]
      ·rw [if_neg k3, show (w.2.2.2.1 == 3) = false by simpa using k3, cond_false]
       simp only [Option.bind_some, getset h, List.set_set]
       rw [tup_set1 { x with price := dPrice w, wish := -1 } _ rfl]
   ·rw [if_neg h3, show (d.2.2.2.1 == 5) = false by simpa using h3, cond_false, tup_set1 { x with wish := -1 } _ rfl]
  ·rw [if_pos h2, show (w.2.2.1 != d.2.2.2.2.2.2.2.2.2.2) = true by simpa using h2, cond_true, set_self h]

theorem order_follower_offered_eq (h : A[k]? = some x) (hx : LOk x) {d : D_api_Deed} {z : Bool} (hq : qOk (dQ d) z = true) :
  order_follower_offered (o, l, m, ref, pts, wt, ()) (some k) d (A.map LineS.tup) = some (offeredZ (oDay o) d x, (o, l, m, ref, pts, wt, ()), A.map LineS.tup, ()) := by
 unfold order_follower_offered offeredZ
 simp only [Option.bind_some, tup_get h, order_line_open_eq h hx, order_units_eq hq]
 by_cases h1 : dUntil d < oDay o
 ·rw [if_pos h1, decide_eq_true h1, cond_true]
 ·rw [if_neg h1, decide_eq_false h1, cond_false]
  by_cases h2 : 0 ≤ x.wish
  ·rw [if_pos (.inl h2), decide_eq_true (show x.wish ≥ 0 from h2), cond_true]
  ·rw [decide_eq_false (show ¬x.wish ≥ 0 from h2), cond_false]
   by_cases h3 : x.opn = 0
   ·rw [if_pos (.inr h3), show (x.opn == 0) = true by simp [h3], cond_true]
   ·rw [if_neg (fun e => e.elim h2 h3), show (x.opn == 0) = false by simp [h3], cond_false]
    by_cases h4 : x.opn < unitsZ (dQ d)
    ·rw [if_pos h4, decide_eq_true (show unitsZ (dQ d) > x.opn from h4), cond_true]
    ·rw [if_neg h4, decide_eq_false (show ¬unitsZ (dQ d) > x.opn from h4), cond_false]

theorem order_follower_take_eq (h : A[k]? = some x) (hx : LOk x) (d : D_api_Deed) :
  order_follower_take (o, l, m, ref, pts, wt, ()) (some k) d (A.map LineS.tup) = some ((takeZ d x).1, (o, l, m, ref, pts, wt, ()), (A.set k (takeZ d x).2).map LineS.tup, ()) := by
 unfold order_follower_take takeZ
 simp only [Option.bind_some, tup_get h, getset h, List.set_set]
 have b0 := hx.ret0; have b1 := hx.retr; have b2 := hx.rcvs; have b3 := hx.shp1; have b4 := hx.ord0; have b5 := hx.ord1
 by_cases h1 : 0 ≤ x.wish
 ·rw [if_pos h1, decide_eq_true (show x.wish ≥ 0 from h1), cond_true, set_self h]
 ·rw [if_neg h1, decide_eq_false (show ¬x.wish ≥ 0 from h1), cond_false]
  by_cases h2 : x.ono = 0
  ·rw [if_pos (.inl h2), show (x.ono == 0) = true by simp [h2], cond_true, set_self h]
  ·rw [show (x.ono == 0) = false by simp [h2], cond_false]
   by_cases h3 : x.ono = dTo d
   ·obtain ⟨c1, c2⟩ := hx.off h2
    rw [if_neg (fun e => e.elim h2 (fun e => e h3)), show (x.ono != d.2.2.2.2.2.2.2.2.2.2) = false by simpa using h3, cond_false,
     w64_id (n := x.shp - x.ret) (by omega) (by omega), w64_id (n := x.shp - x.ret + x.oq) (by omega) (by omega),
     tup_set1 { x with ord := x.shp - x.ret + x.oq, due := x.ount, ono := 0, oq := 0, ount := 0 } _ rfl]
   ·rw [if_pos (.inr h3), show (x.ono != d.2.2.2.2.2.2.2.2.2.2) = true by simpa using h3, cond_true, set_self h]

theorem order_follower_move_eq (h : A[k]? = some x) (hx : LOk x) (he0 : 0 ≤ oExt o) (he1 : oExt o ≤ 1000) {d : D_api_Deed} {z : Bool} (hq : qOk (dQ d) z = true) :
  order_follower_move (o, l, m, ref, pts, wt, ()) (some k) d (A.map LineS.tup) = some ((moveZ (oExt o) d x).1, (o, l, m, ref, pts, wt, ()), (A.set k (moveZ (oExt o) d x).2).map LineS.tup, ()) := by
 unfold order_follower_move moveZ
 simp only [Option.bind_some, tup_get h, getset h, order_units_eq hq]
 have b0 := hx.ret0; have b1 := hx.retr; have b2 := hx.rcvs; have b3 := hx.shp1; have b4 := hx.ord0; have b5 := hx.ord1
 obtain ⟨q0, q1, _⟩ := unitsZ_le hq
 by_cases k9 : dKind d = 9
 ·rw [if_pos k9, show (d.2.2.2.1 == 9) = true by simpa using k9, cond_true]
  have m0 : 0 ≤ x.ord * oExt o := Int.mul_nonneg b4 he0
  have m1 : x.ord * oExt o ≤ x.ord * 1000 := Int.mul_le_mul_of_nonneg_left he1 b4
  have e1 : w64 (x.ord * oExt o) = x.ord * oExt o := w64_id (by omega) (by omega)
  have e2 : Int.tdiv (x.ord * oExt o) 1000 = x.ord * oExt o / 1000 := Int.tdiv_eq_ediv_of_nonneg m0
  have d0 : 0 ≤ x.ord * oExt o / 1000 := Int.ediv_nonneg m0 (by omega)
  have d1 : x.ord * oExt o / 1000 ≤ x.ord := by omega
  rw [show w64 (x.ord * o.2.2.2.2.1) = x.ord * oExt o from e1, e2, w64_id (n := x.ord * oExt o / 1000) (by omega) (by omega), w64_id (n := x.ord + x.ord * oExt o / 1000) (by omega) (by omega),
   w64_id (n := x.shp - x.ret) (by omega) (by omega), w64_id (n := x.shp - x.ret + unitsZ (dQ d)) (by omega) (by omega), w64_id (n := x.shp + unitsZ (dQ d)) (by omega) (by omega)]
  by_cases c1 : x.ord + x.ord * oExt o / 1000 < x.shp - x.ret + unitsZ (dQ d)
  ·rw [if_pos c1, decide_eq_true (show x.shp - x.ret + unitsZ (dQ d) > x.ord + x.ord * oExt o / 1000 from c1), cond_true, set_self h]
  ·rw [if_neg c1, decide_eq_false (show ¬x.shp - x.ret + unitsZ (dQ d) > x.ord + x.ord * oExt o / 1000 from c1), cond_false]
   by_cases c2 : 1000000000000000 < x.shp + unitsZ (dQ d)
   ·rw [if_pos c2, decide_eq_true (show x.shp + unitsZ (dQ d) > 1000000000000000 from c2), cond_true, set_self h]
   ·rw [if_neg c2, decide_eq_false (show ¬x.shp + unitsZ (dQ d) > 1000000000000000 from c2), cond_false, tup_set1 { x with shp := x.shp + unitsZ (dQ d) } _ rfl]
 ·rw [if_neg k9, show (d.2.2.2.1 == 9) = false by simpa using k9, cond_false]
  by_cases k10 : dKind d = 10
  ·rw [if_pos k10, show (d.2.2.2.1 == 10) = true by simpa using k10, cond_true, w64_id (n := x.rcv + unitsZ (dQ d)) (by omega) (by omega)]
   by_cases c1 : x.shp < x.rcv + unitsZ (dQ d)
   ·rw [if_pos c1, decide_eq_true (show x.rcv + unitsZ (dQ d) > x.shp from c1), cond_true, set_self h]
   ·rw [if_neg c1, decide_eq_false (show ¬x.rcv + unitsZ (dQ d) > x.shp from c1), cond_false, tup_set1 { x with rcv := x.rcv + unitsZ (dQ d) } _ rfl]
  ·rw [if_neg k10, show (d.2.2.2.1 == 10) = false by simpa using k10, cond_false, w64_id (n := x.ret + unitsZ (dQ d)) (by omega) (by omega)]
   by_cases c1 : x.rcv < x.ret + unitsZ (dQ d)
   ·rw [if_pos c1, decide_eq_true (show x.ret + unitsZ (dQ d) > x.rcv from c1), cond_true, set_self h]
   ·rw [if_neg c1, decide_eq_false (show ¬x.ret + unitsZ (dQ d) > x.rcv from c1), cond_false, tup_set1 { x with ret := x.ret + unitsZ (dQ d) } _ rfl]

end Go.Md

namespace Go.Md
open Go.Dn

def LineS.clr (x : LineS) : LineS := { x with ono := 0, oq := 0, ount := 0 }
def actZ (o : D_api_Order) (l : List D_api_Deed) (i : Nat) (d : D_api_Deed) (x : LineS) : Int × LineS :=
 if dKind d ≤ 4 then wishZ (oDay o) i d x
 else if dKind d ≤ 6 then (if (answerZ l d x).1 = 0 then (0, (answerZ l d x).2.clr) else answerZ l d x)
 else if dKind d = 7 then (if offeredZ (oDay o) d x = 0 then (0, { x with ono := dNo d, oq := unitsZ (dQ d), ount := dUntil d }) else (offeredZ (oDay o) d x, x))
 else if dKind d = 8 then takeZ d x
 else if dKind d = 9 then (if (moveZ (oExt o) d x).1 = 0 then (0, (moveZ (oExt o) d x).2.clr) else moveZ (oExt o) d x)
 else moveZ (oExt o) d x
def newLine (i : Nat) (d : D_api_Deed) : LineS := ⟨dLine d, d.2.2.2.2.2.1, d.2.2.2.2.2.2.2.1, 0, 0, 0, 0, dPrice d, dUntil d, i, 0, 0, 0⟩
def deedZ (o : D_api_Order) (l : List D_api_Deed) (i : Nat) (d : D_api_Deed) (A : List LineS) : Int × List LineS :=
 if dKind d = 1 then
  (match findL (dLine d) A with
  | some _ => (7, A)
  | none => if 500 ≤ A.length then (16, A) else if dUntil d < oDay o then (1, A) else (0, A ++ [newLine i d]))
 else match findL (dLine d) A with
  | none => (9, A)
  | some k => match A[k]? with
   | some x => ((actZ o l i d x).1, A.set k (actZ o l i d x).2)
   | none => (9, A)

structure Sound (l : List D_api_Deed) (A : List LineS) : Prop where
 line : ∀ x, x ∈ A → LOk x ∧ WOk l x

theorem clr_ok {x : LineS} (h : LOk x) : LOk x.clr := ⟨h.ret0, h.retr, h.rcvs, h.shp1, h.ord0, h.ord1, fun e => absurd rfl e⟩

theorem answerZ_ok {l : List D_api_Deed} {d : D_api_Deed} {x : LineS} (hx : LOk x) (hw : WOk l x) (hl : ∀ d, d ∈ l → deedF d = 0) : ((answerZ l d x).1 = 0 → LOk (answerZ l d x).2.clr) ∧ ((answerZ l d x).1 ≠ 0 → (answerZ l d x).2 = x) ∧ ((answerZ l d x).2 = x ∨ (answerZ l d x).2.wish = -1) ∧ (answerZ l d x).2.no = x.no := by
 have hk : LOk x.clr := clr_ok hx
 unfold answerZ
 by_cases h1 : x.wish < 0
 ·rw [if_pos h1]; exact ⟨nofun, fun _ => rfl, .inl rfl, rfl⟩
 rw [if_neg h1]
 obtain ⟨w, hw1, hw2⟩ := hw.kind (by omega)
 rw [wishDeed_eq hw1]
 obtain ⟨_, _, _, _, _, _, hu⟩ := deedF_zero (hl w (List.mem_of_getElem? hw1))
 obtain ⟨uq, _⟩ := used_zero hu
 by_cases h2 : dNo w ≠ dTo d
 ·rw [if_pos h2]; exact ⟨nofun, fun _ => rfl, .inl rfl, rfl⟩
 rw [if_neg h2]
 by_cases h3 : dKind d = 5
 ·rw [if_pos h3]
  by_cases k2 : dKind w = 2
  ·rw [if_pos k2]
   obtain ⟨q0, q1, _⟩ := unitsZ_le (uq (by rw [k2]; rfl))
   by_cases h4 : unitsZ (dQ w) < x.shp - x.ret
   ·rw [if_pos h4]; exact ⟨nofun, fun _ => rfl, .inl rfl, rfl⟩
   ·rw [if_neg h4]; exact ⟨fun _ => ⟨hx.ret0, hx.retr, hx.rcvs, hx.shp1, q0, q1, fun e => absurd rfl e⟩, fun e => absurd rfl e, .inr rfl, rfl⟩
  ·rw [if_neg k2]
   by_cases k1 : dKind w = 1
   ·rw [if_pos k1]
    obtain ⟨q0, q1, _⟩ := unitsZ_le (uq (by rw [k1]; rfl))
    exact ⟨fun _ => ⟨hx.ret0, hx.retr, hx.rcvs, hx.shp1, q0, q1, fun e => absurd rfl e⟩, fun e => absurd rfl e, .inr rfl, rfl⟩
   ·rw [if_neg k1]
    by_cases k3 : dKind w = 3
    ·rw [if_pos k3]; exact ⟨fun _ => ⟨hx.ret0, hx.retr, hx.rcvs, hx.shp1, hx.ord0, hx.ord1, fun e => absurd rfl e⟩, fun e => absurd rfl e, .inr rfl, rfl⟩
    ·rw [if_neg k3]; exact ⟨fun _ => ⟨hx.ret0, hx.retr, hx.rcvs, hx.shp1, hx.ord0, hx.ord1, fun e => absurd rfl e⟩, fun e => absurd rfl e, .inr rfl, rfl⟩
 ·rw [if_neg h3]; exact ⟨fun _ => ⟨hx.ret0, hx.retr, hx.rcvs, hx.shp1, hx.ord0, hx.ord1, fun e => absurd rfl e⟩, fun e => absurd rfl e, .inr rfl, rfl⟩

theorem moveZ_ok {ext : Int} {d : D_api_Deed} {x : LineS} {z : Bool} (hx : LOk x) (hq : qOk (dQ d) z = true) : ((moveZ ext d x).1 = 0 → LOk (if dKind d = 9 then (moveZ ext d x).2.clr else (moveZ ext d x).2)) ∧ ((moveZ ext d x).1 ≠ 0 → (moveZ ext d x).2 = x) ∧ (moveZ ext d x).2.wish = x.wish ∧ (moveZ ext d x).2.no = x.no := by
 obtain ⟨q0, q1, _⟩ := unitsZ_le hq
 have b0 := hx.ret0; have b1 := hx.retr; have b2 := hx.rcvs; have b3 := hx.shp1
 unfold moveZ
 by_cases k9 : dKind d = 9
 ·rw [if_pos k9, if_pos k9]
  split
  ·exact ⟨nofun, fun _ => rfl, rfl, rfl⟩
  ·split
   ·exact ⟨nofun, fun _ => rfl, rfl, rfl⟩
   ·rename_i h1 h2
    exact ⟨fun _ => ⟨b0, b1, by show x.rcv ≤ x.shp + unitsZ (dQ d); omega, by show x.shp + unitsZ (dQ d) ≤ _; omega, hx.ord0, hx.ord1, fun e => absurd rfl e⟩, fun e => absurd rfl e, rfl, rfl⟩
 ·rw [if_neg k9, if_neg k9]
  by_cases k10 : dKind d = 10
  ·rw [if_pos k10]
   split
   ·exact ⟨nofun, fun _ => rfl, rfl, rfl⟩
   ·rename_i h1
    exact ⟨fun _ => ⟨b0, by show x.ret ≤ x.rcv + unitsZ (dQ d); omega, by show x.rcv + unitsZ (dQ d) ≤ x.shp; omega, b3, hx.ord0, hx.ord1, hx.off⟩, fun e => absurd rfl e, rfl, rfl⟩
  ·rw [if_neg k10]
   split
   ·exact ⟨nofun, fun _ => rfl, rfl, rfl⟩
   ·rename_i h1
    exact ⟨fun _ => ⟨by show 0 ≤ x.ret + unitsZ (dQ d); omega, by show x.ret + unitsZ (dQ d) ≤ x.rcv; omega, b2, b3, hx.ord0, hx.ord1, fun e => by
     obtain ⟨c1, c2⟩ := hx.off e
     exact ⟨c1, by show x.oq + x.shp - (x.ret + unitsZ (dQ d)) ≤ x.ord; omega⟩⟩, fun e => absurd rfl e, rfl, rfl⟩

theorem actZ_ok {o : D_api_Order} {l : List D_api_Deed} {i : Nat} {d : D_api_Deed} {x : LineS} (hx : LOk x) (hw : WOk l x) (hl : ∀ d, d ∈ l → deedF d = 0) (hd : l[i]? = some d) :
  LOk (actZ o l i d x).2 ∧ WOk l (actZ o l i d x).2 ∧ (actZ o l i d x).2.no = x.no ∧ ((actZ o l i d x).1 ≠ 0 → (actZ o l i d x).2 = x) := by
 obtain ⟨_, _, _, hk, _, _, hu⟩ := deedF_zero (hl d (List.mem_of_getElem? hd))
 obtain ⟨uq, _⟩ := used_zero hu
 unfold actZ
 by_cases k4 : dKind d ≤ 4
 ·rw [if_pos k4]
  unfold wishZ
  split
  ·exact ⟨hx, hw, rfl, fun _ => rfl⟩
  ·split
   ·exact ⟨hx, hw, rfl, fun _ => rfl⟩
   ·refine ⟨⟨hx.ret0, hx.retr, hx.rcvs, hx.shp1, hx.ord0, hx.ord1, hx.off⟩, ⟨by show (-1 : Int) ≤ (i : Int); omega, fun _ => ⟨d, by show l[((i : Int)).toNat]? = some d; simpa using hd, k4⟩⟩, rfl, fun e => absurd rfl e⟩
 ·rw [if_neg k4]
  by_cases k6 : dKind d ≤ 6
  ·rw [if_pos k6]
   obtain ⟨a1, a2, a3, a4⟩ := answerZ_ok (d := d) hx hw hl
   split
   ·rename_i e
    refine ⟨a1 e, ?_, a4, fun e => absurd rfl e⟩
    rcases a3 with a3 | a3
    ·rw [a3]; exact ⟨hw.low, hw.kind⟩
    ·exact ⟨by show -1 ≤ (answerZ l d x).2.wish; omega, fun h => by have : 0 ≤ (answerZ l d x).2.wish := h; omega⟩
   ·rename_i e
    rw [a2 e]; exact ⟨hx, hw, rfl, fun _ => rfl⟩
  ·rw [if_neg k6]
   by_cases k7 : dKind d = 7
   ·rw [if_pos k7]
    have hq := uq (by rw [k7]; rfl)
    rw [show (dKind d == 2) = false by rw [k7]; rfl] at hq
    obtain ⟨q0, q1, q2⟩ := unitsZ_le hq
    split
    ·rename_i e
     refine ⟨⟨hx.ret0, hx.retr, hx.rcvs, hx.shp1, hx.ord0, hx.ord1, fun _ => ⟨q2 rfl, ?_⟩⟩, ⟨hw.low, hw.kind⟩, rfl, fun e => absurd rfl e⟩
     show unitsZ (dQ d) + x.shp - x.ret ≤ x.ord
     unfold offeredZ at e
     split at e
     ·cases e
     ·split at e
      ·cases e
      ·split at e
       ·cases e
       ·rename_i h1 h2 h3
        have := q2 rfl
        unfold LineS.opn at h3
        split at h3 <;> omega
    ·exact ⟨hx, hw, rfl, fun _ => rfl⟩
   ·rw [if_neg k7]
    by_cases k8 : dKind d = 8
    ·rw [if_pos k8]
     unfold takeZ
     split
     ·exact ⟨hx, hw, rfl, fun _ => rfl⟩
     ·split
      ·exact ⟨hx, hw, rfl, fun _ => rfl⟩
      ·rename_i h1 h2
       obtain ⟨c1, c2⟩ := hx.off (fun e => h2 (.inl e))
       have := hx.ret0; have := hx.retr; have := hx.rcvs; have := hx.ord1
       refine ⟨⟨hx.ret0, hx.retr, hx.rcvs, hx.shp1, ?_, ?_, fun e => absurd rfl e⟩, ⟨hw.low, hw.kind⟩, rfl, fun e => absurd rfl e⟩
       ·show 0 ≤ x.shp - x.ret + x.oq; omega
       ·show x.shp - x.ret + x.oq ≤ 1000000000000; omega
    ·rw [if_neg k8]
     have hq := uq (by
      unfold usQ
      refine decide_eq_true ⟨by omega, by omega, by omega, by omega, by omega⟩)
     obtain ⟨a1, a2, a3, a4⟩ := moveZ_ok (ext := oExt o) hx hq
     by_cases k9 : dKind d = 9
     ·rw [if_pos k9]
      split
      ·rename_i e
       have := a1 e
       rw [if_pos k9] at this
       exact ⟨this, ⟨by show -1 ≤ (moveZ (oExt o) d x).2.wish; rw [a3]; exact hw.low, fun h => by
        have h' : 0 ≤ (moveZ (oExt o) d x).2.wish := h
        rw [a3] at h'
        show ∃ d', l[(moveZ (oExt o) d x).2.wish.toNat]? = some d' ∧ _
        rw [a3]; exact hw.kind h'⟩, a4, fun e => absurd rfl e⟩
      ·rename_i e
       rw [a2 e]; exact ⟨hx, hw, rfl, fun _ => rfl⟩
     ·rw [if_neg k9]
      by_cases e : (moveZ (oExt o) d x).1 = 0
      ·have := a1 e
       rw [if_neg k9] at this
       exact ⟨this, ⟨by rw [a3]; exact hw.low, fun h => by rw [a3] at h ⊢; exact hw.kind h⟩, a4, fun h => absurd e h⟩
      ·rw [a2 e]; exact ⟨hx, hw, rfl, fun _ => rfl⟩

theorem sound_set {l : List D_api_Deed} {A : List LineS} (h : Sound l A) {k : Nat} {y : LineS} (h1 : LOk y) (h2 : WOk l y) : Sound l (A.set k y) := ⟨fun x hx => by
 rcases List.mem_or_eq_of_mem_set hx with hx | hx
 ·exact h.line x hx
 ·subst hx; exact ⟨h1, h2⟩⟩

theorem deedZ_ok {o : D_api_Order} {l : List D_api_Deed} {i : Nat} {d : D_api_Deed} {A : List LineS} (hA : Sound l A) (hl : ∀ d, d ∈ l → deedF d = 0) (hd : l[i]? = some d) :
  Sound l (deedZ o l i d A).2 ∧ ((deedZ o l i d A).1 ≠ 0 → (deedZ o l i d A).2 = A) := by
 unfold deedZ
 by_cases k1 : dKind d = 1
 ·rw [if_pos k1]
  split
  ·exact ⟨hA, fun _ => rfl⟩
  ·split
   ·exact ⟨hA, fun _ => rfl⟩
   ·split
    ·exact ⟨hA, fun _ => rfl⟩
    ·refine ⟨⟨fun x hx => ?_⟩, fun e => absurd rfl e⟩
     rcases List.mem_append.1 hx with hx | hx
     ·exact hA.line x hx
     ·simp only [List.mem_singleton] at hx
      subst hx
      exact ⟨⟨by show (0 : Int) ≤ 0; omega, by show (0 : Int) ≤ 0; omega, by show (0 : Int) ≤ 0; omega, by show (0 : Int) ≤ _; omega, by show (0 : Int) ≤ 0; omega, by show (0 : Int) ≤ _; omega, fun e => absurd rfl e⟩,
       ⟨by show (-1 : Int) ≤ (i : Int); omega, fun _ => ⟨d, by show l[((i : Int)).toNat]? = some d; simpa using hd, by omega⟩⟩⟩
 ·rw [if_neg k1]
  split
  ·exact ⟨hA, fun _ => rfl⟩
  ·rename_i k hk
   split
   ·rename_i x hx
    obtain ⟨h1, h2⟩ := hA.line x (List.mem_of_getElem? hx)
    obtain ⟨a1, a2, a3, a4⟩ := actZ_ok (o := o) h1 h2 hl hd
    exact ⟨sound_set hA a1 a2, fun e => by rw [a4 e]; exact set_self hx⟩
   ·exact ⟨hA, fun _ => rfl⟩

variable {o : D_api_Order} {l : List D_api_Deed} {ref : List D_api_Decimal} {pts : List D_api_Point} {wt : Int} {A : List LineS}

theorem order_follower_add_eq {i : Nat} {d : D_api_Deed} (hd : l[i]? = some d) (k1 : dKind d = 1) :
  order_follower_add (o, l, mapOf A, ref, pts, wt, ()) (i : Int) (A.map LineS.tup) = some ((deedZ o l i d A).1, (o, l, mapOf (deedZ o l i d A).2, ref, pts, wt, ()), (deedZ o l i d A).2.map LineS.tup, ()) := by
 unfold order_follower_add deedZ
 dsimp only
 rw [idx_get hd, Option.bind_some, mget_map, if_pos k1]
 cases hf : findL (dLine d) A with
 | some k => rw [show findGo d.2.2.2.2.1 0 A = some k from hf]; rfl
 | none =>
  rw [show findGo d.2.2.2.2.1 0 A = none from hf]
  dsimp only
  rw [show (!Option.isNone (none : Option Nat)) = false from rfl, cond_false]
  by_cases h1 : 500 ≤ A.length
  ·rw [if_pos h1, decide_eq_true (show ((mapOf A).length : Int) ≥ 500 by rw [mapGo_len]; omega), cond_true]
  ·rw [if_neg h1, decide_eq_false (show ¬((mapOf A).length : Int) ≥ 500 by rw [mapGo_len]; omega), cond_false]
   by_cases h2 : dUntil d < oDay o
   ·rw [if_pos h2, decide_eq_true h2, cond_true]
   ·rw [if_neg h2, decide_eq_false h2, cond_false]
    have hs := mset_map (dLine d) (newLine i d) rfl A 0 hf
    rw [Nat.zero_add] at hs
    rw [List.length_map]
    refine congrArg some ?_
    refine Prod.ext rfl (Prod.ext ?_ (Prod.ext ?_ rfl))
    ·exact Prod.ext rfl (Prod.ext rfl (Prod.ext hs rfl))
    ·show List.map LineS.tup A ++ [_] = List.map LineS.tup (A ++ [newLine i d])
     rw [List.map_append]
     rfl

end Go.Md

namespace Go.Md
open Go.Dn

theorem deedZ_none {o : D_api_Order} {l : List D_api_Deed} {i : Nat} {d : D_api_Deed} {A : List LineS} (k1 : dKind d ≠ 1) (hf : findL (dLine d) A = none) : deedZ o l i d A = (9, A) := by
 unfold deedZ; rw [if_neg k1, hf]
theorem deedZ_act {o : D_api_Order} {l : List D_api_Deed} {i : Nat} {d : D_api_Deed} {A : List LineS} {k : Nat} {x : LineS} (k1 : dKind d ≠ 1) (hf : findL (dLine d) A = some k) (hx : A[k]? = some x) : deedZ o l i d A = ((actZ o l i d x).1, A.set k (actZ o l i d x).2) := by
 unfold deedZ; rw [if_neg k1, hf]; dsimp only; rw [hx]

variable {o : D_api_Order} {l : List D_api_Deed} {ref : List D_api_Decimal} {pts : List D_api_Point} {wt : Int} {A : List LineS}

theorem set_clr {k : Nat} (x : LineS) (y : LineS) (T : D_order_line) (hT : T = y.tup) : List.set ((A.set k x).map LineS.tup) k T = (A.set k y).map LineS.tup := by
 rw [hT, tup_set, List.set_set]

theorem deed_k2 {onum obuy osel : List UInt8} {oday oext : Int} {olns : List D_api_Line} {day byy no line : Int} {art : List UInt8} {q : D_api_Decimal} {unit : List UInt8} {p : D_api_Decimal} {un to : Int} {i : Nat} (he0 : 0 ≤ oext) (he1 : oext ≤ 1000) (hl : ∀ d, d ∈ l → deedF d = 0)
  (hd : l[i]? = some (day, byy, no, 2, line, art, q, unit, p, un, to)) {k : Nat} {x : LineS} (hf : findGo line 0 A = some k) (hx : A[k]? = some x) (hs : LOk x) (hw : WOk l x) :
  order_follower_deed ((onum, obuy, osel, oday, oext, olns), l, mapOf A, ref, pts, wt, ()) (i : Int) (A.map LineS.tup) = some ((actZ (onum, obuy, osel, oday, oext, olns) l i (day, byy, no, 2, line, art, q, unit, p, un, to) x).1, ((onum, obuy, osel, oday, oext, olns), l, mapOf A, ref, pts, wt, ()), (A.set k (actZ (onum, obuy, osel, oday, oext, olns) l i (day, byy, no, 2, line, art, q, unit, p, un, to) x).2).map LineS.tup, ()) := by
 have hdf := hl _ (List.mem_of_getElem? hd)
 obtain ⟨_, _, _, _, _, _, hu⟩ := deedF_zero hdf
 obtain ⟨uq, _⟩ := used_zero hu
 have h21 : ((2 : Int) == 1) = false := rfl
 have h22 : ((2 : Int) == 2) = true := rfl
 have h23 : ((2 : Int) == 3) = false := rfl
 have h24 : ((2 : Int) == 4) = false := rfl
 have h25 : ((2 : Int) == 5) = false := rfl
 have h26 : ((2 : Int) == 6) = false := rfl
 have h27 : ((2 : Int) == 7) = false := rfl
 have h28 : ((2 : Int) == 8) = false := rfl
 have h29 : ((2 : Int) == 9) = false := rfl
 unfold order_follower_deed
 dsimp only
 rw [idx_get hd, Option.bind_some]
 dsimp only
 rw [mget_map, hf]
 simp only [h21, h22, h23, h24, h25, h26, h27, h28, h29, cond_true, cond_false, joinB, Option.isNone_some, Option.bind_some, order_follower_wish_eq hx hd]
 rfl

theorem deed_k3 {onum obuy osel : List UInt8} {oday oext : Int} {olns : List D_api_Line} {day byy no line : Int} {art : List UInt8} {q : D_api_Decimal} {unit : List UInt8} {p : D_api_Decimal} {un to : Int} {i : Nat} (he0 : 0 ≤ oext) (he1 : oext ≤ 1000) (hl : ∀ d, d ∈ l → deedF d = 0)
  (hd : l[i]? = some (day, byy, no, 3, line, art, q, unit, p, un, to)) {k : Nat} {x : LineS} (hf : findGo line 0 A = some k) (hx : A[k]? = some x) (hs : LOk x) (hw : WOk l x) :
  order_follower_deed ((onum, obuy, osel, oday, oext, olns), l, mapOf A, ref, pts, wt, ()) (i : Int) (A.map LineS.tup) = some ((actZ (onum, obuy, osel, oday, oext, olns) l i (day, byy, no, 3, line, art, q, unit, p, un, to) x).1, ((onum, obuy, osel, oday, oext, olns), l, mapOf A, ref, pts, wt, ()), (A.set k (actZ (onum, obuy, osel, oday, oext, olns) l i (day, byy, no, 3, line, art, q, unit, p, un, to) x).2).map LineS.tup, ()) := by
 have hdf := hl _ (List.mem_of_getElem? hd)
 obtain ⟨_, _, _, _, _, _, hu⟩ := deedF_zero hdf
 obtain ⟨uq, _⟩ := used_zero hu
 have h31 : ((3 : Int) == 1) = false := rfl
 have h32 : ((3 : Int) == 2) = false := rfl
 have h33 : ((3 : Int) == 3) = true := rfl
 have h34 : ((3 : Int) == 4) = false := rfl
 have h35 : ((3 : Int) == 5) = false := rfl
 have h36 : ((3 : Int) == 6) = false := rfl
 have h37 : ((3 : Int) == 7) = false := rfl
 have h38 : ((3 : Int) == 8) = false := rfl
 have h39 : ((3 : Int) == 9) = false := rfl
 unfold order_follower_deed
 dsimp only
 rw [idx_get hd, Option.bind_some]
 dsimp only
 rw [mget_map, hf]
 simp only [h31, h32, h33, h34, h35, h36, h37, h38, h39, cond_true, cond_false, joinB, Option.isNone_some, Option.bind_some, order_follower_wish_eq hx hd]
 rfl

theorem deed_k4 {onum obuy osel : List UInt8} {oday oext : Int} {olns : List D_api_Line} {day byy no line : Int} {art : List UInt8} {q : D_api_Decimal} {unit : List UInt8} {p : D_api_Decimal} {un to : Int} {i : Nat} (he0 : 0 ≤ oext) (he1 : oext ≤ 1000) (hl : ∀ d, d ∈ l → deedF d = 0)
  (hd : l[i]? = some (day, byy, no, 4, line, art, q, unit, p, un, to)) {k : Nat} {x : LineS} (hf : findGo line 0 A = some k) (hx : A[k]? = some x) (hs : LOk x) (hw : WOk l x) :
  order_follower_deed ((onum, obuy, osel, oday, oext, olns), l, mapOf A, ref, pts, wt, ()) (i : Int) (A.map LineS.tup) = some ((actZ (onum, obuy, osel, oday, oext, olns) l i (day, byy, no, 4, line, art, q, unit, p, un, to) x).1, ((onum, obuy, osel, oday, oext, olns), l, mapOf A, ref, pts, wt, ()), (A.set k (actZ (onum, obuy, osel, oday, oext, olns) l i (day, byy, no, 4, line, art, q, unit, p, un, to) x).2).map LineS.tup, ()) := by
 have hdf := hl _ (List.mem_of_getElem? hd)
 obtain ⟨_, _, _, _, _, _, hu⟩ := deedF_zero hdf
 obtain ⟨uq, _⟩ := used_zero hu
 have h41 : ((4 : Int) == 1) = false := rfl
 have h42 : ((4 : Int) == 2) = false := rfl
 have h43 : ((4 : Int) == 3) = false := rfl
 have h44 : ((4 : Int) == 4) = true := rfl
 have h45 : ((4 : Int) == 5) = false := rfl
 have h46 : ((4 : Int) == 6) = false := rfl
 have h47 : ((4 : Int) == 7) = false := rfl
 have h48 : ((4 : Int) == 8) = false := rfl
 have h49 : ((4 : Int) == 9) = false := rfl
 unfold order_follower_deed
 dsimp only
 rw [idx_get hd, Option.bind_some]
 dsimp only
 rw [mget_map, hf]
 simp only [h41, h42, h43, h44, h45, h46, h47, h48, h49, cond_true, cond_false, joinB, Option.isNone_some, Option.bind_some, order_follower_wish_eq hx hd]
 rfl

theorem deed_k5 {onum obuy osel : List UInt8} {oday oext : Int} {olns : List D_api_Line} {day byy no line : Int} {art : List UInt8} {q : D_api_Decimal} {unit : List UInt8} {p : D_api_Decimal} {un to : Int} {i : Nat} (he0 : 0 ≤ oext) (he1 : oext ≤ 1000) (hl : ∀ d, d ∈ l → deedF d = 0)
  (hd : l[i]? = some (day, byy, no, 5, line, art, q, unit, p, un, to)) {k : Nat} {x : LineS} (hf : findGo line 0 A = some k) (hx : A[k]? = some x) (hs : LOk x) (hw : WOk l x) :
  order_follower_deed ((onum, obuy, osel, oday, oext, olns), l, mapOf A, ref, pts, wt, ()) (i : Int) (A.map LineS.tup) = some ((actZ (onum, obuy, osel, oday, oext, olns) l i (day, byy, no, 5, line, art, q, unit, p, un, to) x).1, ((onum, obuy, osel, oday, oext, olns), l, mapOf A, ref, pts, wt, ()), (A.set k (actZ (onum, obuy, osel, oday, oext, olns) l i (day, byy, no, 5, line, art, q, unit, p, un, to) x).2).map LineS.tup, ()) := by
 have hdf := hl _ (List.mem_of_getElem? hd)
 obtain ⟨_, _, _, _, _, _, hu⟩ := deedF_zero hdf
 obtain ⟨uq, _⟩ := used_zero hu
 have h51 : ((5 : Int) == 1) = false := rfl
 have h52 : ((5 : Int) == 2) = false := rfl
 have h53 : ((5 : Int) == 3) = false := rfl
 have h54 : ((5 : Int) == 4) = false := rfl
 have h55 : ((5 : Int) == 5) = true := rfl
 have h56 : ((5 : Int) == 6) = false := rfl
 have h57 : ((5 : Int) == 7) = false := rfl
 have h58 : ((5 : Int) == 8) = false := rfl
 have h59 : ((5 : Int) == 9) = false := rfl
 unfold order_follower_deed
 dsimp only
 rw [idx_get hd, Option.bind_some]
 dsimp only
 rw [mget_map, hf]
 simp only [h51, h52, h53, h54, h55, h56, h57, h58, h59, cond_true, cond_false, joinB, Option.isNone_some, Option.bind_some, order_follower_answer_eq hx hs hw hl, order_isSellers_eq]
 have ha : actZ (onum, obuy, osel, oday, oext, olns) l i (day, byy, no, 5, line, art, q, unit, p, un, to) x = (if (answerZ l (day, byy, no, 5, line, art, q, unit, p, un, to) x).1 = 0 then (0, (answerZ l (day, byy, no, 5, line, art, q, unit, p, un, to) x).2.clr) else answerZ l (day, byy, no, 5, line, art, q, unit, p, un, to) x) := rfl
 rw [ha]
 by_cases e : (answerZ l (day, byy, no, 5, line, art, q, unit, p, un, to) x).1 = 0
 ·rw [if_pos e, e]
  simp only [show ((0 : Int) == 0) = true from rfl, cond_true, Option.bind_some, tup_get (get_set hx _)]
  simp only [true_or, or_true, decide_true, cond_true]
  refine congrArg some (Prod.ext rfl (Prod.ext rfl (Prod.ext ?_ rfl)))
  exact set_clr (answerZ l (day, byy, no, 5, line, art, q, unit, p, un, to) x).2 ((answerZ l (day, byy, no, 5, line, art, q, unit, p, un, to) x).2.clr) _ rfl
 ·rw [if_neg e, beq_of_ne e, cond_false]
  rfl

theorem deed_k6 {onum obuy osel : List UInt8} {oday oext : Int} {olns : List D_api_Line} {day byy no line : Int} {art : List UInt8} {q : D_api_Decimal} {unit : List UInt8} {p : D_api_Decimal} {un to : Int} {i : Nat} (he0 : 0 ≤ oext) (he1 : oext ≤ 1000) (hl : ∀ d, d ∈ l → deedF d = 0)
  (hd : l[i]? = some (day, byy, no, 6, line, art, q, unit, p, un, to)) {k : Nat} {x : LineS} (hf : findGo line 0 A = some k) (hx : A[k]? = some x) (hs : LOk x) (hw : WOk l x) :
  order_follower_deed ((onum, obuy, osel, oday, oext, olns), l, mapOf A, ref, pts, wt, ()) (i : Int) (A.map LineS.tup) = some ((actZ (onum, obuy, osel, oday, oext, olns) l i (day, byy, no, 6, line, art, q, unit, p, un, to) x).1, ((onum, obuy, osel, oday, oext, olns), l, mapOf A, ref, pts, wt, ()), (A.set k (actZ (onum, obuy, osel, oday, oext, olns) l i (day, byy, no, 6, line, art, q, unit, p, un, to) x).2).map LineS.tup, ()) := by
 have hdf := hl _ (List.mem_of_getElem? hd)
 obtain ⟨_, _, _, _, _, _, hu⟩ := deedF_zero hdf
 obtain ⟨uq, _⟩ := used_zero hu
 have h61 : ((6 : Int) == 1) = false := rfl
 have h62 : ((6 : Int) == 2) = false := rfl
 have h63 : ((6 : Int) == 3) = false := rfl
 have h64 : ((6 : Int) == 4) = false := rfl
 have h65 : ((6 : Int) == 5) = false := rfl
 have h66 : ((6 : Int) == 6) = true := rfl
 have h67 : ((6 : Int) == 7) = false := rfl
 have h68 : ((6 : Int) == 8) = false := rfl
 have h69 : ((6 : Int) == 9) = false := rfl
 unfold order_follower_deed
 dsimp only
 rw [idx_get hd, Option.bind_some]
 dsimp only
 rw [mget_map, hf]
 simp only [h61, h62, h63, h64, h65, h66, h67, h68, h69, cond_true, cond_false, joinB, Option.isNone_some, Option.bind_some, order_follower_answer_eq hx hs hw hl, order_isSellers_eq]
 have ha : actZ (onum, obuy, osel, oday, oext, olns) l i (day, byy, no, 6, line, art, q, unit, p, un, to) x = (if (answerZ l (day, byy, no, 6, line, art, q, unit, p, un, to) x).1 = 0 then (0, (answerZ l (day, byy, no, 6, line, art, q, unit, p, un, to) x).2.clr) else answerZ l (day, byy, no, 6, line, art, q, unit, p, un, to) x) := rfl
 rw [ha]
 by_cases e : (answerZ l (day, byy, no, 6, line, art, q, unit, p, un, to) x).1 = 0
 ·rw [if_pos e, e]
  simp only [show ((0 : Int) == 0) = true from rfl, cond_true, Option.bind_some, tup_get (get_set hx _)]
  simp only [true_or, or_true, decide_true, cond_true]
  refine congrArg some (Prod.ext rfl (Prod.ext rfl (Prod.ext ?_ rfl)))
  exact set_clr (answerZ l (day, byy, no, 6, line, art, q, unit, p, un, to) x).2 ((answerZ l (day, byy, no, 6, line, art, q, unit, p, un, to) x).2.clr) _ rfl
 ·rw [if_neg e, beq_of_ne e, cond_false]
  rfl

theorem deed_k7 {onum obuy osel : List UInt8} {oday oext : Int} {olns : List D_api_Line} {day byy no line : Int} {art : List UInt8} {q : D_api_Decimal} {unit : List UInt8} {p : D_api_Decimal} {un to : Int} {i : Nat} (he0 : 0 ≤ oext) (he1 : oext ≤ 1000) (hl : ∀ d, d ∈ l → deedF d = 0)
  (hd : l[i]? = some (day, byy, no, 7, line, art, q, unit, p, un, to)) {k : Nat} {x : LineS} (hf : findGo line 0 A = some k) (hx : A[k]? = some x) (hs : LOk x) (hw : WOk l x) :
  order_follower_deed ((onum, obuy, osel, oday, oext, olns), l, mapOf A, ref, pts, wt, ()) (i : Int) (A.map LineS.tup) = some ((actZ (onum, obuy, osel, oday, oext, olns) l i (day, byy, no, 7, line, art, q, unit, p, un, to) x).1, ((onum, obuy, osel, oday, oext, olns), l, mapOf A, ref, pts, wt, ()), (A.set k (actZ (onum, obuy, osel, oday, oext, olns) l i (day, byy, no, 7, line, art, q, unit, p, un, to) x).2).map LineS.tup, ()) := by
 have hdf := hl _ (List.mem_of_getElem? hd)
 obtain ⟨_, _, _, _, _, _, hu⟩ := deedF_zero hdf
 obtain ⟨uq, _⟩ := used_zero hu
 have h71 : ((7 : Int) == 1) = false := rfl
 have h72 : ((7 : Int) == 2) = false := rfl
 have h73 : ((7 : Int) == 3) = false := rfl
 have h74 : ((7 : Int) == 4) = false := rfl
 have h75 : ((7 : Int) == 5) = false := rfl
 have h76 : ((7 : Int) == 6) = false := rfl
 have h77 : ((7 : Int) == 7) = true := rfl
 have h78 : ((7 : Int) == 8) = false := rfl
 have h79 : ((7 : Int) == 9) = false := rfl
 unfold order_follower_deed
 dsimp only
 rw [idx_get hd, Option.bind_some]
 dsimp only
 rw [mget_map, hf]
 have hq : qOk q false = true := uq rfl
 simp only [h71, h72, h73, h74, h75, h76, h77, h78, h79, cond_true, cond_false, joinB, Option.isNone_some, Option.bind_some, order_follower_offered_eq hx hs (d := (day, byy, no, 7, line, art, q, unit, p, un, to)) hq, order_isSellers_eq]
 have ha : actZ (onum, obuy, osel, oday, oext, olns) l i (day, byy, no, 7, line, art, q, unit, p, un, to) x = (if offeredZ oday (day, byy, no, 7, line, art, q, unit, p, un, to) x = 0 then (0, { x with ono := no, oq := unitsZ q, ount := un }) else (offeredZ oday (day, byy, no, 7, line, art, q, unit, p, un, to) x, x)) := rfl
 rw [ha]
 by_cases e : offeredZ oday (day, byy, no, 7, line, art, q, unit, p, un, to) x = 0
 ·rw [if_pos e, show offeredZ (oDay (onum, obuy, osel, oday, oext, olns)) (day, byy, no, 7, line, art, q, unit, p, un, to) x = 0 from e]
  simp only [show ((0 : Int) == 0) = true from rfl, cond_true, Option.bind_some, tup_get hx]
  simp only [true_or, or_true, decide_true, cond_true]
  rw [show order_units (q.1, q.2) = some (unitsZ q, ()) from order_units_eq hq, Option.bind_some]
  simp only [getset hx, Option.bind_some, List.set_set]
  rw [tup_set1 { x with ono := no, oq := unitsZ q, ount := un } _ rfl]
 ·rw [if_neg e, show (offeredZ (oDay (onum, obuy, osel, oday, oext, olns)) (day, byy, no, 7, line, art, q, unit, p, un, to) x == 0) = false from beq_of_ne e, cond_false, set_self hx]
  rfl

theorem deed_k8 {onum obuy osel : List UInt8} {oday oext : Int} {olns : List D_api_Line} {day byy no line : Int} {art : List UInt8} {q : D_api_Decimal} {unit : List UInt8} {p : D_api_Decimal} {un to : Int} {i : Nat} (he0 : 0 ≤ oext) (he1 : oext ≤ 1000) (hl : ∀ d, d ∈ l → deedF d = 0)
  (hd : l[i]? = some (day, byy, no, 8, line, art, q, unit, p, un, to)) {k : Nat} {x : LineS} (hf : findGo line 0 A = some k) (hx : A[k]? = some x) (hs : LOk x) (hw : WOk l x) :
  order_follower_deed ((onum, obuy, osel, oday, oext, olns), l, mapOf A, ref, pts, wt, ()) (i : Int) (A.map LineS.tup) = some ((actZ (onum, obuy, osel, oday, oext, olns) l i (day, byy, no, 8, line, art, q, unit, p, un, to) x).1, ((onum, obuy, osel, oday, oext, olns), l, mapOf A, ref, pts, wt, ()), (A.set k (actZ (onum, obuy, osel, oday, oext, olns) l i (day, byy, no, 8, line, art, q, unit, p, un, to) x).2).map LineS.tup, ()) := by
 have hdf := hl _ (List.mem_of_getElem? hd)
 obtain ⟨_, _, _, _, _, _, hu⟩ := deedF_zero hdf
 obtain ⟨uq, _⟩ := used_zero hu
 have h81 : ((8 : Int) == 1) = false := rfl
 have h82 : ((8 : Int) == 2) = false := rfl
 have h83 : ((8 : Int) == 3) = false := rfl
 have h84 : ((8 : Int) == 4) = false := rfl
 have h85 : ((8 : Int) == 5) = false := rfl
 have h86 : ((8 : Int) == 6) = false := rfl
 have h87 : ((8 : Int) == 7) = false := rfl
 have h88 : ((8 : Int) == 8) = true := rfl
 have h89 : ((8 : Int) == 9) = false := rfl
 unfold order_follower_deed
 dsimp only
 rw [idx_get hd, Option.bind_some]
 dsimp only
 rw [mget_map, hf]
 simp only [h81, h82, h83, h84, h85, h86, h87, h88, h89, cond_true, cond_false, joinB, Option.isNone_some, Option.bind_some, order_follower_take_eq hx hs]
 rfl

theorem deed_k9 {onum obuy osel : List UInt8} {oday oext : Int} {olns : List D_api_Line} {day byy no line : Int} {art : List UInt8} {q : D_api_Decimal} {unit : List UInt8} {p : D_api_Decimal} {un to : Int} {i : Nat} (he0 : 0 ≤ oext) (he1 : oext ≤ 1000) (hl : ∀ d, d ∈ l → deedF d = 0)
  (hd : l[i]? = some (day, byy, no, 9, line, art, q, unit, p, un, to)) {k : Nat} {x : LineS} (hf : findGo line 0 A = some k) (hx : A[k]? = some x) (hs : LOk x) (hw : WOk l x) :
  order_follower_deed ((onum, obuy, osel, oday, oext, olns), l, mapOf A, ref, pts, wt, ()) (i : Int) (A.map LineS.tup) = some ((actZ (onum, obuy, osel, oday, oext, olns) l i (day, byy, no, 9, line, art, q, unit, p, un, to) x).1, ((onum, obuy, osel, oday, oext, olns), l, mapOf A, ref, pts, wt, ()), (A.set k (actZ (onum, obuy, osel, oday, oext, olns) l i (day, byy, no, 9, line, art, q, unit, p, un, to) x).2).map LineS.tup, ()) := by
 have hdf := hl _ (List.mem_of_getElem? hd)
 obtain ⟨_, _, _, _, _, _, hu⟩ := deedF_zero hdf
 obtain ⟨uq, _⟩ := used_zero hu
 have h91 : ((9 : Int) == 1) = false := rfl
 have h92 : ((9 : Int) == 2) = false := rfl
 have h93 : ((9 : Int) == 3) = false := rfl
 have h94 : ((9 : Int) == 4) = false := rfl
 have h95 : ((9 : Int) == 5) = false := rfl
 have h96 : ((9 : Int) == 6) = false := rfl
 have h97 : ((9 : Int) == 7) = false := rfl
 have h98 : ((9 : Int) == 8) = false := rfl
 have h99 : ((9 : Int) == 9) = true := rfl
 unfold order_follower_deed
 dsimp only
 rw [idx_get hd, Option.bind_some]
 dsimp only
 rw [mget_map, hf]
 have hq : qOk q false = true := uq rfl
 simp only [h91, h92, h93, h94, h95, h96, h97, h98, h99, cond_true, cond_false, joinB, Option.isNone_some, Option.bind_some, order_follower_move_eq hx hs (o := (onum, obuy, osel, oday, oext, olns)) he0 he1 (d := (day, byy, no, 9, line, art, q, unit, p, un, to)) hq, order_isSellers_eq]
 have ha : actZ (onum, obuy, osel, oday, oext, olns) l i (day, byy, no, 9, line, art, q, unit, p, un, to) x = (if (moveZ oext (day, byy, no, 9, line, art, q, unit, p, un, to) x).1 = 0 then (0, (moveZ oext (day, byy, no, 9, line, art, q, unit, p, un, to) x).2.clr) else moveZ oext (day, byy, no, 9, line, art, q, unit, p, un, to) x) := rfl
 rw [ha]
 by_cases e : (moveZ oext (day, byy, no, 9, line, art, q, unit, p, un, to) x).1 = 0
 ·rw [if_pos e, show (moveZ (oExt (onum, obuy, osel, oday, oext, olns)) (day, byy, no, 9, line, art, q, unit, p, un, to) x).1 = 0 from e]
  simp only [show ((0 : Int) == 0) = true from rfl, cond_true, Option.bind_some, tup_get (get_set hx _)]
  simp only [true_or, or_true, decide_true, cond_true]
  refine congrArg some (Prod.ext rfl (Prod.ext rfl (Prod.ext ?_ rfl)))
  exact set_clr (moveZ oext (day, byy, no, 9, line, art, q, unit, p, un, to) x).2 ((moveZ oext (day, byy, no, 9, line, art, q, unit, p, un, to) x).2.clr) _ rfl
 ·rw [if_neg e, show ((moveZ (oExt (onum, obuy, osel, oday, oext, olns)) (day, byy, no, 9, line, art, q, unit, p, un, to) x).1 == 0) = false from beq_of_ne e, cond_false]
  rfl

theorem deed_k10 {onum obuy osel : List UInt8} {oday oext : Int} {olns : List D_api_Line} {day byy no line : Int} {art : List UInt8} {q : D_api_Decimal} {unit : List UInt8} {p : D_api_Decimal} {un to : Int} {i : Nat} (he0 : 0 ≤ oext) (he1 : oext ≤ 1000) (hl : ∀ d, d ∈ l → deedF d = 0)
  (hd : l[i]? = some (day, byy, no, 10, line, art, q, unit, p, un, to)) {k : Nat} {x : LineS} (hf : findGo line 0 A = some k) (hx : A[k]? = some x) (hs : LOk x) (hw : WOk l x) :
  order_follower_deed ((onum, obuy, osel, oday, oext, olns), l, mapOf A, ref, pts, wt, ()) (i : Int) (A.map LineS.tup) = some ((actZ (onum, obuy, osel, oday, oext, olns) l i (day, byy, no, 10, line, art, q, unit, p, un, to) x).1, ((onum, obuy, osel, oday, oext, olns), l, mapOf A, ref, pts, wt, ()), (A.set k (actZ (onum, obuy, osel, oday, oext, olns) l i (day, byy, no, 10, line, art, q, unit, p, un, to) x).2).map LineS.tup, ()) := by
 have hdf := hl _ (List.mem_of_getElem? hd)
 obtain ⟨_, _, _, _, _, _, hu⟩ := deedF_zero hdf
 obtain ⟨uq, _⟩ := used_zero hu
 have h101 : ((10 : Int) == 1) = false := rfl
 have h102 : ((10 : Int) == 2) = false := rfl
 have h103 : ((10 : Int) == 3) = false := rfl
 have h104 : ((10 : Int) == 4) = false := rfl
 have h105 : ((10 : Int) == 5) = false := rfl
 have h106 : ((10 : Int) == 6) = false := rfl
 have h107 : ((10 : Int) == 7) = false := rfl
 have h108 : ((10 : Int) == 8) = false := rfl
 have h109 : ((10 : Int) == 9) = false := rfl
 unfold order_follower_deed
 dsimp only
 rw [idx_get hd, Option.bind_some]
 dsimp only
 rw [mget_map, hf]
 have hq : qOk q false = true := uq rfl
 simp only [h101, h102, h103, h104, h105, h106, h107, h108, h109, cond_true, cond_false, joinB, Option.isNone_some, Option.bind_some, order_follower_move_eq hx hs (o := (onum, obuy, osel, oday, oext, olns)) he0 he1 (d := (day, byy, no, 10, line, art, q, unit, p, un, to)) hq, order_isSellers_eq]
 have ha : actZ (onum, obuy, osel, oday, oext, olns) l i (day, byy, no, 10, line, art, q, unit, p, un, to) x = moveZ oext (day, byy, no, 10, line, art, q, unit, p, un, to) x := rfl
 rw [ha]
 by_cases e : (moveZ oext (day, byy, no, 10, line, art, q, unit, p, un, to) x).1 = 0
 ·rw [show ((moveZ (oExt (onum, obuy, osel, oday, oext, olns)) (day, byy, no, 10, line, art, q, unit, p, un, to) x).1 == 0) = true by show ((moveZ oext (day, byy, no, 10, line, art, q, unit, p, un, to) x).1 == 0) = true; rw [e]; rfl]
  rfl
 ·rw [show ((moveZ (oExt (onum, obuy, osel, oday, oext, olns)) (day, byy, no, 10, line, art, q, unit, p, un, to) x).1 == 0) = false from beq_of_ne e]
  rfl

theorem deed_k11 {onum obuy osel : List UInt8} {oday oext : Int} {olns : List D_api_Line} {day byy no line : Int} {art : List UInt8} {q : D_api_Decimal} {unit : List UInt8} {p : D_api_Decimal} {un to : Int} {i : Nat} (he0 : 0 ≤ oext) (he1 : oext ≤ 1000) (hl : ∀ d, d ∈ l → deedF d = 0)
  (hd : l[i]? = some (day, byy, no, 11, line, art, q, unit, p, un, to)) {k : Nat} {x : LineS} (hf : findGo line 0 A = some k) (hx : A[k]? = some x) (hs : LOk x) (hw : WOk l x) :
  order_follower_deed ((onum, obuy, osel, oday, oext, olns), l, mapOf A, ref, pts, wt, ()) (i : Int) (A.map LineS.tup) = some ((actZ (onum, obuy, osel, oday, oext, olns) l i (day, byy, no, 11, line, art, q, unit, p, un, to) x).1, ((onum, obuy, osel, oday, oext, olns), l, mapOf A, ref, pts, wt, ()), (A.set k (actZ (onum, obuy, osel, oday, oext, olns) l i (day, byy, no, 11, line, art, q, unit, p, un, to) x).2).map LineS.tup, ()) := by
 have hdf := hl _ (List.mem_of_getElem? hd)
 obtain ⟨_, _, _, _, _, _, hu⟩ := deedF_zero hdf
 obtain ⟨uq, _⟩ := used_zero hu
 have h111 : ((11 : Int) == 1) = false := rfl
 have h112 : ((11 : Int) == 2) = false := rfl
 have h113 : ((11 : Int) == 3) = false := rfl
 have h114 : ((11 : Int) == 4) = false := rfl
 have h115 : ((11 : Int) == 5) = false := rfl
 have h116 : ((11 : Int) == 6) = false := rfl
 have h117 : ((11 : Int) == 7) = false := rfl
 have h118 : ((11 : Int) == 8) = false := rfl
 have h119 : ((11 : Int) == 9) = false := rfl
 unfold order_follower_deed
 dsimp only
 rw [idx_get hd, Option.bind_some]
 dsimp only
 rw [mget_map, hf]
 have hq : qOk q false = true := uq rfl
 simp only [h111, h112, h113, h114, h115, h116, h117, h118, h119, cond_true, cond_false, joinB, Option.isNone_some, Option.bind_some, order_follower_move_eq hx hs (o := (onum, obuy, osel, oday, oext, olns)) he0 he1 (d := (day, byy, no, 11, line, art, q, unit, p, un, to)) hq, order_isSellers_eq]
 have ha : actZ (onum, obuy, osel, oday, oext, olns) l i (day, byy, no, 11, line, art, q, unit, p, un, to) x = moveZ oext (day, byy, no, 11, line, art, q, unit, p, un, to) x := rfl
 rw [ha]
 by_cases e : (moveZ oext (day, byy, no, 11, line, art, q, unit, p, un, to) x).1 = 0
 ·rw [show ((moveZ (oExt (onum, obuy, osel, oday, oext, olns)) (day, byy, no, 11, line, art, q, unit, p, un, to) x).1 == 0) = true by show ((moveZ oext (day, byy, no, 11, line, art, q, unit, p, un, to) x).1 == 0) = true; rw [e]; rfl]
  rfl
 ·rw [show ((moveZ (oExt (onum, obuy, osel, oday, oext, olns)) (day, byy, no, 11, line, art, q, unit, p, un, to) x).1 == 0) = false from beq_of_ne e]
  rfl

theorem order_follower_deed_eq {i : Nat} {d : D_api_Deed} (hA : Sound l A) (hl : ∀ d, d ∈ l → deedF d = 0) (hd : l[i]? = some d) (he0 : 0 ≤ oExt o) (he1 : oExt o ≤ 1000) :
  order_follower_deed (o, l, mapOf A, ref, pts, wt, ()) (i : Int) (A.map LineS.tup) = some ((deedZ o l i d A).1, (o, l, mapOf (deedZ o l i d A).2, ref, pts, wt, ()), (deedZ o l i d A).2.map LineS.tup, ()) := by
 obtain ⟨_, _, _, hk, _, _, _⟩ := deedF_zero (hl d (List.mem_of_getElem? hd))
 by_cases k1 : dKind d = 1
 ·unfold order_follower_deed
  dsimp only
  rw [idx_get hd, Option.bind_some, show (d.2.2.2.1 == 1) = true by simpa using k1, cond_true]
  rw [order_follower_add_eq hd k1, Option.bind_some]
 ·cases hf : findL (dLine d) A with
  | none =>
   rw [deedZ_none k1 hf]
   unfold order_follower_deed
   dsimp only
   rw [idx_get hd, Option.bind_some, show (d.2.2.2.1 == 1) = false by simpa using k1, cond_false]
   rw [mget_map, show findGo d.2.2.2.2.1 0 A = none from hf]
   rfl
  | some k =>
   obtain ⟨x, hx, hxn⟩ := findL_some hf
   rw [deedZ_act k1 hf hx]
   obtain ⟨hs, hw⟩ := hA.line x (List.mem_of_getElem? hx)
   have hm : mapOf (A.set k (actZ o l i d x).2) = mapOf A := mapGo_set A 0 (fun z hz => by
    rw [hx] at hz; cases hz
    exact (actZ_ok (o := o) hs hw hl hd).2.2.1)
   rw [hm]
   obtain ⟨onum, obuy, osel, oday, oext, olns⟩ := o
   obtain ⟨day, byy, no, kk, line, art, q, unit, p, un, to⟩ := d
   have hk' : kk = 2 ∨ kk = 3 ∨ kk = 4 ∨ kk = 5 ∨ kk = 6 ∨ kk = 7 ∨ kk = 8 ∨ kk = 9 ∨ kk = 10 ∨ kk = 11 := by
    have h1 : 1 ≤ kk ∧ kk ≤ 11 := hk
    have h2 : kk ≠ 1 := k1
    omega
   rcases hk' with rfl | rfl | rfl | rfl | rfl | rfl | rfl | rfl | rfl | rfl
   ·exact deed_k2 he0 he1 hl hd hf hx hs hw
   ·exact deed_k3 he0 he1 hl hd hf hx hs hw
   ·exact deed_k4 he0 he1 hl hd hf hx hs hw
   ·exact deed_k5 he0 he1 hl hd hf hx hs hw
   ·exact deed_k6 he0 he1 hl hd hf hx hs hw
   ·exact deed_k7 he0 he1 hl hd hf hx hs hw
   ·exact deed_k8 he0 he1 hl hd hf hx hs hw
   ·exact deed_k9 he0 he1 hl hd hf hx hs hw
   ·exact deed_k10 he0 he1 hl hd hf hx hs hw
   ·exact deed_k11 he0 he1 hl hd hf hx hs hw

end Go.Md
