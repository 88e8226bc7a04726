/-
  Plain facts: the order of strings; decimals. No condition.
-/
import Derived.Test.YtglaikpklmafkaaGreatDoorXr
set_option linter.all false
namespace Go.Md
open Go.Dn

theorem bless_irrefl : ∀ a : List UInt8, Op.bytesLess a a = false
  | [] => rfl
  | x :: a => by simp [Op.bytesLess, bless_irrefl a]
theorem cmpB_zero : ∀ {a b : List UInt8}, Lib.compareBytes a b = 0 ↔ a = b
  | [], [] => by simp [Lib.compareBytes]
  | [], _ :: _ => by simp [Lib.compareBytes]
  | _ :: _, [] => by simp [Lib.compareBytes]
  | x :: a, y :: b => by
    simp only [Lib.compareBytes, List.cons.injEq]
    by_cases h1 : x < y
    · simp only [h1, if_true]
      constructor
      · intro h; omega
      · rintro ⟨rfl, _⟩; exact absurd h1 (UInt8.lt_irrefl x)
    · by_cases h2 : y < x
      · simp only [h1, h2, if_true, if_false]
        constructor
        · intro h; omega
        · rintro ⟨rfl, _⟩; exact absurd h2 (UInt8.lt_irrefl x)
      · have : x = y := UInt8.le_antisymm (UInt8.not_lt.1 h2) (UInt8.not_lt.1 h1)
        subst this
        simp only [h1, if_false, true_and]
        exact cmpB_zero
theorem cmpB_neg : ∀ {a b : List UInt8}, Lib.compareBytes a b < 0 ↔ Op.bytesLess a b = true
  | [], [] => by simp [Lib.compareBytes, Op.bytesLess]
  | [], _ :: _ => by simp [Lib.compareBytes, Op.bytesLess]
  | _ :: _, [] => by simp [Lib.compareBytes, Op.bytesLess]
  | x :: a, y :: b => by
    have ih := @cmpB_neg a b
    simp only [Lib.compareBytes, Op.bytesLess]
    by_cases h1 : x < y
    · simp [h1]
    · by_cases h2 : y < x
      · have hne : ¬ x = y := fun e => by subst e; exact absurd h2 (UInt8.lt_irrefl x)
        simp [h1, h2, hne]
      · have : x = y := UInt8.le_antisymm (UInt8.not_lt.1 h2) (UInt8.not_lt.1 h1)
        subst this
        simp [h1, ih]
theorem bless_trans : ∀ {a b c : List UInt8}, Op.bytesLess a b = true → Op.bytesLess b c = true → Op.bytesLess a c = true
  | [], [], _, h, _ => by simp [Op.bytesLess] at h
  | [], _ :: _, [], _, h => by simp [Op.bytesLess] at h
  | [], _ :: _, _ :: _, _, _ => rfl
  | _ :: _, [], _, h, _ => by simp [Op.bytesLess] at h
  | _ :: _, _ :: _, [], _, h => by simp [Op.bytesLess] at h
  | x :: a, y :: b, z :: c, h, k => by
    simp only [Op.bytesLess, Bool.or_eq_true, Bool.and_eq_true, decide_eq_true_eq, beq_iff_eq] at h k ⊢
    rcases h with h | ⟨rfl, h⟩
    · rcases k with k | ⟨rfl, k⟩
      · exact .inl (UInt8.lt_trans h k)
      · exact .inl h
    · rcases k with k | ⟨rfl, k⟩
      · exact .inl k
      · exact .inr ⟨rfl, bless_trans h k⟩
theorem bless_asymm {a b : List UInt8} (h : Op.bytesLess a b = true) : Op.bytesLess b a = false := by
  cases hb : Op.bytesLess b a with
  | false => rfl
  | true => have := bless_trans h hb; rw [bless_irrefl] at this; cases this
theorem bless_tri (a b : List UInt8) : Op.bytesLess a b = true ∨ a = b ∨ Op.bytesLess b a = true := by
  induction a generalizing b with
  | nil => cases b with
    | nil => simp
    | cons y b => simp [Op.bytesLess]
  | cons x a ih => cases b with
    | nil => simp [Op.bytesLess]
    | cons y b =>
      simp only [Op.bytesLess, Bool.or_eq_true, Bool.and_eq_true, decide_eq_true_eq, beq_iff_eq, List.cons.injEq]
      by_cases h1 : x < y
      · simp [h1]
      · by_cases h2 : y < x
        · simp [h2]
        · have : x = y := UInt8.le_antisymm (UInt8.not_lt.1 h2) (UInt8.not_lt.1 h1)
          subst this
          rcases ih b with h | h | h <;> simp [h]

/-- Names in order. -/
def Asc {α : Type} (key : α → List UInt8) (l : List α) : Prop := ∀ (i j : Nat) (x y : α), i < j → l[i]? = some x → l[j]? = some y → Op.bytesLess (key x) (key y) = true

/-- Where a name stands. -/
def ixOf {α : Type} (key : α → List UInt8) (t : List UInt8) (l : List α) : Option Nat := l.findIdx? (fun r => key r == t)
theorem ixOf_some {α : Type} {key : α → List UInt8} {t : List UInt8} {l : List α} {k : Nat} (h : ixOf key t l = some k) : ∃ x, l[k]? = some x ∧ key x = t := by
  unfold ixOf at h
  rw [List.findIdx?_eq_some_iff_getElem] at h
  obtain ⟨h1, h2, _⟩ := h
  exact ⟨_, List.getElem?_eq_getElem h1, by simpa using h2⟩
theorem ixOf_none {α : Type} {key : α → List UInt8} {t : List UInt8} {l : List α} (h : ixOf key t l = none) : ∀ x ∈ l, key x ≠ t := by
  unfold ixOf at h
  rw [List.findIdx?_eq_none_iff] at h
  intro x hx e
  have := h x hx
  simp [e] at this
theorem ixOf_of {α : Type} {key : α → List UInt8} {t : List UInt8} {l : List α} (hs : Asc key l) {k : Nat} {x : α} (hk : l[k]? = some x) (hx : key x = t) : ixOf key t l = some k := by
  cases h : ixOf key t l with
  | none => exact absurd hx (ixOf_none h x (List.mem_of_getElem? hk))
  | some j =>
    obtain ⟨y, h1, h2⟩ := ixOf_some h
    rcases Nat.lt_trichotomy j k with hlt | rfl | hlt
    · have := hs j k y x hlt h1 hk
      rw [h2, hx, bless_irrefl] at this; cases this
    · rfl
    · have := hs k j x y hlt hk h1
      rw [h2, hx, bless_irrefl] at this; cases this

def ixI : Option Nat → Int
  | some k => (k : Int)
  | none => -1
theorem ixI_neg (o : Option Nat) : decide (ixI o < 0) = !o.isSome := by
  cases o with
  | none => rfl
  | some k => exact decide_eq_false (by simp only [ixI]; omega)
end Go.Md

namespace Go.Md
open Go.Dn

instance (d : D_api_Decimal) : Decidable (DecOk d) := by unfold DecOk; exact inferInstance
/-- A decimal from lo to hi with at most so many places. -/
def inR (d : D_api_Decimal) (lo hi pl : Int) : Bool := decide (DecOk d ∧ d.2 ≤ pl ∧ lo * 10 ^ d.2.toNat ≤ d.1 ∧ d.1 ≤ hi * 10 ^ d.2.toNat)
theorem dec9_pow {d : D_api_Decimal} (h0 : 0 ≤ d.2) (h1 : d.2 ≤ 9) (k : Int) : k * 10 ^ 9 = k * 10 ^ d.2.toNat * 10 ^ (9 - d.2).toNat := by
  rw [Int.mul_assoc, ← Int.pow_add, show d.2.toNat + (9 - d.2).toNat = 9 by omega]
theorem dec9_le {d : D_api_Decimal} (h0 : 0 ≤ d.2) (h1 : d.2 ≤ 9) (k : Int) : dec9 d ≤ k * 10 ^ 9 ↔ d.1 ≤ k * 10 ^ d.2.toNat := by
  unfold dec9
  rw [dec9_pow h0 h1]
  exact Int.mul_le_mul_right (pow10_pos _)
theorem amount_CheckDecimal_eq' (d : D_api_Decimal) : amount_CheckDecimal d = some (if DecOk d then 0 else 1, ()) := by
  rw [amount_CheckDecimal_eq]
  congr 2
  by_cases h : DecOk d
  · rw [if_pos h, if_pos (by unfold DecOk at h; omega)]
  · rw [if_neg h, if_neg (by unfold DecOk at h; omega)]
theorem r1_CheckDecimal_eq' (d : D_api_Decimal) : r1_CheckDecimal d = some (if DecOk d then 0 else 1, ()) := by
  rw [r1_CheckDecimal_eq]
  congr 2
  by_cases h : DecOk d
  · rw [if_pos h, if_pos (by unfold DecOk at h; omega)]
  · rw [if_neg h, if_neg (by unfold DecOk at h; omega)]
/-- What is wrong with an extra. -/
def extF (pl : Int) (rates : List D_api_Rate) (line : Bool) (x : D_api_Extra) : Int :=
  if DecOk x.2.1 then
    (if x.2.1.1 = 0 then 13
    else if (if x.1 = true then inR x.2.1 (-100) 100 9 else inR x.2.1 (-1000000000) 1000000000 pl) = true then
      (if x.2.2 = [] then 0 else if line = true then 3 else if (ixOf (·.1) x.2.2 rates).isSome = true then 0 else 5)
    else 1)
  else 1
def extsF (pl : Int) (rates : List D_api_Rate) (line : Bool) (l : List D_api_Extra) : Int := if 20 < l.length then 2 else scanF (fun _ x => extF pl rates line x) 0 l

theorem scanJ {γ : Type} (s : Int) (u : γ) : joinB (β := Int × Unit) (γ := γ) (if s = 0 then some (Sum.inr u) else some (Sum.inl (s, ()))) (fun _ => some (0, ())) = some (s, ()) := by
  by_cases h : s = 0
  · rw [if_pos h, joinB_inr, h]
  · rw [if_neg h, joinB_inl]

theorem iter_scan0 {X α : Type} {γ : Type} {f : X → (X → Option ((Int × Unit) ⊕ γ)) → Option ((Int × Unit) ⊕ γ)} {x0 : X} (mk : Nat → X) (l : List α) (g : Nat → α → Int) (u : γ) (h0 : x0 = mk 0)
    (hstep : ∀ i y again, l[i]? = some y → f (mk i) again = if g i y = 0 then again (mk (i + 1)) else some (Sum.inl (g i y, ()))) (hend : ∀ again, f (mk l.length) again = some (Sum.inr u)) (n : Nat) (hn : l.length < n) :
    iter n x0 f = if scanF g 0 l = 0 then some (Sum.inr u) else some (Sum.inl (scanF g 0 l, ())) := by
  rw [h0]; exact iter_scan mk l g u hstep hend l 0 n rfl (Nat.zero_le _) hn

end Go.Md

namespace Go.Md
open Go.Dn

theorem order_power_eq (n : Int) (h0 : 0 ≤ n) (h1 : n ≤ 18) : order_power n = some (10 ^ n.toNat, ()) := bill_power_eq n h0 h1
end Go.Md

namespace Go.Md
open Go.Dn

theorem scanJ2 {γ : Type} (s : Int) (u : γ) (k : γ → Option (Int × Unit)) (z : Int) (hk : k u = some (z, ())) : joinB (β := Int × Unit) (γ := γ) (if s = 0 then some (Sum.inr u) else some (Sum.inl (s, ()))) k = some (if s ≠ 0 then s else z, ()) := by
  by_cases h : s = 0
  · rw [if_pos h, joinB_inr, hk, if_neg (by simpa using h)]
  · rw [if_neg h, joinB_inl, if_pos h]

end Go.Md

namespace Go.Md
open Go.Dn

/-- A right extra. -/
structure ExtOk (pl : Int) (x : D_api_Extra) : Prop where
  dec : DecOk x.2.1
  place : x.1 = false → x.2.1.2 ≤ pl
  nz : x.2.1.1 ≠ 0
structure LineOk (pl : Int) (rates : List D_api_Rate) (x : D_api_BillLine) : Prop where
  q : DecOk x.2.2.2.1
  qp : x.2.2.2.1.2 ≤ 3
  qn : x.2.2.2.1.1 ≠ 0
  p : DecOk x.2.2.2.2.2.1
  pp : x.2.2.2.2.2.1.2 ≤ 4
  p0 : 0 ≤ x.2.2.2.2.2.1.1
  per : 1 ≤ x.2.2.2.2.2.2.1 ∧ x.2.2.2.2.2.2.1 ≤ 100000
  ext : extsF pl rates true x.2.2.2.2.2.2.2.1 = 0
  rate : (ixOf (·.1) x.2.2.2.2.2.2.2.2 rates).isSome = true
structure InvOk (v : D_api_Invoice) : Prop where
  pl : 0 ≤ v.2.2.2.1 ∧ v.2.2.2.1 ≤ 4
  way : 1 ≤ v.2.2.2.2.1 ∧ v.2.2.2.2.1 ≤ 6
  rn : 0 < v.2.2.2.2.2.2.1.length ∧ v.2.2.2.2.2.2.1.length ≤ 20
  asc : Asc (·.1) v.2.2.2.2.2.2.1
  rates : ∀ r ∈ v.2.2.2.2.2.2.1, inR r.2 0 100 9 = true
  ln : 0 < v.2.2.2.2.2.2.2.1.length ∧ v.2.2.2.2.2.2.2.1.length ≤ 500
  lines : ∀ x ∈ v.2.2.2.2.2.2.2.1, LineOk v.2.2.2.1 v.2.2.2.2.2.2.1 x
  ext : extsF v.2.2.2.1 v.2.2.2.2.2.2.1 false v.2.2.2.2.2.2.2.2 = 0
end Go.Md

namespace Go.Md
open Go.Dn

theorem Le.dec {d : D_api_Decimal} (h : DecOk d) : Le 15 d.1 := by
  have := h.1
  unfold Le; omega
theorem r1_Power_eq' {n : Int} (h0 : 0 ≤ n) (h1 : n ≤ 40) : r1_Power n = some (N (10 ^ n.toNat), ()) := by
  obtain ⟨m, rfl⟩ : ∃ m : Nat, n = m := ⟨n.toNat, by omega⟩
  exact r1_Power_eq m (by omega)
theorem r1_At_eq' (d : D_api_Decimal) (p : Int) (hd : DecOk d) (hp : d.2 ≤ p) (hp2 : p ≤ 9) : r1_At d p = some (N (d.1 * 10 ^ (p - d.2).toNat), ()) := by
  have h1 := hd.1; have h2 := hd.2
  have l2 := (Le.dec hd).n (by omega); have l3 := (Le.pow (p - d.2).toNat).n (by omega)
  unfold r1_At
  rw [r1_Of_eq _ (by omega) (by omega), Option.bind_some, w64_id (by omega) (by omega), r1_Power_eq' (by omega) (by omega), Option.bind_some]
  dsimp only
  rw [r1_TimesOf_eq _ _ (by omega) (by omega), Option.bind_some]
end Go.Md
