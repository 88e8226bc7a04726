/-
  Plain facts: debts and payments; Pay. No condition.
-/
import Derived.Test.YtgdedidiakojoaaGreatDoorPa
import Derived.Test.YtgdedidiakojoaaGreatDoorPb
set_option linter.all false
namespace Go.Md
open Go.Dn

/-- The first fault of a list. -/
def scanF {α : Type} (g : Nat → α → Int) : Nat → List α → Int
  | _, [] => 0
  | i, y :: r => if g i y = 0 then scanF g (i + 1) r else g i y
theorem scanF_zero {α : Type} {g : Nat → α → Int} : ∀ {l : List α} {i : Nat}, scanF g i l = 0 → ∀ j y, l[j]? = some y → g (i + j) y = 0
  | [], _, _, _, _, h => by simp at h
  | y :: r, i, h, j, z, hz => by
    simp only [scanF] at h
    by_cases hg : g i y = 0
    · rw [if_pos hg] at h
      cases j with
      | zero => simp at hz; subst hz; exact hg
      | succ j => have := scanF_zero h j z (by simpa using hz); rw [show i + (j + 1) = i + 1 + j by omega]; exact this
    · rw [if_neg hg] at h; exact absurd h hg
theorem iter_scan {X α : Type} {γ : Type} {f : X → (X → Option ((Int × Unit) ⊕ γ)) → Option ((Int × Unit) ⊕ γ)} (mk : Nat → X) (l : List α) (g : Nat → α → Int) (u : γ)
    (hstep : ∀ i y again, l[i]? = some y → f (mk i) again = if g i y = 0 then again (mk (i + 1)) else some (Sum.inl (g i y, ()))) (hend : ∀ again, f (mk l.length) again = some (Sum.inr u)) :
    ∀ (r : List α) (i n : Nat), l.drop i = r → i ≤ l.length → r.length < n → iter n (mk i) f = if scanF g i r = 0 then some (Sum.inr u) else some (Sum.inl (scanF g i r, ()))
  | _, _, 0, _, _, hn => absurd hn (Nat.not_lt_zero _)
  | [], i, n + 1, hd, hi, _ => by
    have : i = l.length := by
      have := congrArg List.length hd
      simp at this; omega
    subst this
    rw [iter_succ, hend]; rfl
  | y :: r, i, n + 1, hd, hi, hn => by
    have hy : l[i]? = some y := by
      have := congrArg (·[0]?) hd
      simpa [List.getElem?_drop] using this
    have hr : l.drop (i + 1) = r := by
      have := congrArg List.tail hd
      simpa [List.tail_drop] using this
    have hi' : i < l.length := (List.getElem?_eq_some_iff.1 hy).1
    rw [iter_succ, hstep i y _ hy]
    by_cases hg : g i y = 0
    · have e : scanF g i (y :: r) = scanF g (i + 1) r := by simp [scanF, hg]
      rw [if_pos hg, e]
      exact iter_scan mk l g u hstep hend r (i + 1) n hr hi' (by simp at hn; omega)
    · have e : scanF g i (y :: r) = g i y := by simp [scanF, hg]
      rw [if_neg hg, e, if_neg hg]

theorem kit_Outside_eq (a b c : Int) : kit_Outside a b c = some (decide (a < b ∨ c < a), ()) := by
  unfold kit_Outside
  by_cases h : a < b
  · rw [bif_pos h]; simp [h]
  · rw [bif_neg h]; simp [h]
theorem kit_IsDay_eq (n : Int) : kit_IsDay n = some (decide (1 ≤ n ∧ n ≤ 3652059), ()) := by
  unfold kit_IsDay
  rw [kit_Outside_eq, Option.bind_some]
  congr 2
  simp only [← decide_not]
  congr 1
  simp only [eq_iff_iff]; omega
/-- What kit.IsName says. -/
def isNm (s : List UInt8) : Bool := ((kit_IsName s).map (·.1)).getD false
theorem kit_IsName_eq (s : List UInt8) : kit_IsName s = some (isNm s, ()) := by
  have : ∃ b, kit_IsName s = some (b, ()) := by
    unfold kit_IsName
    by_cases h1 : (s.length : Int) < 1
    · rw [bif_pos h1]; exact ⟨_, rfl⟩
    · rw [bif_neg h1]
      by_cases h2 : (s.length : Int) > 40
      · rw [bif_pos h2]; exact ⟨_, rfl⟩
      · rw [bif_neg h2]
        have hs : sidx s 0 = some (s[0]'(by omega)) := by simp [sidx]
        rw [hs]
        simp only [Option.bind_some]
        have ht : strings_Trim s [97, 98, 99, 100, 101, 102, 103, 104, 105, 106, 107, 108, 109, 110, 111, 112, 113, 114, 115, 116, 117, 118, 119, 120, 121, 122, 48, 49, 50, 51, 52, 53, 54, 55, 56, 57, 45] = some (Lib.trimS s [97, 98, 99, 100, 101, 102, 103, 104, 105, 106, 107, 108, 109, 110, 111, 112, 113, 114, 115, 116, 117, 118, 119, 120, 121, 122, 48, 49, 50, 51, 52, 53, 54, 55, 56, 57, 45], ()) := by
          unfold strings_Trim
          rw [show (decide (s.length ≤ 9223372036854775807)) = true by simp; omega]
          rfl
        rw [ht]
        simp only [Option.bind_some]
        generalize (decide ((((s[0]'(by omega)).toNat : Int)) < 97)) = b1
        generalize (decide ((((s[0]'(by omega)).toNat : Int)) > 122)) = b2
        cases b1 <;> cases b2 <;> exact ⟨_, rfl⟩
  obtain ⟨b, hb⟩ := this
  unfold isNm
  rw [hb]; rfl

theorem amount_CheckDecimal_eq (d : D_api_Decimal) : amount_CheckDecimal d = some (if -1000000000000000 ≤ d.1 ∧ d.1 ≤ 1000000000000000 ∧ 0 ≤ d.2 ∧ d.2 ≤ 9 then 0 else 1, ()) := by
  unfold amount_CheckDecimal
  rw [kit_Outside_eq, Option.bind_some, kit_Outside_eq]
  simp only [Option.bind_some]
  by_cases h1 : d.1 < -1000000000000000 ∨ 1000000000000000 < d.1
  · rw [bif_pos h1, if_neg (by omega)]
  · rw [bif_neg h1]
    by_cases h2 : d.2 < 0 ∨ 9 < d.2
    · rw [bif_pos h2, if_neg (by omega)]
    · rw [bif_neg h2, if_pos (by omega)]

theorem pow10_le {n : Nat} (h : n ≤ 18) : (10 : Int) ^ n ≤ 1000000000000000000 := by
  have := Nat.pow_le_pow_right (n := 10) (by omega) h
  have h2 := Int.ofNat_le.2 this
  simpa using h2
theorem pow10_pos (n : Nat) : (0 : Int) < 10 ^ n := pow_pos' (by omega) n
theorem bill_power_eq (n : Int) (h0 : 0 ≤ n) (h1 : n ≤ 18) : bill_power n = some (10 ^ n.toNat, ()) := by
  obtain ⟨m, rfl⟩ : ∃ m : Nat, n = m := ⟨n.toNat, by omega⟩
  unfold bill_power
  have : iter (X := bill_power_x3) (β := bill_power_r3) (Int.natAbs (1 : Int) + (Int.natAbs (m : Int) + (Int.natAbs (0 : Int) + 2))) (1, (m : Int), 0, ()) bill_power_b3 = some (Sum.inr (10 ^ m, ())) := by
    refine iter_post (Inv := fun i x => x = (10 ^ i, (m : Int), (i : Int), ())) m (fun r => r = some (Sum.inr (10 ^ m, ()))) ?_ ?_ _ 0 _ (by simp) (by omega) (by omega)
    · rintro i _ again hi rfl ih
      unfold bill_power_b3
      dsimp only
      have h10 := pow10_le (n := i + 1) (by omega)
      have hp := pow10_pos (i + 1)
      rw [Int.pow_succ] at h10 hp
      rw [bif_pos (by omega), w64_id (by omega) (by omega), w64_id (by omega) (by omega)]
      exact ih _ (by rw [Int.pow_succ]; rfl)
    · rintro _ again rfl
      unfold bill_power_b3
      dsimp only
      rw [bif_neg (by omega)]
  rw [this, joinB_inr]
  simp

theorem bill_between_eq (d : D_api_Decimal) (most : Int) (h0 : 0 ≤ d.2) (h1 : d.2 ≤ 9) (hm0 : 0 ≤ most) (hm1 : most ≤ 1000000000) : bill_between d most = some (decide (-(most * 10 ^ d.2.toNat) ≤ d.1 ∧ d.1 ≤ most * 10 ^ d.2.toNat), ()) := by
  unfold bill_between
  rw [bill_power_eq _ h0 (by omega), Option.bind_some]
  dsimp only
  have hp := pow10_pos d.2.toNat
  have hq : (10 : Int) ^ d.2.toNat ≤ 1000000000 := by
    have := Nat.pow_le_pow_right (n := 10) (by omega) (show d.2.toNat ≤ 9 by omega)
    have h2 := Int.ofNat_le.2 this
    simpa using h2
  have h3 : most * 10 ^ d.2.toNat ≤ 1000000000 * 1000000000 := by
    have a1 : most * 10 ^ d.2.toNat ≤ 1000000000 * 10 ^ d.2.toNat := Int.mul_le_mul_of_nonneg_right hm1 (by omega)
    omega
  have h4 : 0 ≤ most * 10 ^ d.2.toNat := Int.mul_nonneg hm0 (by omega)
  rw [w64_id (n := most * 10 ^ d.2.toNat) (by omega) (by omega), w64_id (by omega) (by omega), kit_Outside_eq, Option.bind_some]
  congr 2
  simp only [← decide_not]
  congr 1
  simp only [eq_iff_iff]; omega

/-- Money that is right. -/
def MonOk (d : D_api_Decimal) : Prop := 0 < d.1 ∧ 0 ≤ d.2 ∧ d.2 ≤ 4 ∧ d.1 ≤ 1000000000 * 10 ^ d.2.toNat
instance (d : D_api_Decimal) : Decidable (MonOk d) := by unfold MonOk; exact inferInstance
/-- Debts that are right. -/
structure DebtOk (d : D_api_Debt) : Prop where
  day0 : 1 ≤ d.2.1
  day1 : d.2.1 ≤ 3652059
  mon : MonOk d.2.2.1
  days0 : 0 ≤ d.2.2.2.1
  days1 : d.2.2.2.1 ≤ 10000
  with0 : 0 ≤ d.2.2.2.2.1
  with1 : d.2.2.2.2.1 ≤ d.2.2.2.1
  disc0 : 0 ≤ d.2.2.2.2.2
  disc1 : d.2.2.2.2.2 ≤ 1000
structure PayOk (p : D_api_Payment) : Prop where
  day0 : 1 ≤ p.1
  day1 : p.1 ≤ 3652059
  mon : MonOk p.2.1
  names : p.2.2.length ≤ 100
end Go.Md

namespace Go.Md
open Go.Dn

/-- Units with four places. -/
def cents (d : D_api_Decimal) : Int := d.1 * 10 ^ (4 - d.2).toNat
theorem MonOk.cents {d : D_api_Decimal} (h : MonOk d) : 0 < cents d ∧ cents d ≤ 10000000000000 := by
  obtain ⟨h1, h2, h3, h4⟩ := h
  unfold Md.cents
  have hp := pow10_pos (4 - d.2).toNat
  refine ⟨Int.mul_pos h1 hp, ?_⟩
  have a1 : d.1 * 10 ^ (4 - d.2).toNat ≤ 1000000000 * 10 ^ d.2.toNat * 10 ^ (4 - d.2).toNat := Int.mul_le_mul_of_nonneg_right h4 (by omega)
  rw [Int.mul_assoc, ← Int.pow_add, show d.2.toNat + (4 - d.2).toNat = 4 by omega] at a1
  omega
abbrev Bd := D_bill_debt
def owes (x : Bd) : Int := x.2.1
def paid (x : Bd) : Int := x.2.2.1
def taken (x : Bd) : Int := x.2.2.2.1
def done (x : Bd) : Int := x.2.2.2.2
/-- A debt in the arena. -/
structure BdOk (x : Bd) : Prop where
  d : DebtOk x.1
  owes0 : 0 ≤ owes x
  paid0 : 0 ≤ paid x
  taken0 : 0 ≤ taken x
  sum : owes x + paid x + taken x = cents x.1.2.2.1
  none : done x = 0 → taken x = 0
  done0 : done x = 0 ∨ x.1.2.1 ≤ done x
  iff : owes x = 0 ↔ done x ≠ 0
theorem BdOk.le {x : Bd} (h : BdOk x) : owes x ≤ 10000000000000 ∧ paid x ≤ 10000000000000 ∧ taken x ≤ 10000000000000 := by
  have := h.d.mon.cents; have := h.sum; have := h.owes0; have := h.paid0; have := h.taken0; omega

section
variable {ar : List Bd} {h : Nat} {x : Bd}

theorem set_get {α : Type} {l : List α} {i : Nat} {x y : α} (h : l[i]? = some x) : (l.set i y)[i]? = some y := List.getElem?_set_self (List.getElem?_eq_some_iff.1 h).1

end

end Go.Md

namespace Go.Md
open Go.Dn

/-- The arena: the debts as they came, each right. -/
structure ArOk (ds : List D_api_Debt) (ar : List Bd) : Prop where
  ds : ar.map (·.1) = ds
  ok : ∀ x ∈ ar, BdOk x
theorem ArOk.len {ds : List D_api_Debt} {ar : List Bd} (h : ArOk ds ar) : ar.length = ds.length := by rw [← h.ds]; simp
theorem ArOk.set {ds : List D_api_Debt} {ar : List Bd} (h : ArOk ds ar) {i : Nat} {x y : Bd} (hx : ar[i]? = some x) (hy : BdOk y) (he : y.1 = x.1) : ArOk ds (ar.set i y) := by
  refine ⟨?_, fun z hz => ?_⟩
  · rw [List.map_set, he, ← h.ds]
    apply List.ext_getElem?
    intro j
    by_cases hj : i = j
    · subst hj
      rw [List.getElem?_set_self (by simp; exact (List.getElem?_eq_some_iff.1 hx).1), List.getElem?_map, hx]; rfl
    · rw [List.getElem?_set_ne hj]
  · rcases List.mem_or_eq_of_mem_set hz with hz | rfl
    · exact h.ok z hz
    · exact hy
theorem ArOk.get {ds : List D_api_Debt} {ar : List Bd} (h : ArOk ds ar) {i : Nat} {x : Bd} (hx : ar[i]? = some x) : BdOk x := h.ok x (List.mem_of_getElem? hx)

def sumPaid (ar : List Bd) : Int := (ar.map paid).sum
/-- A state of a payment. -/
structure StOk (ds : List D_api_Debt) (L T : Int) (s : Int × List Bd) : Prop where
  ar : ArOk ds s.2
  l0 : 0 ≤ s.1
  l1 : s.1 ≤ L
  tot : s.1 + sumPaid s.2 = T

end Go.Md

namespace Go.Md
open Go.Dn

theorem amount_Made_eq (z : Int) (p : Int) : amount_Made (W z) p = some (if z.natAbs ≤ 1000000000000000 then ((z, p), 0, ()) else ((0, 0), 1, ())) := by
  unfold amount_Made
  rw [whole_Int_Int_eq z 1000000000000000 (by omega) (by omega), Option.bind_some]
  by_cases h : (z.natAbs : Int) ≤ 1000000000000000
  · rw [if_pos h, if_pos (by omega)]; rfl
  · rw [if_neg h, if_neg (by omega)]; rfl

/-- A decimal with nine places. -/
def dec9 (d : D_api_Decimal) : Int := d.1 * 10 ^ (9 - d.2).toNat
/-- A decimal that is one. -/
def DecOk (d : D_api_Decimal) : Prop := d.1.natAbs ≤ 1000000000000000 ∧ 0 ≤ d.2 ∧ d.2 ≤ 9
theorem MonOk.dec {d : D_api_Decimal} (h : MonOk d) : DecOk d := by
  obtain ⟨h1, h2, h3, h4⟩ := h
  have hq : (10 : Int) ^ d.2.toNat ≤ 10000 := by
    have := Nat.pow_le_pow_right (n := 10) (by omega) (show d.2.toNat ≤ 4 by omega)
    have h2 := Int.ofNat_le.2 this
    simpa using h2
  exact ⟨by omega, h2, by omega⟩

theorem len6 {z : Int} (h : z.natAbs < 1000000000000000000000000000000000000000000000000000000000000) : (dg6 z.natAbs).length ≤ 10 := dg6_len (k := 10) (by simpa using h)

theorem r1_Power_eq (n : Nat) (hn : n ≤ 40) : r1_Power (n : Int) = some (N (10 ^ n), ()) := by
  unfold r1_Power
  rw [r1_Of_eq 1 (by omega) (by omega), Option.bind_some]
  dsimp only
  have hb : ∀ i : Nat, i ≤ 41 → (dg6 ((10 : Int) ^ i).natAbs).length ≤ 10 := by
    intro i hi
    refine len6 ?_
    have h1 : ((10 : Int) ^ i).natAbs = 10 ^ i := by rw [Int.natAbs_pow]; rfl
    have h2 := Nat.pow_le_pow_right (n := 10) (by omega) hi
    omega
  have loop : iter (X := r1_Power_x3) (β := r1_Power_r3) (Int.natAbs (n : Int) + (Int.natAbs (0 : Int) + (List.length ([] : List Int) + (List.length (N 1).2 + 2)))) ((n : Int), 0, false, [], (N 1).1, (N 1).2, ()) r1_Power_b3 = some (Sum.inr (false, [], (N (10 ^ n)).1, (N (10 ^ n)).2, ())) := by
    refine iter_post (Inv := fun i x => x = ((n : Int), (i : Int), false, [], (N (10 ^ i)).1, (N (10 ^ i)).2, ())) n (fun r => r = some (Sum.inr (false, [], (N (10 ^ n)).1, (N (10 ^ n)).2, ()))) ?_ ?_ _ 0 _ (by simp) (by omega) (by omega)
    · rintro i _ again hi rfl ih
      unfold r1_Power_b3
      dsimp only
      rw [bif_pos (by omega), r1_Of_eq 10 (by omega) (by omega), Option.bind_some]
      change (Option.bind (r1_TimesOf (N (10 ^ i)) (N 10)) _) = _
      have h10 : (dg6 (10 : Int).natAbs).length ≤ 10 := len6 (by decide)
      rw [r1_TimesOf_eq _ _ (by have := hb i (by omega); omega) (by omega), Option.bind_some]
      dsimp only
      rw [w64_id (by omega) (by omega)]
      exact ih _ (by rw [Int.pow_succ]; rfl)
    · rintro _ again rfl
      unfold r1_Power_b3
      dsimp only
      rw [bif_neg (by omega)]
  rw [loop, joinB_inr]

theorem r1_At_eq (d : D_api_Decimal) (hd : DecOk d) : r1_At d 9 = some (N (dec9 d), ()) := by
  obtain ⟨h1, h2, h3⟩ := hd
  unfold r1_At
  rw [r1_Of_eq _ (by omega) (by omega), Option.bind_some, w64_id (by omega) (by omega)]
  dsimp only
  obtain ⟨m, hm⟩ : ∃ m : Nat, 9 - d.2 = m := ⟨(9 - d.2).toNat, by omega⟩
  rw [hm, r1_Power_eq m (by omega), Option.bind_some]
  dsimp only
  have hl1 : (dg6 d.1.natAbs).length ≤ 10 := len6 (by omega)
  have hl2 : (dg6 ((10 : Int) ^ m).natAbs).length ≤ 10 := by
    refine len6 ?_
    have h1 : ((10 : Int) ^ m).natAbs = 10 ^ m := by rw [Int.natAbs_pow]; rfl
    have h2 := Nat.pow_le_pow_right (n := 10) (by omega) (show m ≤ 9 by omega)
    omega
  rw [r1_TimesOf_eq _ _ (by omega) (by omega), Option.bind_some]
  unfold dec9
  rw [hm]; rfl
theorem dec9_bound {d : D_api_Decimal} (hd : DecOk d) : (dec9 d).natAbs ≤ 1000000000000000000000000 := by
  obtain ⟨h1, h2, h3⟩ := hd
  unfold dec9
  rw [Int.natAbs_mul, Int.natAbs_pow]
  have h4 := Nat.pow_le_pow_right (n := 10) (by omega) (show (9 - d.2).toNat ≤ 9 by omega)
  have h5 : d.1.natAbs * (10 : Int).natAbs ^ (9 - d.2).toNat ≤ 1000000000000000 * 1000000000 := Nat.mul_le_mul h1 (by simpa using h4)
  omega

end Go.Md

namespace Go.Md
open Go.Dn

end Go.Md
