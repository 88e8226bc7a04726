/-
 Plain facts: products, powers, rounding; the order of strings; decimals. No condition.
-/
import Derived.Test.YtcoofjaonlccjaaGreatDoorTq
import Derived.Test.YtcoofjaonlccjaaGreatDoorTn
import Derived.Test.YtcoofjaonlccjaaGreatDoorTp
set_option linter.all false
namespace Go.Md
open Go.Dn

end Go.Md

namespace Go.Md
open Go.Dn

def Le (k : Nat) (z : Int) : Prop := z.natAbs ≤ 10 ^ k
theorem Le.mul {a b : Nat} {x y : Int} (hx : Le a x) (hy : Le b y) : Le (a + b) (x * y) := by
 unfold Le at *
 rw [Int.natAbs_mul, Nat.pow_add]
 exact Nat.mul_le_mul hx hy
theorem Le.mono {a b : Nat} {x : Int} (hx : Le a x) (h : a ≤ b) : Le b x := Nat.le_trans hx (Nat.pow_le_pow_right (by omega) h)
theorem Le.add {a : Nat} {x y : Int} (hx : Le a x) (hy : Le a y) : Le (a + 1) (x + y) := by
 unfold Le at *
 rw [Nat.pow_succ]
 omega
theorem Le.neg {a : Nat} {x : Int} (hx : Le a x) : Le a (-x) := by unfold Le at *; omega
theorem Le.w {k : Nat} {z : Int} (h : Le k z) (hk : k ≤ 900) : z.natAbs < 4294967296 ^ 99 :=
 Nat.lt_of_le_of_lt (h.mono hk) (by decide +kernel)
theorem Le.n {k : Nat} {z : Int} (h : Le k z) (hk : k ≤ 500) : (dg6 z.natAbs).length < 90 := by
 have := dg6_len (k := 84) (n := z.natAbs) (Nat.lt_of_le_of_lt (h.mono hk) (by decide +kernel))
 omega
theorem Le.pow (n : Nat) : Le n (10 ^ n) := by
 unfold Le
 rw [Int.natAbs_pow]; exact Nat.le_refl _
theorem Le.int {n : Int} (h1 : -9223372036854775808 ≤ n) (h2 : n ≤ 9223372036854775807) : Le 19 n := by unfold Le; omega

theorem Le.succ {k n : Nat} (h : Le k (n : Int)) : Le (k + 1) ((n + 1 : Nat) : Int) := by
 unfold Le at *
 rw [Nat.pow_succ]
 have : 1 ≤ 10 ^ k := Nat.pow_pos (by omega)
 omega

end Go.Md

namespace Go.Md
open Go.Dn

end Go.Md

namespace Go.Md
open Go.Dn

end Go.Md

namespace Go.Md
open Go.Dn

end Go.Md

namespace Go.Md
open Go.Dn

instance (d : D_api_Decimal) : Decidable (DecOk d) := by unfold DecOk; exact inferInstance
def inR (d : D_api_Decimal) (lo hi pl : Int) : Bool := decide (DecOk d ∧ d.2 ≤ pl ∧ lo * 10 ^ d.2.toNat ≤ d.1 ∧ d.1 ≤ hi * 10 ^ d.2.toNat)
theorem dec9_pow {d : D_api_Decimal} (h0 : 0 ≤ d.2) (h1 : d.2 ≤ 9) (k : Int) : k * 10 ^ 9 = k * 10 ^ d.2.toNat * 10 ^ (9 - d.2).toNat := by
 rw [Int.mul_assoc, ← Int.pow_add, show d.2.toNat + (9 - d.2).toNat = 9 by omega]
theorem dec9_le {d : D_api_Decimal} (h0 : 0 ≤ d.2) (h1 : d.2 ≤ 9) (k : Int) : dec9 d ≤ k * 10 ^ 9 ↔ d.1 ≤ k * 10 ^ d.2.toNat := by
 unfold dec9
 rw [dec9_pow h0 h1]
 exact Int.mul_le_mul_right (pow10_pos _)
theorem amount_CheckDecimal_eq' (d : D_api_Decimal) : amount_CheckDecimal d = some (if DecOk d then 0 else 1, ()) := by
 rw [amount_CheckDecimal_eq]
 congr 2
 by_cases h : DecOk d
 ·rw [if_pos h, if_pos (by unfold DecOk at h; omega)]
 ·rw [if_neg h, if_neg (by unfold DecOk at h; omega)]
theorem r1_CheckDecimal_eq' (d : D_api_Decimal) : r1_CheckDecimal d = some (if DecOk d then 0 else 1, ()) := by
 rw [r1_CheckDecimal_eq]
 congr 2
 by_cases h : DecOk d
 ·rw [if_pos h, if_pos (by unfold DecOk at h; omega)]
 ·rw [if_neg h, if_neg (by unfold DecOk at h; omega)]
end Go.Md

namespace Go.Md
open Go.Dn

theorem order_power_eq (n : Int) (h0 : 0 ≤ n) (h1 : n ≤ 18) : order_power n = some (10 ^ n.toNat, ()) := bill_power_eq n h0 h1
theorem order_PriceFault_eq (d : D_api_Decimal) : order_PriceFault d = some (if inR d 0 1000000000 4 = true then 0 else 1, ()) := by
 unfold order_PriceFault order_within
 rw [amount_CheckDecimal_eq', Option.bind_some]
 by_cases hd : DecOk d
 ·have hp := pow10_pos d.2.toNat
  have hp2 : (10 : Int) ^ d.2.toNat ≤ 1000000000 := by
   have := Nat.pow_le_pow_right (n := 10) (by omega) (show d.2.toNat ≤ 9 by have := hd.2.2; omega)
   have h2 := Int.ofNat_le.2 this
   simpa using h2
  rw [order_power_eq d.2 hd.2.1 (by have := hd.2.2; omega)]
  dsimp only
  rw [if_pos hd, show ((0 : Int) != 0) = false from rfl, cond_false]
  have e : inR d 0 1000000000 4 = (decide (d.2 ≤ 4) && (decide (d.1 ≥ 0) && decide (d.1 ≤ 1000000000 * 10 ^ d.2.toNat))) := by
   unfold inR
   rw [← Bool.decide_and, ← Bool.decide_and, decide_eq_decide, Int.zero_mul]
   constructor
   ·rintro ⟨_, h2, h3, h4⟩; exact ⟨h2, h3, h4⟩
   ·rintro ⟨h2, h3, h4⟩; exact ⟨hd, h2, h3, h4⟩
  rw [e, Option.bind_some, w64_id (n := 1000000000 * 10 ^ d.2.toNat) (by omega) (by omega)]
  cases decide (d.2 ≤ 4) <;> cases decide (d.1 ≥ 0) <;> cases decide (d.1 ≤ 1000000000 * 10 ^ d.2.toNat) <;> rfl
 ·have : inR d 0 1000000000 4 = false := by unfold inR; simp [hd]
  simp [hd, this]

end Go.Md

namespace Go.Md
open Go.Dn

theorem nodup_len : ∀ (n : Nat) (l : List Nat), l.Nodup → (∀ x ∈ l, x < n) → l.length ≤ n
 | 0, l, _, h => by
  cases l with
  | nil => simp
  | cons a r => exact absurd (h a (by simp)) (Nat.not_lt_zero _)
 | n + 1, l, hd, h => by
  by_cases hm : n ∈ l
  ·have h1 := nodup_len n (l.erase n) (hd.erase n) (fun x hx => by
    have := (hd.mem_erase_iff).1 hx
    have := h x this.2
    omega)
   rw [List.length_erase_of_mem hm] at h1
   omega
  ·have := nodup_len n l hd (fun x hx => by
    have h2 := h x hx
    have : x ≠ n := fun e => hm (e ▸ hx)
    omega)
   omega

def itp (par : Nat → Option Nat) : Nat → Nat → Option Nat
 | 0, i => some i
 | j + 1, i => (par i).bind (itp par j)
def Dist (par : Nat → Option Nat) (i k d : Nat) : Prop := itp par (d + 1) k = some i ∧ ∀ e, e < d → itp par (e + 1) k ≠ some i
theorem Dist.uniq {par : Nat → Option Nat} {i k d e : Nat} (h : Dist par i k d) (h' : Dist par i k e) : d = e := by
 rcases Nat.lt_trichotomy d e with h1 | h1 | h1
 ·exact absurd h.1 (h'.2 d h1)
 ·exact h1
 ·exact absurd h'.1 (h.2 e h1)
theorem Dist.step {par : Nat → Option Nat} {i k d : Nat} (h : Dist par i k d) : ∃ k', par k = some k' ∧ ((k' = i ∧ d = 0) ∨ (k' ≠ i ∧ ∃ e, d = e + 1 ∧ Dist par i k' e)) := by
 obtain ⟨h1, h2⟩ := h
 simp only [itp] at h1
 cases hp : par k with
 | none => rw [hp] at h1; cases h1
 | some k' =>
  rw [hp] at h1
  refine ⟨k', rfl, ?_⟩
  cases d with
  | zero => simp only [Option.bind_some, itp, Option.some.injEq] at h1; exact .inl ⟨h1, rfl⟩
  | succ e =>
   right
   refine ⟨fun e1 => ?_, e, rfl, by simpa using h1, fun f hf hx => ?_⟩
   ·refine h2 0 (by omega) ?_
    simp only [itp, hp, Option.bind_some, e1]
   ·refine h2 (f + 1) (by omega) ?_
    rw [show f + 1 + 1 = (f + 1) + 1 from rfl]
    show (par k).bind (itp par (f + 1)) = some i
    rw [hp]; exact hx
theorem Dist.list {par : Nat → Option Nat} {i n : Nat} (hn : ∀ k k', par k = some k' → k' < n) : ∀ {d k : Nat}, k < n → Dist par i k d → ∃ l : List Nat, l.length = d + 1 ∧ l.Nodup ∧ (∀ x ∈ l, x < n) ∧ ∀ x ∈ l, ∃ e, e ≤ d ∧ Dist par i x e
 | 0, k, hk, h => ⟨[k], rfl, by simp, by simpa using hk, fun x hx => by simp at hx; subst hx; exact ⟨0, Nat.le_refl _, h⟩⟩
 | d + 1, k, hk, h => by
  obtain ⟨k', h1, h2⟩ := h.step
  rcases h2 with ⟨_, h2⟩ | ⟨_, e, h2, h3⟩
  ·omega
  ·have : e = d := by omega
   subst this
   obtain ⟨l, l1, l2, l3, l4⟩ := Dist.list hn (hn _ _ h1) h3
   refine ⟨k :: l, by simp [l1], List.nodup_cons.2 ⟨fun hm => ?_, l2⟩, fun x hx => ?_, fun x hx => ?_⟩
   ·obtain ⟨f, f1, f2⟩ := l4 k hm
    have := f2.uniq h
    omega
   ·rcases List.mem_cons.1 hx with rfl | hx
    ·exact hk
    ·exact l3 x hx
   ·rcases List.mem_cons.1 hx with rfl | hx
    ·exact ⟨e + 1, Nat.le_refl _, h⟩
    ·obtain ⟨f, f1, f2⟩ := l4 x hx; exact ⟨f, by omega, f2⟩
theorem Dist.le {par : Nat → Option Nat} {i n d k : Nat} (hn : ∀ k k', par k = some k' → k' < n) (hk : k < n) (h : Dist par i k d) : d + 1 ≤ n := by
 obtain ⟨l, l1, l2, l3, _⟩ := h.list hn hk
 have := nodup_len n l l2 l3
 omega

end Go.Md

namespace Go.Md
open Go.Dn

def digC (c : UInt8) : Bool := decide (48 ≤ c.toNat) && decide (c.toNat ≤ 57)
theorem digC_not {c : UInt8} : (decide ((c.toNat : Int) < 48) = false ∧ decide ((c.toNat : Int) > 57) = false) ↔ digC c = true := by
 simp only [digC, Bool.and_eq_true, decide_eq_true_eq, decide_eq_false_iff_not]
 omega
theorem kit_IsDigits_eq (s : List UInt8) (hs : s.length ≤ 9223372036854775807) : kit_IsDigits s = some (decide (s ≠ []) && s.all digC, ()) := by
 unfold kit_IsDigits kit_InBytes
 by_cases h0 : s = []
 ·subst h0; rfl
 ·rw [show (!(s == [])) = true by cases s <;> simp_all, cond_true, decide_eq_true h0, Bool.true_and]
  have loop : ∀ f, s.length < f → iter f ((s, (48 : Int), (57 : Int), (s.length : Int), (0 : Int), ()) : kit_InBytes_x2) kit_InBytes_b2 = (if s.all digC = true then some (Sum.inr ()) else some (Sum.inl (false, ()))) := by
   intro f hf
   refine iter_post (Inv := fun i X => X = ((s, (48 : Int), (57 : Int), (s.length : Int), (i : Int), ()) : kit_InBytes_x2) ∧ (s.take i).all digC = true) s.length
    (fun r => r = (if s.all digC = true then some (Sum.inr ()) else some (Sum.inl (false, ())))) ?_ ?_ f 0 _ ⟨rfl, by simp⟩ (by omega) (by omega)
   ·rintro i _ again hi ⟨rfl, hb⟩ ih
    unfold kit_InBytes_b2
    dsimp only
    have hy : s[i]? = some s[i] := getElem?_of hi
    have hym : s[i] ∈ s := List.getElem_mem hi
    generalize s[i] = y at hy hym
    rw [bif_pos (by omega), sidx_get hy, Option.bind_some, Option.bind_some, w64_id (by omega) (by omega)]
    cases hd : digC y with
    | true =>
     obtain ⟨h1, h2⟩ := digC_not.2 hd
     rw [h1, h2, cond_false, cond_false]
     refine ih _ ⟨rfl, ?_⟩
     rw [take_succ_get hy]
     simp [hb, hd]
    | false =>
     have hall : s.all digC = false := by
      rw [List.all_eq_false]
      exact ⟨y, hym, by simp [hd]⟩
     rw [hall]
     cases h1 : decide ((y.toNat : Int) < 48) with
     | true => rfl
     | false =>
      cases h2 : decide ((y.toNat : Int) > 57) with
      | true => rfl
      | false => have := digC_not.1 ⟨h1, h2⟩; rw [hd] at this; cases this
   ·rintro _ again ⟨rfl, hb⟩
    unfold kit_InBytes_b2
    dsimp only
    rw [bif_neg (by omega)]
    rw [List.take_of_length_le (Nat.le_refl _)] at hb
    rw [if_pos hb]
  rw [loop _ (by omega)]
  cases s.all digC <;> rfl
def qOk (d : D_api_Decimal) (zero : Bool) : Bool := inR d 0 1000000000 3 && (!(d.1 == 0) || zero)
theorem order_within_eq {d : D_api_Decimal} (hd : DecOk d) : order_within d 3 1000000000 = some (inR d 0 1000000000 3, ()) := by
 unfold order_within
 have hp := pow10_pos d.2.toNat
 have hp2 : (10 : Int) ^ d.2.toNat ≤ 1000000000 := by
  have := Nat.pow_le_pow_right (n := 10) (by omega) (show d.2.toNat ≤ 9 by have := hd.2.2; omega)
  have h2 := Int.ofNat_le.2 this
  simpa using h2
 rw [order_power_eq d.2 hd.2.1 (by have := hd.2.2; omega)]
 have e : inR d 0 1000000000 3 = (decide (d.2 ≤ 3) && (decide (d.1 ≥ 0) && decide (d.1 ≤ 1000000000 * 10 ^ d.2.toNat))) := by
  unfold inR
  rw [← Bool.decide_and, ← Bool.decide_and, decide_eq_decide, Int.zero_mul]
  constructor
  ·rintro ⟨_, h2, h3, h4⟩; exact ⟨h2, h3, h4⟩
  ·rintro ⟨h2, h3, h4⟩; exact ⟨hd, h2, h3, h4⟩
 rw [e, Option.bind_some, w64_id (n := 1000000000 * 10 ^ d.2.toNat) (by omega) (by omega)]
 cases decide (d.2 ≤ 3) <;> cases decide (d.1 ≥ 0) <;> cases decide (d.1 ≤ 1000000000 * 10 ^ d.2.toNat) <;> rfl
theorem order_QuantityFault_eq (d : D_api_Decimal) (z : Bool) : order_QuantityFault d z = some (if qOk d z = true then 0 else 1, ()) := by
 unfold order_QuantityFault qOk
 rw [amount_CheckDecimal_eq', Option.bind_some]
 by_cases hd : DecOk d
 ·rw [order_within_eq hd, if_pos hd]
  dsimp only
  rw [show ((0 : Int) != 0) = false from rfl, cond_false, Option.bind_some]
  cases inR d 0 1000000000 3 <;> cases (d.1 == 0) <;> cases z <;> rfl
 ·have : inR d 0 1000000000 3 = false := by unfold inR; simp [hd]
  simp [hd, this]
end Go.Md
