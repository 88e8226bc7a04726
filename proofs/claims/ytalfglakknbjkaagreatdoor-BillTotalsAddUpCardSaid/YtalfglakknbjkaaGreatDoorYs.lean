/-
 Plain facts: what is wrong with an invoice; gross and net. No condition.
-/
import Derived.Test.YtalfglakknbjkaaGreatDoorYr
set_option linter.all false
namespace Go.Md
open Go.Dn

theorem bless_irrefl : ∀ a : List UInt8, Op.bytesLess a a = false
 | [] => rfl
 | x :: a => by simp [Op.bytesLess, bless_irrefl a]
theorem cmpB_zero : ∀ {a b : List UInt8}, Lib.compareBytes a b = 0 ↔ a = b
 | [], [] => by simp [Lib.compareBytes]
 | [], _ :: _ => by simp [Lib.compareBytes]
 | _ :: _, [] => by simp [Lib.compareBytes]
 | x :: a, y :: b => by
  simp only [Lib.compareBytes, List.cons.injEq]
  by_cases h1 : x < y
  ·simp only [h1, if_true]
   constructor
   ·intro h; omega
   ·rintro ⟨rfl, _⟩; exact absurd h1 (UInt8.lt_irrefl x)
  ·by_cases h2 : y < x
   ·simp only [h1, h2, if_true, if_false]
    constructor
    ·intro h; omega
    ·rintro ⟨rfl, _⟩; exact absurd h2 (UInt8.lt_irrefl x)
   ·have : x = y := UInt8.le_antisymm (UInt8.not_lt.1 h2) (UInt8.not_lt.1 h1)
    subst this
    simp only [h1, if_false, true_and]
    exact cmpB_zero
theorem cmpB_neg : ∀ {a b : List UInt8}, Lib.compareBytes a b < 0 ↔ Op.bytesLess a b = true
 | [], [] => by simp [Lib.compareBytes, Op.bytesLess]
 | [], _ :: _ => by simp [Lib.compareBytes, Op.bytesLess]
 | _ :: _, [] => by simp [Lib.compareBytes, Op.bytesLess]
 | x :: a, y :: b => by
  have ih := @cmpB_neg a b
  simp only [Lib.compareBytes, Op.bytesLess]
  by_cases h1 : x < y
  ·simp [h1]
  ·by_cases h2 : y < x
   ·have hne : ¬ x = y := fun e => by subst e; exact absurd h2 (UInt8.lt_irrefl x)
    simp [h1, h2, hne]
   ·have : x = y := UInt8.le_antisymm (UInt8.not_lt.1 h2) (UInt8.not_lt.1 h1)
    subst this
    simp [h1, ih]
theorem bless_trans : ∀ {a b c : List UInt8}, Op.bytesLess a b = true → Op.bytesLess b c = true → Op.bytesLess a c = true
 | [], [], _, h, _ => by simp [Op.bytesLess] at h
 | [], _ :: _, [], _, h => by simp [Op.bytesLess] at h
 | [], _ :: _, _ :: _, _, _ => rfl
 | _ :: _, [], _, h, _ => by simp [Op.bytesLess] at h
 | _ :: _, _ :: _, [], _, h => by simp [Op.bytesLess] at h
 | x :: a, y :: b, z :: c, h, k => by
  simp only [Op.bytesLess, Bool.or_eq_true, Bool.and_eq_true, decide_eq_true_eq, beq_iff_eq] at h k ⊢
  rcases h with h | ⟨rfl, h⟩
  ·rcases k with k | ⟨rfl, k⟩
   ·exact .inl (UInt8.lt_trans h k)
   ·exact .inl h
  ·rcases k with k | ⟨rfl, k⟩
   ·exact .inl k
   ·exact .inr ⟨rfl, bless_trans h k⟩
theorem bless_tri (a b : List UInt8) : Op.bytesLess a b = true ∨ a = b ∨ Op.bytesLess b a = true := by
 induction a generalizing b with
 | nil => cases b with
  | nil => simp
  | cons y b => simp [Op.bytesLess]
 | cons x a ih => cases b with
  | nil => simp [Op.bytesLess]
  | cons y b =>
   simp only [Op.bytesLess, Bool.or_eq_true, Bool.and_eq_true, decide_eq_true_eq, beq_iff_eq, List.cons.injEq]
   by_cases h1 : x < y
   ·simp [h1]
   ·by_cases h2 : y < x
    ·simp [h2]
    ·have : x = y := UInt8.le_antisymm (UInt8.not_lt.1 h2) (UInt8.not_lt.1 h1)
     subst this
     rcases ih b with h | h | h <;> simp [h]

def Asc {α : Type} (key : α → List UInt8) (l : List α) : Prop := ∀ (i j : Nat) (x y : α), i < j → l[i]? = some x → l[j]? = some y → Op.bytesLess (key x) (key y) = true

def ixOf {α : Type} (key : α → List UInt8) (t : List UInt8) (l : List α) : Option Nat := l.findIdx? (fun r => key r == t)
theorem ixOf_some {α : Type} {key : α → List UInt8} {t : List UInt8} {l : List α} {k : Nat} (h : ixOf key t l = some k) : ∃ x, l[k]? = some x ∧ key x = t := by
 unfold ixOf at h
 rw [List.findIdx?_eq_some_iff_getElem] at h
 obtain ⟨h1, h2, _⟩ := h
 exact ⟨_, List.getElem?_eq_getElem h1, by simpa using h2⟩
theorem ixOf_none {α : Type} {key : α → List UInt8} {t : List UInt8} {l : List α} (h : ixOf key t l = none) : ∀ x ∈ l, key x ≠ t := by
 unfold ixOf at h
 rw [List.findIdx?_eq_none_iff] at h
 intro x hx e
 have := h x hx
 simp [e] at this
theorem ixOf_of {α : Type} {key : α → List UInt8} {t : List UInt8} {l : List α} (hs : Asc key l) {k : Nat} {x : α} (hk : l[k]? = some x) (hx : key x = t) : ixOf key t l = some k := by
 cases h : ixOf key t l with
 | none => exact absurd hx (ixOf_none h x (List.mem_of_getElem? hk))
 | some j =>
  obtain ⟨y, h1, h2⟩ := ixOf_some h
  rcases Nat.lt_trichotomy j k with hlt | rfl | hlt
  ·have := hs j k y x hlt h1 hk
   rw [h2, hx, bless_irrefl] at this; cases this
  ·rfl
  ·have := hs k j x y hlt hk h1
   rw [h2, hx, bless_irrefl] at this; cases this

theorem bsearch_Rate (l : List D_api_Rate) (t : List UInt8) (hl : l.length < 1000000000) (hs : Asc (·.1) l) :
  ∃ i : Nat, slices_BinarySearchFunc_api_Rate_string l t () = some ((i : Int), (ixOf (·.1) t l).isSome, ()) ∧ ∀ k, ixOf (·.1) t l = some k → i = k := by
 unfold slices_BinarySearchFunc_api_Rate_string
 have loop : ∀ f, l.length < f → ∃ i : Nat, iter f ((l, t, (), (l.length : Int), (0 : Int), (l.length : Int), ()) : slices_BinarySearchFunc_api_Rate_string_x3) slices_BinarySearchFunc_api_Rate_string_b3 = some (Sum.inr (l, t, (), (l.length : Int), (i : Int), ())) ∧ i ≤ l.length ∧ (∀ k x, l[k]? = some x → k < i → Op.bytesLess x.1 t = true) ∧ ∀ k x, l[k]? = some x → i ≤ k → Op.bytesLess x.1 t = false := by
  intro f hf
  refine iter_meas (Inv := fun X => ∃ i j : Nat, X = ((l, t, (), (l.length : Int), (i : Int), (j : Int), ()) : slices_BinarySearchFunc_api_Rate_string_x3) ∧ i ≤ j ∧ j ≤ l.length ∧ (∀ k x, l[k]? = some x → k < i → Op.bytesLess x.1 t = true) ∧ ∀ k x, l[k]? = some x → j ≤ k → Op.bytesLess x.1 t = false)
   (fun X => (X.2.2.2.2.2.1 - X.2.2.2.2.1).toNat)
   (fun _ r => ∃ i : Nat, r = some (Sum.inr (l, t, (), (l.length : Int), (i : Int), ())) ∧ i ≤ l.length ∧ (∀ k x, l[k]? = some x → k < i → Op.bytesLess x.1 t = true) ∧ ∀ k x, l[k]? = some x → i ≤ k → Op.bytesLess x.1 t = false) ?_ f _ ⟨0, l.length, rfl, by omega, by omega, fun _ _ _ h => absurd h (Nat.not_lt_zero _), fun k x hk hle => by have := (List.getElem?_eq_some_iff.1 hk).1; omega⟩ (by dsimp only; omega)
  rintro _ again ⟨i, j, rfl, hij, hj, h1, h2⟩ ih
  dsimp only at ih
  unfold slices_BinarySearchFunc_api_Rate_string_b3
  dsimp only
  by_cases hlt : i < j
  ·rw [bif_pos (by omega)]
   have em : w64 (Int.fdiv (wu64 (w64 ((i : Int) + (j : Int)))) (2 ^ 1)) = (((i + j) / 2 : Nat) : Int) := by
    rw [w64_id (n := (i : Int) + (j : Int)) (by omega) (by omega), wu64_id (by omega) (by omega), Int.fdiv_eq_ediv_of_nonneg _ (by omega), w64_id (by omega) (by omega)]
    omega
   rw [em]
   have hm : (i + j) / 2 < l.length := by omega
   have hy : l[(i + j) / 2]? = some l[(i + j) / 2] := getElem?_of hm
   have hmi : i ≤ (i + j) / 2 ∧ (i + j) / 2 < j := by omega
   generalize (i + j) / 2 = m at *
   generalize l[m] = y at hy
   rw [idx_nat, hy, Option.bind_some]
   show ∃ i, Option.bind (Option.bind (some (Lib.compareBytes y.1 t, ())) fun r1 => some (r1.1, ())) _ = _ ∧ _
   rw [Option.bind_some, Option.bind_some]
   dsimp only
   by_cases hc : Lib.compareBytes y.1 t < 0
   ·rw [bif_pos hc, w64_id (by omega) (by omega)]
    refine ih _ ⟨m + 1, j, rfl, by omega, hj, fun k x hk hkm => ?_, h2⟩ (by dsimp only; omega)
    rcases Nat.lt_succ_iff_lt_or_eq.1 hkm with h | h
    ·have := hs k m x y h hk hy
     exact bless_trans this (cmpB_neg.1 hc)
    ·subst h; rw [hy] at hk; cases hk; exact cmpB_neg.1 hc
   ·rw [bif_neg hc]
    refine ih _ ⟨i, m, rfl, by omega, by omega, h1, fun k x hk hkm => ?_⟩ (by dsimp only; omega)
    have hc' : Op.bytesLess y.1 t = false := by
     cases h : Op.bytesLess y.1 t with
     | false => rfl
     | true => exact absurd (cmpB_neg.2 h) hc
    rcases Nat.lt_or_eq_of_le hkm with h | h
    ·cases hx : Op.bytesLess x.1 t with
     | false => rfl
     | true => rw [bless_trans (hs m k y x h hy hk) hx] at hc'; cases hc'
    ·subst h; rw [hy] at hk; cases hk; exact hc'
  ·rw [bif_neg (by omega)]
   have : i = j := by omega
   subst this
   exact ⟨i, rfl, hj, h1, h2⟩
 obtain ⟨i, h1, h2, h3, h4⟩ := loop (List.length l + (List.length t + (Int.natAbs ((List.length l : Int)) + (Int.natAbs (0 : Int) + (Int.natAbs ((List.length l : Int)) + 2))))) (by omega)
 refine ⟨i, ?_, fun k hk => ?_⟩
 ·rw [h1, joinB_inr]
  dsimp only
  by_cases hi : i < l.length
  ·have hy : l[i]? = some l[i] := getElem?_of hi
   generalize l[i] = y at hy
   rw [bif_pos (by omega), idx_nat, hy, Option.bind_some]
   show Option.bind (Option.bind (some (Lib.compareBytes y.1 t, ())) fun r1 => some (r1.1, ())) _ = _
   rw [Option.bind_some, Option.bind_some]
   congr 3
   by_cases he : y.1 = t
   ·rw [ixOf_of hs hy he, cmpB_zero.2 he]; rfl
   ·have hne : ¬ Lib.compareBytes y.1 t = 0 := fun h => he (cmpB_zero.1 h)
    rw [show (Lib.compareBytes y.1 t == 0) = false by simpa using hne]
    cases hx : ixOf (·.1) t l with
    | none => rfl
    | some k =>
     exfalso
     obtain ⟨x, k1, k2⟩ := ixOf_some hx
     rcases Nat.lt_trichotomy k i with h | h | h
     ·have := h3 k x k1 h; rw [k2, bless_irrefl] at this; cases this
     ·subst h; rw [hy] at k1; cases k1; exact he k2
     ·have := hs i k y x h hy k1
      dsimp only at this
      rw [k2, h4 i y hy (Nat.le_refl _)] at this; cases this
  ·rw [bif_neg (by omega)]
   congr 3
   cases hx : ixOf (·.1) t l with
   | none => rfl
   | some k =>
    exfalso
    obtain ⟨x, k1, k2⟩ := ixOf_some hx
    have := h3 k x k1 (by have := (List.getElem?_eq_some_iff.1 k1).1; omega)
    rw [k2, bless_irrefl] at this; cases this
 ·obtain ⟨x, k1, k2⟩ := ixOf_some hk
  rcases Nat.lt_trichotomy k i with h | h | h
  ·have := h3 k x k1 h; rw [k2, bless_irrefl] at this; cases this
  ·exact h.symm
  ·have hy : l[i]? = some (l[i]'(by have := (List.getElem?_eq_some_iff.1 k1).1; omega)) := getElem?_of _
   have := hs i k _ x h hy k1
   dsimp only at this
   rw [k2, h4 i _ hy (Nat.le_refl _)] at this; cases this

theorem bill_rateAt_eq (l : List D_api_Rate) (t : List UInt8) (hl : l.length < 1000000000) (hs : Asc (·.1) l) :
  ∃ i : Nat, bill_rateAt l t = some ((i : Int), (ixOf (·.1) t l).isSome, ()) ∧ ∀ k, ixOf (·.1) t l = some k → i = k := by
 obtain ⟨i, h1, h2⟩ := bsearch_Rate l t hl hs
 exact ⟨i, by unfold bill_rateAt; rw [h1, Option.bind_some], h2⟩

theorem bill_hasRate_eq (v : D_api_Invoice) (t : List UInt8) (hl : v.2.2.2.2.2.2.1.length < 1000000000) (hs : Asc (·.1) v.2.2.2.2.2.2.1) : bill_hasRate v t = some ((ixOf (·.1) t v.2.2.2.2.2.2.1).isSome, ()) := by
 obtain ⟨i, h1, h2⟩ := bill_rateAt_eq v.2.2.2.2.2.2.1 t hl hs
 unfold bill_hasRate
 rw [h1, Option.bind_some]

end Go.Md

namespace Go.Md
open Go.Dn

instance (d : D_api_Decimal) : Decidable (DecOk d) := by unfold DecOk; exact inferInstance
def inR (d : D_api_Decimal) (lo hi pl : Int) : Bool := decide (DecOk d ∧ d.2 ≤ pl ∧ lo * 10 ^ d.2.toNat ≤ d.1 ∧ d.1 ≤ hi * 10 ^ d.2.toNat)
theorem amount_CheckDecimal_eq' (d : D_api_Decimal) : amount_CheckDecimal d = some (if DecOk d then 0 else 1, ()) := by
 rw [amount_CheckDecimal_eq]
 congr 2
 by_cases h : DecOk d
 ·rw [if_pos h, if_pos (by unfold DecOk at h; omega)]
 ·rw [if_neg h, if_neg (by unfold DecOk at h; omega)]
theorem bill_between_eq' {d : D_api_Decimal} (h : DecOk d) (most : Int) (hm0 : 0 ≤ most) (hm1 : most ≤ 1000000000) : bill_between d most = some (inR d (-most) most 9, ()) := by
 rw [bill_between_eq d most h.2.1 h.2.2 hm0 hm1]
 unfold inR
 congr 2
 rw [decide_eq_decide, Int.neg_mul]
 constructor
 ·rintro ⟨h1, h2⟩; exact ⟨h, h.2.2, h1, h2⟩
 ·rintro ⟨_, _, h1, h2⟩; exact ⟨h1, h2⟩

def extF (pl : Int) (rates : List D_api_Rate) (line : Bool) (x : D_api_Extra) : Int :=
 if DecOk x.2.1 then
  (if x.2.1.1 = 0 then 13
  else if (if x.1 = true then inR x.2.1 (-100) 100 9 else inR x.2.1 (-1000000000) 1000000000 pl) = true then
   (if x.2.2 = [] then 0 else if line = true then 3 else if (ixOf (·.1) x.2.2 rates).isSome = true then 0 else 5)
  else 1)
 else 1
def extsF (pl : Int) (rates : List D_api_Rate) (line : Bool) (l : List D_api_Extra) : Int := if 20 < l.length then 2 else scanF (fun _ x => extF pl rates line x) 0 l

theorem scanJ {γ : Type} (s : Int) (u : γ) : joinB (β := Int × Unit) (γ := γ) (if s = 0 then some (Sum.inr u) else some (Sum.inl (s, ()))) (fun _ => some (0, ())) = some (s, ()) := by
 by_cases h : s = 0
 ·rw [if_pos h, joinB_inr, h]
 ·rw [if_neg h, joinB_inl]

theorem inR_pl {d : D_api_Decimal} {lo hi pl : Int} (h : DecOk d) : inR d lo hi pl = (inR d lo hi 9 && decide (d.2 ≤ pl)) := by
 unfold inR
 rw [← Bool.decide_and, decide_eq_decide]
 constructor
 ·rintro ⟨h1, h2, h3⟩; exact ⟨⟨h1, h.2.2, h3⟩, h2⟩
 ·rintro ⟨⟨h1, _, h3⟩, h2⟩; exact ⟨h1, h2, h3⟩

theorem iter_scan0 {X α : Type} {γ : Type} {f : X → (X → Option ((Int × Unit) ⊕ γ)) → Option ((Int × Unit) ⊕ γ)} {x0 : X} (mk : Nat → X) (l : List α) (g : Nat → α → Int) (u : γ) (h0 : x0 = mk 0)
  (hstep : ∀ i y again, l[i]? = some y → f (mk i) again = if g i y = 0 then again (mk (i + 1)) else some (Sum.inl (g i y, ()))) (hend : ∀ again, f (mk l.length) again = some (Sum.inr u)) (n : Nat) (hn : l.length < n) :
  iter n x0 f = if scanF g 0 l = 0 then some (Sum.inr u) else some (Sum.inl (scanF g 0 l, ())) := by
 rw [h0]; exact iter_scan mk l g u hstep hend l 0 n rfl (Nat.zero_le _) hn

theorem bill_extrasFault_eq (v : D_api_Invoice) (l : List D_api_Extra) (line : Bool) (hl : v.2.2.2.2.2.2.1.length < 1000000000) (hs : Asc (·.1) v.2.2.2.2.2.2.1) : bill_extrasFault v l line = some (extsF v.2.2.2.1 v.2.2.2.2.2.2.1 line l, ()) := by
 unfold bill_extrasFault extsF
 by_cases hb : 20 < l.length
 ·rw [bif_pos (by omega), if_pos hb]
 ·rw [bif_neg (by omega), if_neg hb]
  obtain ⟨a, b, c, d, e, f, g, h, k⟩ := v
  dsimp only at *
  have hR : ∀ t, bill_hasRate (a, b, c, d, e, f, g, h, k) t = some ((ixOf (·.1) t g).isSome, ()) := fun t => bill_hasRate_eq _ t hl hs
  rw [iter_scan0 (f := bill_extrasFault_b4) (fun i => ((line, l, (l.length : Int), (i : Int), a, b, c, d, e, f, g, h, k, ()) : bill_extrasFault_x4)) l (fun _ x => extF d g line x) () ?_ ?_ ?_ _ ?_]
  ·exact scanJ _ _
  ·rfl
  ·intro i y again hy
   have hi := (List.getElem?_eq_some_iff.1 hy).1
   unfold bill_extrasFault_b4
   dsimp only
   rw [bif_pos (by omega), idx_nat, hy, Option.bind_some, amount_CheckDecimal_eq', Option.bind_some]
   have hw : w64 ((i : Int) + 1) = (i : Int) + 1 := w64_id (by omega) (by omega)
   unfold extF
   by_cases hd : DecOk y.2.1
   ·rw [if_pos hd, show ((0 : Int) != 0) = false from rfl, cond_false, if_pos hd]
    by_cases h0 : y.2.1.1 = 0
    ·rw [show (y.2.1.1 == 0) = true by simpa using h0, cond_true, if_pos h0]; rfl
    ·rw [show (y.2.1.1 == 0) = false by simpa using h0, cond_false, if_neg h0]
     rw [bill_between_eq' hd 100 (by omega) (by omega), bill_between_eq' hd 1000000000 (by omega) (by omega), inR_pl (pl := d) hd]
     have hgt : decide (y.2.1.2 > d) = !decide (y.2.1.2 ≤ d) := by
      by_cases hq : y.2.1.2 ≤ d
      ·simp [hq]
      ·simp [hq]; omega
     have hnil : ∀ (s : List UInt8), (s == []) = decide (s = []) := fun s => by cases s <;> rfl
     simp only [hR, Option.bind_some, hgt, hnil]
     generalize inR y.2.1 (-100) 100 9 = b1
     generalize inR y.2.1 (-1000000000) 1000000000 9 = b2
     generalize decide (y.2.1.2 ≤ d) = b3
     generalize y.1 = p
     by_cases hn : y.2.2 = []
     ·cases p <;> cases b1 <;> cases b2 <;> cases b3 <;> cases line <;> simp [joinB, hw, hnil, hn, hR]
     ·cases h4 : (ixOf (fun x : D_api_Rate => x.1) y.2.2 g).isSome <;> cases p <;> cases b1 <;> cases b2 <;> cases b3 <;> cases line <;> simp [joinB, hw, hnil, hn, hR, h4]
   ·rw [if_neg hd, if_neg hd]; rfl
  ·intro again
   unfold bill_extrasFault_b4
   dsimp only
   rw [bif_neg (by omega)]
  ·omega

end Go.Md

namespace Go.Md
open Go.Dn

theorem len_beq {α : Type} (l : List α) : ((l.length : Int) == 0) = decide (l.length = 0) := by
 cases l with
 | nil => rfl
 | cons a r => rw [show decide ((a :: r).length = 0) = false by simp, beq_eq_false_iff_ne]; simp only [List.length_cons]; omega
def prevGe (l : List D_api_Rate) (i : Nat) (y : D_api_Rate) : Bool := match i with
 | 0 => false
 | i + 1 => match l[i]? with
  | some p => Op.bytesLess y.1 p.1 || y.1 == p.1
  | none => false
def rateF (l : List D_api_Rate) (i : Nat) (r : D_api_Rate) : Int := if isNm r.1 = false then 5 else if prevGe l i r = true then 8 else if inR r.2 0 100 9 = true then 0 else 1
def ratesF (l : List D_api_Rate) : Int := if l.length = 0 then 9 else if 20 < l.length then 2 else scanF (rateF l) 0 l

theorem asc_of_prev {l : List D_api_Rate} (h : ∀ i y, l[i]? = some y → prevGe l i y = false) : Asc (·.1) l := by
 have step : ∀ i x y, l[i]? = some x → l[i + 1]? = some y → Op.bytesLess x.1 y.1 = true := fun i x y hx hy => by
  have := h (i + 1) y hy
  simp only [prevGe, hx, Bool.or_eq_false_iff, beq_eq_false_iff_ne] at this
  rcases bless_tri x.1 y.1 with h1 | h1 | h1
  ·exact h1
  ·exact absurd h1.symm this.2
  ·rw [this.1] at h1; cases h1
 intro i j x y hij hx hy
 induction j generalizing y with
 | zero => omega
 | succ j ih =>
  rcases Nat.lt_succ_iff_lt_or_eq.1 hij with h1 | h1
  ·have hj : j < l.length := by have := (List.getElem?_eq_some_iff.1 hy).1; omega
   have hz : l[j]? = some l[j] := getElem?_of hj
   exact bless_trans (ih _ h1 hz) (step j _ y hz hy)
  ·subst h1; exact step i x y hx hy
theorem ratesF_zero {l : List D_api_Rate} (h : ratesF l = 0) : 0 < l.length ∧ l.length ≤ 20 ∧ Asc (·.1) l ∧ ∀ r ∈ l, inR r.2 0 100 9 = true := by
 unfold ratesF at h
 split at h
 ·omega
 ·split at h
  ·omega
  ·have hz := scanF_zero h
   refine ⟨by omega, by omega, asc_of_prev fun i y hy => ?_, fun r hr => ?_⟩
   ·have := hz i y hy
    rw [Nat.zero_add] at this
    unfold rateF at this
    split at this
    ·omega
    ·split at this
     ·omega
     ·rename_i h1; simpa using h1
   ·obtain ⟨i, hi⟩ := List.mem_iff_getElem?.1 hr
    have := hz i r hi
    rw [Nat.zero_add] at this
    unfold rateF at this
    split at this
    ·omega
    ·split at this
     ·omega
     ·split at this
      ·assumption
      ·omega

theorem inR_nonneg {d : D_api_Decimal} (h : DecOk d) (hi : Int) : inR d 0 hi 9 = (!decide (d.1 < 0) && inR d (-hi) hi 9) := by
 have hp := pow10_pos d.2.toNat
 unfold inR
 rw [← decide_not, ← Bool.decide_and, decide_eq_decide]
 constructor
 ·rintro ⟨h1, h2, h3, h4⟩
  rw [Int.zero_mul] at h3
  refine ⟨by omega, h1, h2, ?_, h4⟩
  rw [Int.neg_mul]
  have : 0 ≤ hi * 10 ^ d.2.toNat := by omega
  omega
 ·rintro ⟨h0, h1, h2, h3, h4⟩
  exact ⟨h1, h2, by rw [Int.zero_mul]; omega, h4⟩

theorem prev_idx {l : List D_api_Rate} {i : Nat} (hi : i + 1 < l.length + 1) (hl : l.length < 1000000000) : idx l (w64 (((i + 1 : Nat) : Int) - 1)) = l[i]? := by
 rw [w64_id (by omega) (by omega), show ((i + 1 : Nat) : Int) - 1 = ((i : Nat) : Int) by omega, idx_nat]

theorem bill_ratesFault_eq (l : List D_api_Rate) (hl : l.length < 1000000000) : bill_ratesFault l = some (ratesF l, ()) := by
 unfold bill_ratesFault ratesF
 by_cases h0 : l.length = 0
 ·rw [len_beq, decide_eq_true h0, cond_true, if_pos h0]
 ·rw [len_beq, decide_eq_false h0, cond_false, if_neg h0]
  by_cases hb : 20 < l.length
  ·rw [bif_pos (by omega), if_pos hb]
  ·rw [bif_neg (by omega), if_neg hb]
   rw [iter_scan0 (f := bill_ratesFault_b6) (fun i => ((l, l, (l.length : Int), (i : Int), ()) : bill_ratesFault_x6)) l (rateF l) () ?_ ?_ ?_ _ ?_]
   ·exact scanJ _ _
   ·rfl
   ·intro i y again hy
    have hi := (List.getElem?_eq_some_iff.1 hy).1
    unfold bill_ratesFault_b6
    dsimp only
    rw [bif_pos (by omega), idx_nat, hy, Option.bind_some, kit_IsName_eq, Option.bind_some, w64_id (n := (i : Int) + 1) (by omega) (by omega)]
    unfold rateF
    cases hn : isNm y.1 with
    | false => simp
    | true =>
     have tail : (Option.bind (amount_CheckDecimal y.2) fun r5 => bif r5.1 != 0 then some (Sum.inl (r5.1, ())) else bif decide (y.2.1 < 0) then some (Sum.inl (1, ())) else Option.bind (bill_between y.2 100) fun r6 => bif !r6.1 then some (Sum.inl (1, ())) else again (l, l, (l.length : Int), (i : Int) + 1, ())) = if (if inR y.2 0 100 9 = true then (0 : Int) else 1) = 0 then again (l, l, (l.length : Int), ((i + 1 : Nat) : Int), ()) else some (Sum.inl (1, ())) := by
      rw [amount_CheckDecimal_eq', Option.bind_some]
      by_cases hd : DecOk y.2
      ·rw [inR_nonneg hd 100, bill_between_eq' hd 100 (by omega) (by omega)]
       generalize inR y.2 (-100) 100 9 = b
       by_cases hneg : y.2.1 < 0
       ·simp [hd, hneg]
       ·cases b <;> simp [hd, hneg]
      ·have : inR y.2 0 100 9 = false := by unfold inR; simp [hd]
       simp [hd, this]
     simp only [Bool.not_true, cond_false, Bool.true_eq_false, if_false]
     cases i with
     | zero =>
      rw [bif_neg (by omega), tail]
      simp only [prevGe, Bool.false_eq_true, if_false]
      split <;> simp_all
     | succ i =>
      have hp : l[i]? = some (l[i]'(by omega)) := getElem?_of (by omega)
      rw [bif_pos (by omega), prev_idx (by omega) hl, hp, Option.bind_some]
      have ep : prevGe l (i + 1) y = (Op.bytesLess y.1 (l[i]'(by omega)).1 || y.1 == (l[i]'(by omega)).1) := by simp only [prevGe, hp]
      rw [ep]
      cases (Op.bytesLess y.1 (l[i]'(by omega)).1 || y.1 == (l[i]'(by omega)).1) with
      | true => simp
      | false =>
       simp only [cond_false]
       rw [tail]
       simp only [Bool.false_eq_true, if_false]
       split <;> simp_all
   ·intro again
    unfold bill_ratesFault_b6
    dsimp only
    rw [bif_neg (by omega)]
   ·omega

def prevNo (l : List D_api_BillLine) (i : Nat) (y : D_api_BillLine) : Bool := match i with
 | 0 => false
 | i + 1 => match l[i]? with
  | some p => decide (y.1 ≤ p.1)
  | none => false
def lineF (pl : Int) (rates : List D_api_Rate) (lines : List D_api_BillLine) (i : Nat) (x : D_api_BillLine) : Int :=
 if x.1 < 1 ∨ 99999 < x.1 then 1
 else if prevNo lines i x = true then 8
 else if x.2.1 < 1 ∨ 99999 < x.2.1 then 1
 else if isNm x.2.2.1 = false then 5
 else if inR x.2.2.2.1 (-1000000000) 1000000000 3 = false then 1
 else if x.2.2.2.1.1 = 0 then 13
 else if isNm x.2.2.2.2.1 = false then 5
 else if inR x.2.2.2.2.2.1 0 1000000000 4 = false then 1
 else if x.2.2.2.2.2.2.1 < 1 ∨ 100000 < x.2.2.2.2.2.2.1 then 1
 else if extsF pl rates true x.2.2.2.2.2.2.2.1 ≠ 0 then extsF pl rates true x.2.2.2.2.2.2.2.1
 else if (ixOf (·.1) x.2.2.2.2.2.2.2.2 rates).isSome = true then 0 else 5

theorem order_power_eq (n : Int) (h0 : 0 ≤ n) (h1 : n ≤ 18) : order_power n = some (10 ^ n.toNat, ()) := bill_power_eq n h0 h1
theorem order_PriceFault_eq (d : D_api_Decimal) : order_PriceFault d = some (if inR d 0 1000000000 4 = true then 0 else 1, ()) := by
 unfold order_PriceFault order_within
 rw [amount_CheckDecimal_eq', Option.bind_some]
 by_cases hd : DecOk d
 ·have hp := pow10_pos d.2.toNat
  have hp2 : (10 : Int) ^ d.2.toNat ≤ 1000000000 := by
   have := Nat.pow_le_pow_right (n := 10) (by omega) (show d.2.toNat ≤ 9 by have := hd.2.2; omega)
   have h2 := Int.ofNat_le.2 this
   simpa using h2
  rw [order_power_eq d.2 hd.2.1 (by have := hd.2.2; omega)]
  dsimp only
  rw [if_pos hd, show ((0 : Int) != 0) = false from rfl, cond_false]
  have e : inR d 0 1000000000 4 = (decide (d.2 ≤ 4) && (decide (d.1 ≥ 0) && decide (d.1 ≤ 1000000000 * 10 ^ d.2.toNat))) := by
   unfold inR
   rw [← Bool.decide_and, ← Bool.decide_and, decide_eq_decide, Int.zero_mul]
   constructor
   ·rintro ⟨_, h2, h3, h4⟩; exact ⟨h2, h3, h4⟩
   ·rintro ⟨h2, h3, h4⟩; exact ⟨hd, h2, h3, h4⟩
  rw [e, Option.bind_some, w64_id (n := 1000000000 * 10 ^ d.2.toNat) (by omega) (by omega)]
  cases decide (d.2 ≤ 4) <;> cases decide (d.1 ≥ 0) <;> cases decide (d.1 ≤ 1000000000 * 10 ^ d.2.toNat) <;> rfl
 ·have : inR d 0 1000000000 4 = false := by unfold inR; simp [hd]
  simp [hd, this]

end Go.Md

namespace Go.Md
open Go.Dn

theorem prevNo_idx {l : List D_api_BillLine} {i : Nat} (hi : i < l.length) (hl : l.length < 1000000000) : idx l (w64 (((i + 1 : Nat) : Int) - 1)) = l[i]? := by
 rw [w64_id (by omega) (by omega), show ((i + 1 : Nat) : Int) - 1 = ((i : Nat) : Int) by omega, idx_nat]
theorem inR_q (d : D_api_Decimal) : (if DecOk d then (decide (d.2 > 3) || !inR d (-1000000000) 1000000000 9) else true) = !inR d (-1000000000) 1000000000 3 := by
 by_cases h : DecOk d
 ·rw [if_pos h, inR_pl (pl := 3) h]
  by_cases h3 : d.2 ≤ 3
  ·have : ¬ d.2 > 3 := by omega
   simp [h3, this]
  ·have : d.2 > 3 := by omega
   simp [h3, this]
 ·have : inR d (-1000000000) 1000000000 3 = false := by unfold inR; simp [h]
  simp [h, this]

theorem bill_lineFault_eq (v : D_api_Invoice) (i : Nat) (y : D_api_BillLine) (hl : v.2.2.2.2.2.2.1.length < 1000000000) (hs : Asc (·.1) v.2.2.2.2.2.2.1) (hll : v.2.2.2.2.2.2.2.1.length < 1000000000) (hy : v.2.2.2.2.2.2.2.1[i]? = some y) :
  bill_lineFault v (i : Int) = some (lineF v.2.2.2.1 v.2.2.2.2.2.2.1 v.2.2.2.2.2.2.2.1 i y, ()) := by
 unfold bill_lineFault lineF
 have hR := fun t => bill_hasRate_eq v t hl hs
 have hE := fun l => bill_extrasFault_eq v l true hl hs
 generalize v.2.2.2.2.2.2.1 = rates at *
 generalize v.2.2.2.2.2.2.2.1 = lines at *
 generalize v.2.2.2.1 = pl at *
 have hi := (List.getElem?_eq_some_iff.1 hy).1
 rw [idx_nat, hy, Option.bind_some]
 simp only [kit_Outside_eq, kit_IsName_eq, order_PriceFault_eq, hR, hE, Option.bind_some, amount_CheckDecimal_eq']
 by_cases c1 : y.1 < 1 ∨ 99999 < y.1
 ·simp only [c1, decide_true, cond_true, if_true]
 rw [decide_eq_false c1, cond_false, if_neg c1]
 have tail : (bif decide (y.2.1 < 1 ∨ 99999 < y.2.1) then some ((1 : Int), ()) else bif !isNm y.2.2.1 then some (5, ()) else bif (if DecOk y.2.2.2.1 then (0 : Int) else 1) != 0 then some (if DecOk y.2.2.2.1 then (0 : Int) else 1, ()) else bif decide (y.2.2.2.1.2 > 3) then some (1, ()) else
   Option.bind (bill_between y.2.2.2.1 1000000000) fun r7 => bif !r7.1 then some (1, ()) else bif y.2.2.2.1.1 == 0 then some (13, ()) else bif !isNm y.2.2.2.2.1 then some (5, ()) else bif (if inR y.2.2.2.2.2.1 0 1000000000 4 = true then (0 : Int) else 1) != 0 then some (if inR y.2.2.2.2.2.1 0 1000000000 4 = true then (0 : Int) else 1, ()) else
   bif decide (y.2.2.2.2.2.2.1 < 1 ∨ 100000 < y.2.2.2.2.2.2.1) then some (1, ()) else bif extsF pl rates true y.2.2.2.2.2.2.2.1 != 0 then some (extsF pl rates true y.2.2.2.2.2.2.2.1, ()) else bif !(ixOf (fun x : D_api_Rate => x.1) y.2.2.2.2.2.2.2.2 rates).isSome then some (5, ()) else some (0, ())) =
   some (if y.2.1 < 1 ∨ 99999 < y.2.1 then 1 else if isNm y.2.2.1 = false then 5 else if inR y.2.2.2.1 (-1000000000) 1000000000 3 = false then 1 else if y.2.2.2.1.1 = 0 then 13 else if isNm y.2.2.2.2.1 = false then 5 else if inR y.2.2.2.2.2.1 0 1000000000 4 = false then 1
    else if y.2.2.2.2.2.2.1 < 1 ∨ 100000 < y.2.2.2.2.2.2.1 then 1 else if extsF pl rates true y.2.2.2.2.2.2.2.1 ≠ 0 then extsF pl rates true y.2.2.2.2.2.2.2.1 else if (ixOf (fun x : D_api_Rate => x.1) y.2.2.2.2.2.2.2.2 rates).isSome = true then 0 else 5, ()) := by
  by_cases c2 : y.2.1 < 1 ∨ 99999 < y.2.1
  ·simp only [c2, decide_true, cond_true, if_true]
  rw [decide_eq_false c2, cond_false, if_neg c2]
  cases isNm y.2.2.1 with
  | false => rfl
  | true =>
  simp only [Bool.not_true, cond_false, Bool.true_eq_false, if_false]
  have hq := inR_q y.2.2.2.1
  by_cases hd : DecOk y.2.2.2.1
  ·rw [if_pos hd] at hq
   rw [bill_between_eq' hd 1000000000 (by omega) (by omega)]
   rw [if_pos hd, show ((0 : Int) != 0) = false from rfl, cond_false, Option.bind_some]
   dsimp only
   have hq' : inR y.2.2.2.1 (-1000000000) 1000000000 3 = !(decide (y.2.2.2.1.2 > 3) || !inR y.2.2.2.1 (-1000000000) 1000000000 9) := by rw [hq, Bool.not_not]
   rw [hq']
   cases decide (y.2.2.2.1.2 > 3) with
   | true => rfl
   | false =>
    cases inR y.2.2.2.1 (-1000000000) 1000000000 9 with
    | false => rfl
    | true =>
     simp only [Bool.not_true, Bool.or_false, Bool.not_false, cond_false, Bool.true_eq_false, if_false]
     by_cases c3 : y.2.2.2.1.1 = 0
     ·rw [show (y.2.2.2.1.1 == 0) = true by simpa using c3, cond_true, if_pos c3]
     ·rw [show (y.2.2.2.1.1 == 0) = false by simpa using c3, cond_false, if_neg c3]
      cases isNm y.2.2.2.2.1 with
      | false => rfl
      | true =>
       cases inR y.2.2.2.2.2.1 0 1000000000 4 with
       | false => rfl
       | true =>
        simp only [Bool.not_true, cond_false, Bool.true_eq_false, if_false, if_true]
        rw [show ((0 : Int) != 0) = false from rfl, cond_false]
        by_cases c4 : y.2.2.2.2.2.2.1 < 1 ∨ 100000 < y.2.2.2.2.2.2.1
        ·simp only [c4, decide_true, cond_true, if_true]
        ·rw [decide_eq_false c4, cond_false, if_neg c4]
         by_cases c5 : extsF pl rates true y.2.2.2.2.2.2.2.1 = 0
         ·rw [c5, show ((0 : Int) != 0) = false from rfl, cond_false, if_neg (by simp)]
          cases (ixOf (fun x : D_api_Rate => x.1) y.2.2.2.2.2.2.2.2 rates).isSome <;> rfl
         ·rw [show (extsF pl rates true y.2.2.2.2.2.2.2.1 != 0) = true by simpa using c5, cond_true, if_pos c5]
  ·rw [if_neg hd] at hq
   have : inR y.2.2.2.1 (-1000000000) 1000000000 3 = false := by simpa using hq.symm
   rw [this, if_neg hd]
   rfl
 cases i with
 | zero =>
  rw [bif_neg (by omega), tail]
  rfl
 | succ i =>
  have hp : lines[i]? = some (lines[i]'(by omega)) := getElem?_of (by omega)
  rw [bif_pos (by omega), prevNo_idx (by omega) hll, hp, Option.bind_some]
  have ep : prevNo lines (i + 1) y = decide (y.1 ≤ (lines[i]'(by omega)).1) := by simp only [prevNo, hp]
  rw [ep]
  cases decide (y.1 ≤ (lines[i]'(by omega)).1) with
  | true => rfl
  | false =>
   rw [cond_false, tail]
   rfl

def linesF (v : D_api_Invoice) : Int := scanF (lineF v.2.2.2.1 v.2.2.2.2.2.2.1 v.2.2.2.2.2.2.2.1) 0 v.2.2.2.2.2.2.2.1
def invF (v : D_api_Invoice) : Int :=
 if isNm v.1 = false then 5 else if isNm v.2.1 = false then 5
 else if ¬(1 ≤ v.2.2.1 ∧ v.2.2.1 ≤ 3652059) then 1
 else if v.2.2.2.1 < 0 ∨ 4 < v.2.2.2.1 then 1
 else if v.2.2.2.2.1 < 1 ∨ 6 < v.2.2.2.2.1 then 4
 else if ratesF v.2.2.2.2.2.2.1 ≠ 0 then ratesF v.2.2.2.2.2.2.1
 else if v.2.2.2.2.2.2.2.1.length = 0 then 9
 else if 500 < v.2.2.2.2.2.2.2.1.length then 2
 else if linesF v ≠ 0 then linesF v
 else extsF v.2.2.2.1 v.2.2.2.2.2.2.1 false v.2.2.2.2.2.2.2.2

theorem scanJ2 {γ : Type} (s : Int) (u : γ) (k : γ → Option (Int × Unit)) (z : Int) (hk : k u = some (z, ())) : joinB (β := Int × Unit) (γ := γ) (if s = 0 then some (Sum.inr u) else some (Sum.inl (s, ()))) k = some (if s ≠ 0 then s else z, ()) := by
 by_cases h : s = 0
 ·rw [if_pos h, joinB_inr, hk, if_neg (by simpa using h)]
 ·rw [if_neg h, joinB_inl, if_pos h]

theorem bill_CheckInvoice_eq (v : D_api_Invoice) : bill_CheckInvoice v = some (invF v, ()) := by
 unfold bill_CheckInvoice invF
 simp only [kit_IsName_eq, kit_IsDay_eq, kit_Outside_eq, Option.bind_some, amount_IsWay]
 cases isNm v.1 with
 | false => rfl
 | true =>
 cases isNm v.2.1 with
 | false => rfl
 | true =>
 simp only [Bool.not_true, cond_false, Bool.true_eq_false, if_false]
 by_cases n_c1 : ¬(1 ≤ v.2.2.1 ∧ v.2.2.1 ≤ 3652059)
 ·rw [decide_eq_false n_c1, if_pos n_c1]; rfl
 have c1 := Decidable.of_not_not n_c1
 rw [decide_eq_true c1, if_neg (by simpa using c1), Bool.not_true, cond_false]
 by_cases c2 : v.2.2.2.1 < 0 ∨ 4 < v.2.2.2.1
 ·rw [decide_eq_true c2, if_pos c2]; rfl
 rw [decide_eq_false c2, if_neg c2, cond_false]
 by_cases c3 : v.2.2.2.2.1 < 1 ∨ 6 < v.2.2.2.2.1
 ·rw [decide_eq_true c3, if_pos c3]; rfl
 rw [decide_eq_false c3, if_neg c3, Bool.not_false, Bool.not_true, cond_false]
 by_cases n_hrl : ¬(v.2.2.2.2.2.2.1.length < 1000000000)
 ·have e : ratesF v.2.2.2.2.2.2.1 = 2 := by unfold ratesF; rw [if_neg (by omega), if_pos (by omega)]
  have e2 : bill_ratesFault v.2.2.2.2.2.2.1 = some (2, ()) := by
   unfold bill_ratesFault
   rw [len_beq, decide_eq_false (by omega), cond_false, bif_pos (by omega)]
  rw [e, e2]; rfl
 have hrl := Decidable.of_not_not n_hrl
 rw [bill_ratesFault_eq _ hrl, Option.bind_some]
 dsimp only
 by_cases n_c4 : ¬(ratesF v.2.2.2.2.2.2.1 = 0)
 ·rw [show (ratesF v.2.2.2.2.2.2.1 != 0) = true by simpa using n_c4, cond_true, if_pos n_c4]
 have c4 := Decidable.of_not_not n_c4
 obtain ⟨_, _, hs, _⟩ := ratesF_zero c4
 rw [c4, show ((0 : Int) != 0) = false from rfl, cond_false, if_neg (by simp), len_beq]
 by_cases c5 : v.2.2.2.2.2.2.2.1.length = 0
 ·rw [decide_eq_true c5, cond_true, if_pos c5]
 rw [decide_eq_false c5, cond_false, if_neg c5]
 by_cases c6 : 500 < v.2.2.2.2.2.2.2.1.length
 ·rw [bif_pos (by omega), if_pos c6]
 rw [bif_neg (by omega), if_neg c6]
 unfold linesF
 rw [iter_scan0 (f := bill_CheckInvoice_b15) (fun i => (((v.2.2.2.2.2.2.2.1.length : Int)), (i : Int), v.1, v.2.1, v.2.2.1, v.2.2.2.1, v.2.2.2.2.1, v.2.2.2.2.2.1, v.2.2.2.2.2.2.1, v.2.2.2.2.2.2.2.1, v.2.2.2.2.2.2.2.2, ()) ) v.2.2.2.2.2.2.2.1 (lineF v.2.2.2.1 v.2.2.2.2.2.2.1 v.2.2.2.2.2.2.2.1) (v.1, v.2.1, v.2.2.1, v.2.2.2.1, v.2.2.2.2.1, v.2.2.2.2.2.1, v.2.2.2.2.2.2.1, v.2.2.2.2.2.2.2.1, v.2.2.2.2.2.2.2.2, ()) ?_ ?_ ?_ _ ?_]
 ·refine scanJ2 _ _ _ _ ?_
  show Option.bind (bill_extrasFault v v.2.2.2.2.2.2.2.2 false) _ = _
  rw [bill_extrasFault_eq v _ false hrl hs, Option.bind_some]
 ·rfl
 ·intro i y again hy
  have hi := (List.getElem?_eq_some_iff.1 hy).1
  unfold bill_CheckInvoice_b15
  show (bif decide ((i : Int) < (v.2.2.2.2.2.2.2.1.length : Int)) then Option.bind (bill_lineFault v (i : Int)) _ else _) = _
  rw [bif_pos (by omega), bill_lineFault_eq v i y hrl hs (by omega) hy, Option.bind_some]
  dsimp only
  rw [w64_id (n := (i : Int) + 1) (by omega) (by omega)]
  by_cases hz : lineF v.2.2.2.1 v.2.2.2.2.2.2.1 v.2.2.2.2.2.2.2.1 i y = 0
  ·rw [hz]; rfl
  ·rw [show (lineF v.2.2.2.1 v.2.2.2.2.2.2.1 v.2.2.2.2.2.2.2.1 i y != 0) = true by simpa using hz, cond_true, if_neg hz]
 ·intro again
  unfold bill_CheckInvoice_b15
  dsimp only
  rw [bif_neg (by omega)]
 ·omega

end Go.Md

namespace Go.Md
open Go.Dn

structure ExtOk (pl : Int) (x : D_api_Extra) : Prop where
 dec : DecOk x.2.1
 place : x.1 = false → x.2.1.2 ≤ pl
 nz : x.2.1.1 ≠ 0
theorem extsF_zero {pl : Int} {rates : List D_api_Rate} {line : Bool} {l : List D_api_Extra} (h : extsF pl rates line l = 0) : l.length ≤ 20 ∧ ∀ x ∈ l, ExtOk pl x ∧ (line = true → x.2.2 = []) ∧ (x.2.2 = [] ∨ (ixOf (·.1) x.2.2 rates).isSome = true) := by
 unfold extsF at h
 split at h
 ·omega
 ·refine ⟨by omega, fun x hx => ?_⟩
  obtain ⟨i, hi⟩ := List.mem_iff_getElem?.1 hx
  have := scanF_zero h i x hi
  unfold extF at this
  by_cases hd : DecOk x.2.1
  ·rw [if_pos hd] at this
   by_cases h0 : x.2.1.1 = 0
   ·rw [if_pos h0] at this; omega
   ·rw [if_neg h0] at this
    by_cases hr : (if x.1 = true then inR x.2.1 (-100) 100 9 else inR x.2.1 (-1000000000) 1000000000 pl) = true
    ·rw [if_pos hr] at this
     refine ⟨⟨hd, fun hp => ?_, h0⟩, fun hline => ?_, ?_⟩
     ·rw [hp] at hr
      simp only [Bool.false_eq_true, if_false, inR, decide_eq_true_eq] at hr
      exact hr.2.1
     ·rw [hline] at this
      by_cases hn : x.2.2 = []
      ·exact hn
      ·rw [if_neg hn] at this; simp at this
     ·by_cases hn : x.2.2 = []
      ·exact .inl hn
      ·rw [if_neg hn] at this
       right
       cases hx2 : (ixOf (fun x : D_api_Rate => x.1) x.2.2 rates).isSome with
       | true => rfl
       | false => rw [hx2] at this; cases line <;> simp at this
    ·rw [if_neg hr] at this; omega
  ·rw [if_neg hd] at this; omega

structure LineOk (pl : Int) (rates : List D_api_Rate) (x : D_api_BillLine) : Prop where
 q : DecOk x.2.2.2.1
 qp : x.2.2.2.1.2 ≤ 3
 qn : x.2.2.2.1.1 ≠ 0
 p : DecOk x.2.2.2.2.2.1
 pp : x.2.2.2.2.2.1.2 ≤ 4
 p0 : 0 ≤ x.2.2.2.2.2.1.1
 per : 1 ≤ x.2.2.2.2.2.2.1 ∧ x.2.2.2.2.2.2.1 ≤ 100000
 ext : extsF pl rates true x.2.2.2.2.2.2.2.1 = 0
 rate : (ixOf (·.1) x.2.2.2.2.2.2.2.2 rates).isSome = true
theorem lineF_zero {pl : Int} {rates : List D_api_Rate} {lines : List D_api_BillLine} {i : Nat} {x : D_api_BillLine} (h : lineF pl rates lines i x = 0) : LineOk pl rates x := by
 unfold lineF at h
 split at h
 ·omega
 split at h
 ·omega
 split at h
 ·omega
 split at h
 ·omega
 split at h
 ·omega
 rename_i h1
 split at h
 ·omega
 rename_i h2
 split at h
 ·omega
 split at h
 ·omega
 rename_i h3
 split at h
 ·omega
 rename_i h4
 split at h
 ·omega
 rename_i h5
 split at h
 ·rename_i h6
  have h1' : inR x.2.2.2.1 (-1000000000) 1000000000 3 = true := by simpa using h1
  have h3' : inR x.2.2.2.2.2.1 0 1000000000 4 = true := by simpa using h3
  unfold inR at h1' h3'
  rw [decide_eq_true_eq] at h1' h3'
  exact ⟨h1'.1, h1'.2.1, h2, h3'.1, h3'.2.1, by have := h3'.2.2.1; rw [Int.zero_mul] at this; exact this, by omega, by omega, h6⟩
 ·omega

structure InvOk (v : D_api_Invoice) : Prop where
 pl : 0 ≤ v.2.2.2.1 ∧ v.2.2.2.1 ≤ 4
 way : 1 ≤ v.2.2.2.2.1 ∧ v.2.2.2.2.1 ≤ 6
 rn : 0 < v.2.2.2.2.2.2.1.length ∧ v.2.2.2.2.2.2.1.length ≤ 20
 asc : Asc (·.1) v.2.2.2.2.2.2.1
 rates : ∀ r ∈ v.2.2.2.2.2.2.1, inR r.2 0 100 9 = true
 ln : 0 < v.2.2.2.2.2.2.2.1.length ∧ v.2.2.2.2.2.2.2.1.length ≤ 500
 lines : ∀ x ∈ v.2.2.2.2.2.2.2.1, LineOk v.2.2.2.1 v.2.2.2.2.2.2.1 x
 ext : extsF v.2.2.2.1 v.2.2.2.2.2.2.1 false v.2.2.2.2.2.2.2.2 = 0
theorem invF_zero {v : D_api_Invoice} (h : invF v = 0) : InvOk v := by
 unfold invF at h
 split at h
 ·omega
 split at h
 ·omega
 split at h
 ·omega
 split at h
 ·omega
 split at h
 ·omega
 split at h
 ·omega
 rename_i h1
 split at h
 ·omega
 split at h
 ·omega
 split at h
 ·omega
 rename_i h2
 have hr := ratesF_zero (show ratesF v.2.2.2.2.2.2.1 = 0 by omega)
 refine ⟨by omega, by omega, ⟨hr.1, hr.2.1⟩, hr.2.2.1, hr.2.2.2, by omega, fun x hx => ?_, h⟩
 obtain ⟨i, hi⟩ := List.mem_iff_getElem?.1 hx
 have := scanF_zero (show linesF v = 0 by omega) i x hi
 exact lineF_zero this

end Go.Md

namespace Go.Md
open Go.Dn

abbrev MU : Int := 1000000000000000
def grossZ (v : D_api_Invoice) (x : D_api_BillLine) : Int :=
 rnd v.2.2.2.2.1 (x.2.2.2.1.1 * x.2.2.2.2.2.1.1 * 10 ^ v.2.2.2.1.toNat) (10 ^ (x.2.2.2.1.2 + x.2.2.2.2.2.1.2).toNat * x.2.2.2.2.2.2.1.toNat)
theorem Le.dec {d : D_api_Decimal} (h : DecOk d) : Le 15 d.1 := by
 have := h.1
 unfold Le; omega
theorem Le.i1 {n : Int} (h1 : -9223372036854775808 ≤ n) (h2 : n ≤ 9223372036854775807) : n.natAbs < 4294967296 ^ 99 := (Le.int h1 h2).w (by omega)
theorem natpow (k : Nat) : ((10 ^ k : Nat) : Int) = 10 ^ k := by simp

theorem gross_Le {v : D_api_Invoice} {x : D_api_BillLine} (hv : InvOk v) (hx : LineOk v.2.2.2.1 v.2.2.2.2.2.2.1 x) : Le 34 (x.2.2.2.1.1 * x.2.2.2.2.2.1.1 * 10 ^ v.2.2.2.1.toNat) :=
 ((Le.dec hx.q).mul (Le.dec hx.p)).mul ((Le.pow v.2.2.2.1.toNat).mono (by have := hv.pl; omega : _ ≤ 4))
theorem gross_den {v : D_api_Invoice} {x : D_api_BillLine} (hx : LineOk v.2.2.2.1 v.2.2.2.2.2.2.1 x) : 0 < 10 ^ (x.2.2.2.1.2 + x.2.2.2.2.2.1.2).toNat * x.2.2.2.2.2.2.1.toNat ∧ Le 12 ((10 ^ (x.2.2.2.1.2 + x.2.2.2.2.2.1.2).toNat * x.2.2.2.2.2.2.1.toNat : Nat) : Int) := by
 have h1 := hx.qp; have h2 := hx.pp; have h3 := hx.per
 refine ⟨Nat.mul_pos (Nat.pow_pos (by omega)) (by omega), ?_⟩
 have : Le (7 + 5) (((10 ^ (x.2.2.2.1.2 + x.2.2.2.2.2.1.2).toNat : Nat) : Int) * ((x.2.2.2.2.2.2.1.toNat : Nat) : Int)) := Le.mul (by rw [natpow]; exact (Le.pow _).mono (by omega)) (Le.nat (by omega))
 rw [← Int.natCast_mul] at this
 exact this

theorem whole_Power_eq' {n : Int} (h0 : 0 ≤ n) (h1 : n ≤ 60) : whole_Power n = some (W (10 ^ n.toNat), ()) := by
 obtain ⟨m, rfl⟩ : ∃ m : Nat, n = m := ⟨n.toNat, by omega⟩
 exact whole_Power_eq m (by omega)
theorem bill_fits_eq (z : Int) : bill_fits (W z) = some (decide (z.natAbs ≤ MU), ()) := by
 unfold bill_fits
 rw [whole_Int_Int_eq z _ (by omega) (by omega), Option.bind_some]
 by_cases h : (z.natAbs : Int) ≤ 1000000000000000
 ·rw [if_pos h, decide_eq_true h]
 ·rw [if_neg h, decide_eq_false h]

theorem bill_gross_eq {v : D_api_Invoice} {x : D_api_BillLine} (hv : InvOk v) (hx : LineOk v.2.2.2.1 v.2.2.2.2.2.2.1 x) : bill_gross v x = some (W (grossZ v x), decide ((grossZ v x).natAbs ≤ MU), ()) := by
 have hq := hx.q.1; have hp := hx.p.1; have hper := hx.per; have hpl := hv.pl; have h1 := hx.qp; have h2 := hx.pp; have h3 := hx.q.2.1; have h4 := hx.p.2.1
 have hL := gross_Le hv hx
 have hD := gross_den hx
 unfold bill_gross
 rw [whole_Of_eq _ (by omega) (by omega), Option.bind_some, whole_Of_eq _ (by omega) (by omega), Option.bind_some]
 dsimp only
 rw [whole_Int_Times_eq _ _ ((Le.dec hx.q).w (by omega)) ((Le.dec hx.p).w (by omega)), Option.bind_some, whole_Power_eq' (by omega) (by omega), Option.bind_some]
 dsimp only
 rw [whole_Int_Times_eq _ _ (((Le.dec hx.q).mul (Le.dec hx.p)).w (by omega)) ((Le.pow _).w (by omega)), Option.bind_some, w64_id (by omega) (by omega), whole_Power_eq' (by omega) (by omega), Option.bind_some, whole_Of_eq _ (by omega) (by omega), Option.bind_some]
 dsimp only
 rw [whole_Int_Times_eq _ _ ((Le.pow _).w (by omega)) (Le.i1 (by omega) (by omega)), Option.bind_some]
 have e : (10 : Int) ^ (x.2.2.2.1.2 + x.2.2.2.2.2.1.2).toNat * x.2.2.2.2.2.2.1 = ((10 ^ (x.2.2.2.1.2 + x.2.2.2.2.2.1.2).toNat * x.2.2.2.2.2.2.1.toNat : Nat) : Int) := by
  rw [Int.natCast_mul, natpow, Int.toNat_of_nonneg (by omega)]
 dsimp only
 rw [e, amount_Divided_eq _ _ _ hD.1 (hL.mono (by omega)) (hD.2.mono (by omega)), Option.bind_some]
 dsimp only
 rw [bill_fits_eq, Option.bind_some]
 rfl

def partZ (way n : Int) (d : D_api_Decimal) : Int := rnd way (n * d.1) (100 * 10 ^ d.2.toNat)
theorem part_den (d : D_api_Decimal) (h : DecOk d) : 0 < 100 * 10 ^ d.2.toNat ∧ Le 11 ((100 * 10 ^ d.2.toNat : Nat) : Int) := by
 refine ⟨Nat.mul_pos (by omega) (Nat.pow_pos (by omega)), ?_⟩
 have := h.2.2
 have h2 : Le (2 + 9) ((100 : Int) * ((10 ^ d.2.toNat : Nat) : Int)) := Le.mul (by unfold Le; decide) (by rw [natpow]; exact (Le.pow _).mono (by omega))
 rw [show (100 : Int) = ((100 : Nat) : Int) from rfl, ← Int.natCast_mul] at h2
 exact h2
theorem part_Le {way n : Int} {d : D_api_Decimal} {k : Nat} (hn : Le k n) (hd : DecOk d) : Le (k + 16) (partZ way n d) := rnd_Le (k := k + 15) (hn.mul (Le.dec hd))
theorem bill_part_eq (v : D_api_Invoice) (n : Int) (d : D_api_Decimal) (hd : DecOk d) (hn : Le 300 n) : bill_part v (W n) d = some (W (partZ v.2.2.2.2.1 n d), ()) := by
 have h1 := hd.1; have h2 := hd.2
 have hD := part_den d hd
 unfold bill_part
 rw [whole_Of_eq _ (by omega) (by omega), Option.bind_some]
 dsimp only
 rw [whole_Int_Times_eq _ _ (hn.w (by omega)) ((Le.dec hd).w (by omega)), Option.bind_some, whole_Of_eq 100 (by omega) (by omega), Option.bind_some, whole_Power_eq' (by omega) (by omega), Option.bind_some]
 dsimp only
 rw [whole_Int_Times_eq _ _ (Le.i1 (by omega) (by omega)) ((Le.pow _).w (by omega)), Option.bind_some]
 dsimp only
 have e : (100 : Int) * 10 ^ d.2.toNat = ((100 * 10 ^ d.2.toNat : Nat) : Int) := by rw [Int.natCast_mul, natpow]; rfl
 rw [e, amount_Divided_eq _ _ _ hD.1 ((hn.mul (Le.dec hd)).mono (by omega)) (hD.2.mono (by omega)), Option.bind_some]
 rfl
def amtZ (way pl g : Int) (x : D_api_Extra) : Int := if x.1 = true then partZ way g x.2.1 else x.2.1.1 * 10 ^ (pl - x.2.1.2).toNat

end Go.Md

namespace Go.Md
open Go.Dn

def netF (am : D_api_Extra → Int) : List D_api_Extra → Int → Option Int
 | [], n => some n
 | x :: r, n => if (am x).natAbs ≤ MU ∧ (n + am x).natAbs ≤ MU then netF am r (n + am x) else none
def sumZ (am : D_api_Extra → Int) (l : List D_api_Extra) : Int := (l.map am).sum
theorem netF_some {am : D_api_Extra → Int} : ∀ {l : List D_api_Extra} {n m : Int}, netF am l n = some m → m = n + sumZ am l
 | [], n, m, h => by simp only [netF, Option.some.injEq] at h; simp [sumZ, h]
 | x :: r, n, m, h => by
  simp only [netF] at h
  split at h
  ·have := netF_some h
   simp only [sumZ, List.map_cons, List.sum_cons] at this ⊢
   omega
  ·cases h
theorem netF_bound {am : D_api_Extra → Int} : ∀ {l : List D_api_Extra} {n m : Int}, n.natAbs ≤ MU → netF am l n = some m → m.natAbs ≤ MU
 | [], n, m, hn, h => by simp only [netF, Option.some.injEq] at h; subst h; exact hn
 | x :: r, n, m, hn, h => by
  simp only [netF] at h
  split at h
  ·rename_i hc; exact netF_bound hc.2 h
  ·cases h

def netZ (v : D_api_Invoice) (x : D_api_BillLine) : Option Int :=
 if (grossZ v x).natAbs ≤ MU then netF (amtZ v.2.2.2.2.1 v.2.2.2.1 (grossZ v x)) x.2.2.2.2.2.2.2.1 (grossZ v x) else none
def netS (v : D_api_Invoice) (x : D_api_BillLine) : Int := grossZ v x + sumZ (amtZ v.2.2.2.2.1 v.2.2.2.1 (grossZ v x)) x.2.2.2.2.2.2.2.1
theorem netZ_some {v : D_api_Invoice} {x : D_api_BillLine} {m : Int} (h : netZ v x = some m) : m = netS v x ∧ m.natAbs ≤ MU := by
 unfold netZ at h
 split at h
 ·rename_i hc; exact ⟨netF_some h, netF_bound hc h⟩
 ·cases h

theorem amt_Le {way pl g : Int} {x : D_api_Extra} {k : Nat} (hk : 8 ≤ k) (hpl : 0 ≤ pl ∧ pl ≤ 4) (hx : ExtOk pl x) (hg : Le k g) : Le (k + 16) (amtZ way pl g x) := by
 unfold amtZ
 split
 ·exact part_Le hg hx.dec
 ·have := hx.dec.2
  exact ((Le.dec hx.dec).mul (Le.pow _)).mono (by omega)

theorem bill_net_eq {v : D_api_Invoice} {x : D_api_BillLine} (hv : InvOk v) (hx : LineOk v.2.2.2.1 v.2.2.2.2.2.2.1 x) : bill_net v x = some (W (netS v x), (netZ v x).isSome, ()) := by
 have hpl := hv.pl
 obtain ⟨hl, hex⟩ := extsF_zero hx.ext
 have hG : Le 35 (grossZ v x) := rnd_Le (gross_Le hv hx)
 unfold bill_net
 rw [bill_gross_eq hv hx, Option.bind_some]
 dsimp only
 unfold netZ netS
 generalize x.2.2.2.2.2.2.2.1 = l at *
 generalize grossZ v x = g at *
 obtain ⟨a, b, c, d, e, f, rt, ln, k⟩ := v
 dsimp only at *
 have key : ∀ f', l.length < f' → iter f' ((decide (g.natAbs ≤ MU), l, (l.length : Int), (0 : Int), a, b, c, d, e, f, rt, ln, k, false, ([] : List Int), (W g).1, (W g).2, (W g).1, (W g).2, ()) : bill_net_x4) bill_net_b4 =
   some (Sum.inr (decide (g.natAbs ≤ MU) && (netF (amtZ e d g) l g).isSome, false, [], (W (g + sumZ (amtZ e d g) l)).1, (W (g + sumZ (amtZ e d g) l)).2, ())) := by
  intro f' hf
  refine iter_post (Inv := fun i X => ∃ (ok : Bool) (n : Int), X = ((ok, l, (l.length : Int), (i : Int), a, b, c, d, e, f, rt, ln, k, false, ([] : List Int), (W g).1, (W g).2, (W n).1, (W n).2, ()) : bill_net_x4) ∧ (ok && (netF (amtZ e d g) (l.drop i) n).isSome) = (decide (g.natAbs ≤ MU) && (netF (amtZ e d g) l g).isSome) ∧ n + sumZ (amtZ e d g) (l.drop i) = g + sumZ (amtZ e d g) l ∧ Le (52 + i) n) l.length
   (fun r => r = some (Sum.inr (decide (g.natAbs ≤ MU) && (netF (amtZ e d g) l g).isSome, false, [], (W (g + sumZ (amtZ e d g) l)).1, (W (g + sumZ (amtZ e d g) l)).2, ()))) ?_ ?_ f' 0 _ ⟨_, g, rfl, by simp, by simp, hG.mono (by omega)⟩ (by omega) (by omega)
  ·rintro i _ again hi ⟨ok, n, rfl, h1, h2, h3⟩ ih
   unfold bill_net_b4
   dsimp only
   have hy : l[i]? = some l[i] := getElem?_of hi
   have hym : l[i] ∈ l := List.getElem_mem hi
   have hcons := drop_get_cons hy
   generalize l[i] = y at hy hcons hym
   obtain ⟨hyo, _, _⟩ := hex y hym
   have hd1 := hyo.dec.1; have hd2 := hyo.dec.2
   rw [hcons] at h1 h2
   have hA := amt_Le (way := e) (by omega) hpl hyo hG
   have hmx : (if y.2.1.2 > d then y.2.1.2 else d) = max d y.2.1.2 := by omega
   rw [bif_pos (by omega), idx_nat, hy, Option.bind_some, hmx, amount_Scaled_eq _ _ (by omega) (by omega) (by omega) (by omega) (by omega), Option.bind_some]
   dsimp only
   have hjoin : ∀ K, joinB (β := ((D_whole_Int × Bool × Unit) ⊕ (Bool × Bool × (List Int) × Bool × (List Int) × Unit))) (bif y.1 then Option.bind (bill_part (a, b, c, d, e, f, rt, ln, k) ((W g).1, (W g).2) y.2.1) fun r4 => some (Sum.inr (ok, l, (l.length : Int), (i : Int), a, b, c, d, e, f, rt, ln, k, false, ([] : List Int), (W g).1, (W g).2, (W n).1, (W n).2, r4.1.1, r4.1.2, ())) else some (Sum.inr (ok, l, (l.length : Int), (i : Int), a, b, c, d, e, f, rt, ln, k, false, ([] : List Int), (W g).1, (W g).2, (W n).1, (W n).2, (W (y.2.1.1 * 10 ^ (max d y.2.1.2 - y.2.1.2).toNat)).1, (W (y.2.1.1 * 10 ^ (max d y.2.1.2 - y.2.1.2).toNat)).2, ()))) K =
     K (ok, l, (l.length : Int), (i : Int), a, b, c, d, e, f, rt, ln, k, false, ([] : List Int), (W g).1, (W g).2, (W n).1, (W n).2, (W (amtZ e d g y)).1, (W (amtZ e d g y)).2, ()) := by
    intro K
    unfold amtZ
    cases hp : y.1 with
    | true =>
     rw [cond_true, show ((W g).1, (W g).2) = W g from rfl, bill_part_eq _ g _ hyo.dec (hG.mono (by omega)), Option.bind_some, joinB_inr]
     simp only [if_true]
    | false =>
     have := hyo.place hp
     rw [cond_false, joinB_inr, show max d y.2.1.2 = d by omega]
     simp only [Bool.false_eq_true, if_false]
   rw [hjoin]
   dsimp only
   generalize hzd : amtZ e d g y = z at *
   have hz : Le (52 + i) z := hA.mono (by omega)
   rw [show ((W n).1, (W n).2) = W n from rfl, show ((W z).1, (W z).2) = W z from rfl, whole_Int_Plus_eq _ _ (h3.w (by omega)) (hz.w (by omega)), Option.bind_some]
   dsimp only
   rw [bill_fits_eq, bill_fits_eq, Option.bind_some, Option.bind_some, w64_id (by omega) (by omega)]
   have hs : n + z + sumZ (amtZ e d g) (l.drop (i + 1)) = g + sumZ (amtZ e d g) l := by
    rw [← h2]
    simp only [sumZ, List.map_cons, List.sum_cons, hzd]
    omega
   have hn : netF (amtZ e d g) (y :: l.drop (i + 1)) n = if z.natAbs ≤ MU ∧ (n + z).natAbs ≤ MU then netF (amtZ e d g) (l.drop (i + 1)) (n + z) else none := by simp only [netF, hzd]
   rw [hn] at h1
   cases ok with
   | false =>
    rw [cond_false]
    exact ih _ ⟨false, n + z, rfl, by simpa using h1, hs, h3.add hz⟩
   | true =>
    rw [cond_true]
    by_cases f1 : (z.natAbs : Int) ≤ MU
    ·rw [decide_eq_true f1, cond_true]
     refine ih _ ⟨_, n + z, rfl, ?_, hs, h3.add hz⟩
     by_cases f2 : ((n + z).natAbs : Int) ≤ MU
     ·rw [decide_eq_true f2, ← h1, if_pos ⟨f1, f2⟩]
     ·rw [decide_eq_false f2, ← h1, if_neg (fun h => f2 h.2)]; rfl
    ·rw [decide_eq_false f1, cond_false]
     refine ih _ ⟨false, n + z, rfl, ?_, hs, h3.add hz⟩
     rw [← h1, if_neg (fun h => f1 h.1)]; rfl
  ·rintro _ again ⟨ok, n, rfl, h1, h2, h3⟩
   unfold bill_net_b4
   dsimp only
   rw [bif_neg (by omega)]
   rw [List.drop_length] at h1 h2
   simp only [netF, Option.isSome_some, Bool.and_true, sumZ, List.map_nil, List.sum_nil, Int.add_zero] at h1 h2
   rw [h1, h2]
   rfl
 rw [key _ (by omega), joinB_inr]
 dsimp only
 congr 3
 by_cases hg : (g.natAbs : Int) ≤ MU
 ·rw [decide_eq_true hg, if_pos hg, Bool.true_and]
 ·rw [decide_eq_false hg, if_neg hg]; rfl

theorem l11_awake_k : l11_awake = some (true, ()) := by kernel_rfl

end Go.Md
