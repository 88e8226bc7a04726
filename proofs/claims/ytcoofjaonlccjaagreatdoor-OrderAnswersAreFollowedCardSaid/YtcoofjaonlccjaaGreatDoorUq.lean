/-
 Plain facts, small ones. No condition.
-/
import Derived.Test.YtcoofjaonlccjaaGreatDoorUp
import Derived.Test.YtcoofjaonlccjaaGreatDoorUm
set_option linter.all false
namespace Go.Md
open Go.Dn

structure SamE {α : Type} (k : α → Int) (l l' : List α) : Prop where
 perm : l.Perm l'
 keys : ∀ v, l'.filter (fun x => k x == v) = l.filter (fun x => k x == v)
theorem SamE.refl {α : Type} (k : α → Int) (l : List α) : SamE k l l := ⟨List.Perm.refl _, fun _ => rfl⟩
theorem SamE.trans {α : Type} {k : α → Int} {a b c : List α} (h : SamE k a b) (g : SamE k b c) : SamE k a c := ⟨h.perm.trans g.perm, fun v => (g.keys v).trans (h.keys v)⟩
theorem SamE.append {α : Type} {k : α → Int} {a b c d : List α} (h : SamE k a b) (g : SamE k c d) : SamE k (a ++ c) (b ++ d) :=
 ⟨h.perm.append g.perm, fun v => by rw [List.filter_append, List.filter_append, h.keys, g.keys]⟩
theorem SamE.mem {α : Type} {k : α → Int} {a b : List α} (h : SamE k a b) {x : α} : x ∈ b ↔ x ∈ a := h.perm.mem_iff.symm
theorem SamE.length {α : Type} {k : α → Int} {a b : List α} (h : SamE k a b) : b.length = a.length := h.perm.length_eq.symm
def Srt {α : Type} (k : α → Int) (l : List α) : Prop := l.Pairwise fun x y => k x ≤ k y
theorem Srt.append {α : Type} {k : α → Int} {a b : List α} (ha : Srt k a) (hb : Srt k b) (h : ∀ x ∈ a, ∀ y ∈ b, k x ≤ k y) : Srt k (a ++ b) := List.pairwise_append.2 ⟨ha, hb, h⟩
theorem Srt.left {α : Type} {k : α → Int} {a b : List α} (h : Srt k (a ++ b)) : Srt k a := (List.pairwise_append.1 h).1
theorem Srt.right {α : Type} {k : α → Int} {a b : List α} (h : Srt k (a ++ b)) : Srt k b := (List.pairwise_append.1 h).2.1
section
variable {k : Option Nat → Int} {ar : List D_bill_debt} {ok : Option Nat → Prop}

end

end Go.Md

namespace Go.Md
open Go.Dn

section
variable {k : Option Nat → Int} {ar : List D_bill_debt} {ok : Option Nat → Prop}

end

end Go.Md

namespace Go.Md
open Go.Dn

theorem Srt.get {α : Type} {k : α → Int} {l : List α} (h : Srt k l) {i j : Nat} (hij : i ≤ j) (hj : j < l.length) : k (l[i]'(by omega)) ≤ k l[j] := by
 rcases Nat.lt_or_eq_of_le hij with h1 | h1
 ·exact List.pairwise_iff_getElem.1 h i j (by omega) hj h1
 ·subst h1; exact Int.le_refl _

section
variable {k : Option Nat → Int} {ar : List D_bill_debt} {ok : Option Nat → Prop}

end

end Go.Md

namespace Go.Md
open Go.Dn

section
variable {k : Option Nat → Int} {ar : List D_bill_debt} {ok : Option Nat → Prop}

end

end Go.Md

namespace Go.Md
open Go.Dn

def ChS {α : Type} (k : α → Int) (bs : Nat) (l : List α) : Prop := ∀ j : Nat, Srt k ((l.drop (j * bs)).take bs)
theorem ChS.nil {α : Type} (k : α → Int) (bs : Nat) : ChS k bs [] := fun _ => by simp [Srt]
theorem ChS.snoc {α : Type} {k : α → Int} {bs : Nat} {A S : List α} {j : Nat} (h : ChS k bs A) (hA : A.length = j * bs) (hS : Srt k S) (hl : S.length ≤ bs) : ChS k bs (A ++ S) := by
 intro i
 rcases Nat.lt_trichotomy i j with hij | hij | hij
 ·have h1 : (i + 1) * bs ≤ j * bs := Nat.mul_le_mul_right _ hij
  rw [Nat.add_mul, Nat.one_mul] at h1
  rw [List.drop_append_of_le_length (by omega), List.take_append_of_le_length (by rw [List.length_drop]; omega)]
  exact h i
 ·subst hij
  rw [← hA, List.drop_left, List.take_of_length_le hl]
  exact hS
 ·have h1 : (j + 1) * bs ≤ i * bs := Nat.mul_le_mul_right _ hij
  rw [Nat.add_mul, Nat.one_mul] at h1
  rw [List.drop_of_length_le (by rw [List.length_append]; omega)]
  simp [Srt]
theorem ChS.drop {α : Type} {k : α → Int} {bs : Nat} {l : List α} (h : ChS k bs l) (i : Nat) : ChS k bs (l.drop (i * bs)) := by
 intro j
 rw [List.drop_drop, ← Nat.add_mul]
 exact h (i + j)
theorem Srt.take {α : Type} {k : α → Int} {l : List α} (h : Srt k l) (n : Nat) : Srt k (l.take n) := by
 rw [← List.take_append_drop n l] at h; exact h.left

section
variable {k : Option Nat → Int} {ar : List D_bill_debt} {ok : Option Nat → Prop}

end

end Go.Md

namespace Go.Md
open Go.Dn

theorem kit_Outside_eq (a b c : Int) : kit_Outside a b c = some (decide (a < b ∨ c < a), ()) := by
 unfold kit_Outside
 by_cases h : a < b
 ·rw [bif_pos h]; simp [h]
 ·rw [bif_neg h]; simp [h]
theorem kit_IsDay_eq (n : Int) : kit_IsDay n = some (decide (1 ≤ n ∧ n ≤ 3652059), ()) := by
 unfold kit_IsDay
 rw [kit_Outside_eq, Option.bind_some]
 congr 2
 simp only [← decide_not]
 congr 1
 simp only [eq_iff_iff]; omega
def isNm (s : List UInt8) : Bool := ((kit_IsName s).map (·.1)).getD false
theorem kit_IsName_eq (s : List UInt8) : kit_IsName s = some (isNm s, ()) := by
 have : ∃ b, kit_IsName s = some (b, ()) := by
  unfold kit_IsName
  by_cases h1 : (s.length : Int) < 1
  ·rw [bif_pos h1]; exact ⟨_, rfl⟩
  ·rw [bif_neg h1]
   by_cases h2 : (s.length : Int) > 40
   ·rw [bif_pos h2]; exact ⟨_, rfl⟩
   ·rw [bif_neg h2]
    have hs : sidx s 0 = some (s[0]'(by omega)) := by simp [sidx]
    rw [hs]
    simp only [Option.bind_some]
    have ht : strings_Trim s [97, 98, 99, 100, 101, 102, 103, 104, 105, 106, 107, 108, 109, 110, 111, 112, 113, 114, 115, 116, 117, 118, 119, 120, 121, 122, 48, 49, 50, 51, 52, 53, 54, 55, 56, 57, 45] = some (Lib.trimS s [97, 98, 99, 100, 101, 102, 103, 104, 105, 106, 107, 108, 109, 110, 111, 112, 113, 114, 115, 116, 117, 118, 119, 120, 121, 122, 48, 49, 50, 51, 52, 53, 54, 55, 56, 57, 45], ()) := by
     unfold strings_Trim
     rw [show (decide (s.length ≤ 9223372036854775807)) = true by simp; omega]
     rfl
    rw [ht]
    simp only [Option.bind_some]
    generalize (decide ((((s[0]'(by omega)).toNat : Int)) < 97)) = b1
    generalize (decide ((((s[0]'(by omega)).toNat : Int)) > 122)) = b2
    cases b1 <;> cases b2 <;> exact ⟨_, rfl⟩
 obtain ⟨b, hb⟩ := this
 unfold isNm
 rw [hb]; rfl

theorem amount_CheckDecimal_eq (d : D_api_Decimal) : amount_CheckDecimal d = some (if -1000000000000000 ≤ d.1 ∧ d.1 ≤ 1000000000000000 ∧ 0 ≤ d.2 ∧ d.2 ≤ 9 then 0 else 1, ()) := by
 unfold amount_CheckDecimal
 rw [kit_Outside_eq, Option.bind_some, kit_Outside_eq]
 simp only [Option.bind_some]
 by_cases h1 : d.1 < -1000000000000000 ∨ 1000000000000000 < d.1
 ·rw [bif_pos h1, if_neg (by omega)]
 ·rw [bif_neg h1]
  by_cases h2 : d.2 < 0 ∨ 9 < d.2
  ·rw [bif_pos h2, if_neg (by omega)]
  ·rw [bif_neg h2, if_pos (by omega)]

theorem pow10_le {n : Nat} (h : n ≤ 18) : (10 : Int) ^ n ≤ 1000000000000000000 := by
 have := Nat.pow_le_pow_right (n := 10) (by omega) h
 have h2 := Int.ofNat_le.2 this
 simpa using h2
theorem pow10_pos (n : Nat) : (0 : Int) < 10 ^ n := pow_pos' (by omega) n
theorem bill_power_eq (n : Int) (h0 : 0 ≤ n) (h1 : n ≤ 18) : bill_power n = some (10 ^ n.toNat, ()) := by
 obtain ⟨m, rfl⟩ : ∃ m : Nat, n = m := ⟨n.toNat, by omega⟩
 unfold bill_power
 have : iter (X := bill_power_x3) (β := bill_power_r3) (Int.natAbs (1 : Int) + (Int.natAbs (m : Int) + (Int.natAbs (0 : Int) + 2))) (1, (m : Int), 0, ()) bill_power_b3 = some (Sum.inr (10 ^ m, ())) := by
  refine iter_post (Inv := fun i x => x = (10 ^ i, (m : Int), (i : Int), ())) m (fun r => r = some (Sum.inr (10 ^ m, ()))) ?_ ?_ _ 0 _ (by simp) (by omega) (by omega)
  ·rintro i _ again hi rfl ih
   unfold bill_power_b3
   dsimp only
   have h10 := pow10_le (n := i + 1) (by omega)
   have hp := pow10_pos (i + 1)
   rw [Int.pow_succ] at h10 hp
   rw [bif_pos (by omega), w64_id (by omega) (by omega), w64_id (by omega) (by omega)]
   exact ih _ (by rw [Int.pow_succ]; rfl)
  ·rintro _ again rfl
   unfold bill_power_b3
   dsimp only
   rw [bif_neg (by omega)]
 rw [this, joinB_inr]
 simp

def MonOk (d : D_api_Decimal) : Prop := 0 < d.1 ∧ 0 ≤ d.2 ∧ d.2 ≤ 4 ∧ d.1 ≤ 1000000000 * 10 ^ d.2.toNat
instance (d : D_api_Decimal) : Decidable (MonOk d) := by unfold MonOk; exact inferInstance
structure DebtOk (d : D_api_Debt) : Prop where
 day0 : 1 ≤ d.2.1
 day1 : d.2.1 ≤ 3652059
 mon : MonOk d.2.2.1
 days0 : 0 ≤ d.2.2.2.1
 days1 : d.2.2.2.1 ≤ 10000
 with0 : 0 ≤ d.2.2.2.2.1
 with1 : d.2.2.2.2.1 ≤ d.2.2.2.1
 disc0 : 0 ≤ d.2.2.2.2.2
 disc1 : d.2.2.2.2.2 ≤ 1000
structure PayOk (p : D_api_Payment) : Prop where
 day0 : 1 ≤ p.1
 day1 : p.1 ≤ 3652059
 mon : MonOk p.2.1
 names : p.2.2.length ≤ 100
end Go.Md

namespace Go.Md
open Go.Dn

def cents (d : D_api_Decimal) : Int := d.1 * 10 ^ (4 - d.2).toNat
theorem MonOk.cents {d : D_api_Decimal} (h : MonOk d) : 0 < cents d ∧ cents d ≤ 10000000000000 := by
 obtain ⟨h1, h2, h3, h4⟩ := h
 unfold Md.cents
 have hp := pow10_pos (4 - d.2).toNat
 refine ⟨Int.mul_pos h1 hp, ?_⟩
 have a1 : d.1 * 10 ^ (4 - d.2).toNat ≤ 1000000000 * 10 ^ d.2.toNat * 10 ^ (4 - d.2).toNat := Int.mul_le_mul_of_nonneg_right h4 (by omega)
 rw [Int.mul_assoc, ← Int.pow_add, show d.2.toNat + (4 - d.2).toNat = 4 by omega] at a1
 omega
abbrev Bd := D_bill_debt
def owes (x : Bd) : Int := x.2.1
def paid (x : Bd) : Int := x.2.2.1
def taken (x : Bd) : Int := x.2.2.2.1
def done (x : Bd) : Int := x.2.2.2.2
structure BdOk (x : Bd) : Prop where
 d : DebtOk x.1
 owes0 : 0 ≤ owes x
 paid0 : 0 ≤ paid x
 taken0 : 0 ≤ taken x
 sum : owes x + paid x + taken x = cents x.1.2.2.1
 none : done x = 0 → taken x = 0
 done0 : done x = 0 ∨ x.1.2.1 ≤ done x
 iff : owes x = 0 ↔ done x ≠ 0
theorem BdOk.le {x : Bd} (h : BdOk x) : owes x ≤ 10000000000000 ∧ paid x ≤ 10000000000000 ∧ taken x ≤ 10000000000000 := by
 have := h.d.mon.cents; have := h.sum; have := h.owes0; have := h.paid0; have := h.taken0; omega

section
variable {ar : List Bd} {h : Nat} {x : Bd}

theorem set_get {α : Type} {l : List α} {i : Nat} {x y : α} (h : l[i]? = some x) : (l.set i y)[i]? = some y := List.getElem?_set_self (List.getElem?_eq_some_iff.1 h).1

end

end Go.Md

namespace Go.Md
open Go.Dn

structure ArOk (ds : List D_api_Debt) (ar : List Bd) : Prop where
 ds : ar.map (·.1) = ds
 ok : ∀ x ∈ ar, BdOk x
theorem ArOk.len {ds : List D_api_Debt} {ar : List Bd} (h : ArOk ds ar) : ar.length = ds.length := by rw [← h.ds]; simp
theorem ArOk.set {ds : List D_api_Debt} {ar : List Bd} (h : ArOk ds ar) {i : Nat} {x y : Bd} (hx : ar[i]? = some x) (hy : BdOk y) (he : y.1 = x.1) : ArOk ds (ar.set i y) := by
 refine ⟨?_, fun z hz => ?_⟩
 ·rw [List.map_set, he, ← h.ds]
  apply List.ext_getElem?
  intro j
  by_cases hj : i = j
  ·subst hj
   rw [List.getElem?_set_self (by simp; exact (List.getElem?_eq_some_iff.1 hx).1), List.getElem?_map, hx]; rfl
  ·rw [List.getElem?_set_ne hj]
 ·rcases List.mem_or_eq_of_mem_set hz with hz | rfl
  ·exact h.ok z hz
  ·exact hy
theorem ArOk.get {ds : List D_api_Debt} {ar : List Bd} (h : ArOk ds ar) {i : Nat} {x : Bd} (hx : ar[i]? = some x) : BdOk x := h.ok x (List.mem_of_getElem? hx)

def sumPaid (ar : List Bd) : Int := (ar.map paid).sum
structure StOk (ds : List D_api_Debt) (L T : Int) (s : Int × List Bd) : Prop where
 ar : ArOk ds s.2
 l0 : 0 ≤ s.1
 l1 : s.1 ≤ L
 tot : s.1 + sumPaid s.2 = T

theorem mget_cons {k v : Ty} (p : k.den × v.den) (m : List (k.den × v.den)) (n : k.den) : mget (p :: m) n = bif k.beq n p.1 then some p.2 else mget m n := by
 unfold mget
 rw [List.find?_cons]
 cases k.beq n p.1 <;> rfl
end Go.Md

namespace Go.Md
open Go.Dn

def few : Nat → Int → Int × Nat
 | 0, z => (z, 0)
 | p + 1, z => if z % 10 = 0 then few p (z / 10) else (z, p + 1)
theorem few_val : ∀ (p : Nat) (z : Int), (few p z).2 ≤ p ∧ (few p z).1 * 10 ^ (p - (few p z).2) = z ∧ (few p z).1.natAbs ≤ z.natAbs
 | 0, z => by simp [few]
 | p + 1, z => by
  unfold few
  split
  ·rename_i h
   obtain ⟨h1, h2, h3⟩ := few_val p (z / 10)
   refine ⟨by omega, ?_, by omega⟩
   rw [show p + 1 - (few p (z / 10)).2 = (p - (few p (z / 10)).2) + 1 by omega, Int.pow_succ, ← Int.mul_assoc, h2]
   omega
  ·simp
theorem amount_Made_eq (z : Int) (p : Int) : amount_Made (W z) p = some (if z.natAbs ≤ 1000000000000000 then ((z, p), 0, ()) else ((0, 0), 1, ())) := by
 unfold amount_Made
 rw [whole_Int_Int_eq z 1000000000000000 (by omega) (by omega), Option.bind_some]
 by_cases h : (z.natAbs : Int) ≤ 1000000000000000
 ·rw [if_pos h, if_pos (by omega)]; rfl
 ·rw [if_neg h, if_neg (by omega)]; rfl

theorem amount_Fewest_eq (z : Int) (hz : z.natAbs < 4294967296 ^ 99) (p : Nat) (hp : p ≤ 1000) : amount_Fewest (W z) (p : Int) = some (if (few p z).1.natAbs ≤ 1000000000000000 then (((few p z).1, ((few p z).2 : Int)), 0, ()) else ((0, 0), 1, ())) := by
 unfold amount_Fewest
 rw [whole_Of_eq 10 (by omega) (by omega), Option.bind_some]
 dsimp only
 have loop : ∀ (n : Nat) (z : Int) (p : Nat), z.natAbs < 4294967296 ^ 99 → p ≤ 1000 → p < n → iter (X := amount_Fewest_x2) (β := amount_Fewest_r2) n ((p : Int), (W z).1, (W z).2, 0, 0, (W 10).1, (W 10).2, ()) amount_Fewest_b2 = some (Sum.inr (((few p z).2 : Int), (W (few p z).1).1, (W (few p z).1).2, 0, 0, ())) := by
  intro n
  induction n with
  | zero => intro z p _ _ h; omega
  | succ n ih =>
   intro z p hz hp hn
   rw [iter_succ]
   generalize hag : (fun y => iter n y amount_Fewest_b2) = again
   unfold amount_Fewest_b2
   dsimp only
   cases p with
   | zero => rw [bif_neg (by omega)]; rfl
   | succ p =>
    have e10 : (10 : Int).natAbs = 10 := rfl
    rw [bif_pos (by omega)]
    change (Option.bind (whole_Int_By (W z) (W 10)) _) = _
    rw [whole_Int_By_eq z 10 hz (by rw [e10]; exact Nat.lt_of_lt_of_le (by omega) (Nat.pow_le_pow_right (n := 4294967296) (by omega) (show 1 ≤ 99 by omega))) (by omega), Option.bind_some]
    dsimp only
    rw [whole_Int_Sign_eq, Option.bind_some]
    dsimp only
    rw [e10]
    by_cases hm : z % 10 = 0
    ·have hm2 : z.natAbs % 10 = 0 := by omega
     rw [hm2, show ((((0 : Nat) : Int).sign) != 0) = false from rfl, cond_false]
     change (Option.bind (whole_Int_Sign (W z)) _) = _
     rw [whole_Int_Sign_eq, Option.bind_some]
     dsimp only
     have hf : few (p + 1) z = few p (z / 10) := by simp [few, hm]
     rw [hf]
     have hz' : (z / 10).natAbs < 4294967296 ^ 99 := Nat.lt_of_le_of_lt (by omega) hz
     by_cases hneg : z < 0
     ·rw [bif_pos (by rw [Int.sign_eq_neg_one_of_neg hneg]; omega), whole_Int_Minus_eq _ (by simp only [Int.natAbs_natCast]; exact Nat.lt_of_le_of_lt (Nat.div_le_self _ _) hz), Option.bind_some]
      dsimp only
      rw [show -((z.natAbs / 10 : Nat) : Int) = z / 10 by omega, w64_id (by omega) (by omega), show ((p + 1 : Nat) : Int) - 1 = (p : Int) by omega, ← hag]
      exact ih (z / 10) p hz' (by omega) (by omega)
     ·rw [bif_neg (by
       rcases (show z = 0 ∨ 0 < z by omega) with h | h
       ·subst h; decide
       ·rw [Int.sign_eq_one_of_pos h]; omega), show ((z.natAbs / 10 : Nat) : Int) = z / 10 by omega, w64_id (by omega) (by omega), show ((p + 1 : Nat) : Int) - 1 = (p : Int) by omega, ← hag]
      exact ih (z / 10) p hz' (by omega) (by omega)
    ·have hm2 : 0 < z.natAbs % 10 := by omega
     have : (((z.natAbs % 10 : Nat) : Int).sign != 0) = true := by
      rw [Int.sign_eq_one_of_pos (by omega)]; rfl
     rw [this, cond_true]
     have hf : few (p + 1) z = (z, p + 1) := by simp [few, hm]
     rw [hf]
 have := loop (Int.natAbs (p : Int) + (List.length (W z).2 + (Int.natAbs (0 : Int) + (Int.natAbs (0 : Int) + (List.length (W 10).2 + 2))))) z p hz hp (by omega)
 rw [this, joinB_inr]
 dsimp only
 change (Option.bind (amount_Made (W (few p z).1) ((few p z).2 : Int)) _) = _
 rw [amount_Made_eq, Option.bind_some]

def DecOk (d : D_api_Decimal) : Prop := d.1.natAbs ≤ 1000000000000000 ∧ 0 ≤ d.2 ∧ d.2 ≤ 9
end Go.Md

namespace Go.Md
open Go.Dn

end Go.Md

namespace Go.Md
open Go.Dn

end Go.Md

namespace Go.Md
open Go.Dn

end Go.Md

namespace Go.Md
open Go.Dn

def LaterQ (D : Int) (S : Nat → Prop) (ar : List Bd) : Prop := ∀ i x, S i → ar[i]? = some x → done x = 0 ∨ D < done x
theorem LaterQ.set {D : Int} {S : Nat → Prop} {ar : List Bd} {h : Nat} {x y : Bd} (hq : LaterQ D S ar) (hx : ar[h]? = some x) (hy : (done x = 0 ∨ D < done x) → (done y = 0 ∨ D < done y)) : LaterQ D S (ar.set h y) := by
 intro i z hi hz
 by_cases e : h = i
 ·subst e
  rw [set_get hx] at hz
  cases hz
  exact hy (hq h x hi hx)
 ·rw [List.getElem?_set_ne e] at hz
  exact hq i z hi hz
end Go.Md

namespace Go.Md
open Go.Dn

theorem sidx_get {s : List UInt8} {i : Nat} {c : UInt8} (h : s[i]? = some c) : sidx s (i : Int) = some c := by simp [sidx, h]

instance (d : D_api_Decimal) : Decidable (DecOk d) := by unfold DecOk; infer_instance

end Go.Md
