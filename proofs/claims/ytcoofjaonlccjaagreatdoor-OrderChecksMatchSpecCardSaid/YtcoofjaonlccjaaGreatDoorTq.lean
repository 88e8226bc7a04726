/-
 Plain facts, small ones. No condition.
-/
import Derived.Test.YtcoofjaonlccjaaGreatDoorTp
import Derived.Test.YtcoofjaonlccjaaGreatDoorTm
set_option linter.all false
namespace Go.Md
open Go.Dn

structure SamE {α : Type} (k : α → Int) (l l' : List α) : Prop where
 perm : l.Perm l'
 keys : ∀ v, l'.filter (fun x => k x == v) = l.filter (fun x => k x == v)
theorem SamE.refl {α : Type} (k : α → Int) (l : List α) : SamE k l l := ⟨List.Perm.refl _, fun _ => rfl⟩
theorem SamE.trans {α : Type} {k : α → Int} {a b c : List α} (h : SamE k a b) (g : SamE k b c) : SamE k a c := ⟨h.perm.trans g.perm, fun v => (g.keys v).trans (h.keys v)⟩
theorem SamE.append {α : Type} {k : α → Int} {a b c d : List α} (h : SamE k a b) (g : SamE k c d) : SamE k (a ++ c) (b ++ d) :=
 ⟨h.perm.append g.perm, fun v => by rw [List.filter_append, List.filter_append, h.keys, g.keys]⟩
theorem SamE.mem {α : Type} {k : α → Int} {a b : List α} (h : SamE k a b) {x : α} : x ∈ b ↔ x ∈ a := h.perm.mem_iff.symm
theorem SamE.length {α : Type} {k : α → Int} {a b : List α} (h : SamE k a b) : b.length = a.length := h.perm.length_eq.symm
theorem SamE.swap {α : Type} {k : α → Int} {u v : List α} (h : ∀ x ∈ u, ∀ y ∈ v, k x ≠ k y) : SamE k (u ++ v) (v ++ u) := by
 refine ⟨List.perm_append_comm, fun w => ?_⟩
 rw [List.filter_append, List.filter_append]
 by_cases hu : ∃ x ∈ u, k x = w
 ·obtain ⟨x, hx, rfl⟩ := hu
  have : v.filter (fun y => k y == k x) = [] := by
   rw [List.filter_eq_nil_iff]
   intro y hy
   simpa using fun e => h x hx y hy e.symm
  rw [this]; simp
 ·have : u.filter (fun y => k y == w) = [] := by
   rw [List.filter_eq_nil_iff]
   intro y hy
   simpa using fun e => hu ⟨y, hy, e⟩
  rw [this]; simp

def Srt {α : Type} (k : α → Int) (l : List α) : Prop := l.Pairwise fun x y => k x ≤ k y
theorem Srt.append {α : Type} {k : α → Int} {a b : List α} (ha : Srt k a) (hb : Srt k b) (h : ∀ x ∈ a, ∀ y ∈ b, k x ≤ k y) : Srt k (a ++ b) := List.pairwise_append.2 ⟨ha, hb, h⟩
theorem Srt.left {α : Type} {k : α → Int} {a b : List α} (h : Srt k (a ++ b)) : Srt k a := (List.pairwise_append.1 h).1
theorem Srt.right {α : Type} {k : α → Int} {a b : List α} (h : Srt k (a ++ b)) : Srt k b := (List.pairwise_append.1 h).2.1
section
variable {k : Option Nat → Int} {ar : List D_bill_debt} {ok : Option Nat → Prop}

end

end Go.Md

namespace Go.Md
open Go.Dn

section
variable {k : Option Nat → Int} {ar : List D_bill_debt} {ok : Option Nat → Prop}

end

end Go.Md

namespace Go.Md
open Go.Dn

theorem Srt.get {α : Type} {k : α → Int} {l : List α} (h : Srt k l) {i j : Nat} (hij : i ≤ j) (hj : j < l.length) : k (l[i]'(by omega)) ≤ k l[j] := by
 rcases Nat.lt_or_eq_of_le hij with h1 | h1
 ·exact List.pairwise_iff_getElem.1 h i j (by omega) hj h1
 ·subst h1; exact Int.le_refl _

section
variable {k : Option Nat → Int} {ar : List D_bill_debt} {ok : Option Nat → Prop}

end

end Go.Md

namespace Go.Md
open Go.Dn

section
variable {k : Option Nat → Int} {ar : List D_bill_debt} {ok : Option Nat → Prop}

end

end Go.Md

namespace Go.Md
open Go.Dn

def ChS {α : Type} (k : α → Int) (bs : Nat) (l : List α) : Prop := ∀ j : Nat, Srt k ((l.drop (j * bs)).take bs)
theorem ChS.nil {α : Type} (k : α → Int) (bs : Nat) : ChS k bs [] := fun _ => by simp [Srt]
theorem ChS.snoc {α : Type} {k : α → Int} {bs : Nat} {A S : List α} {j : Nat} (h : ChS k bs A) (hA : A.length = j * bs) (hS : Srt k S) (hl : S.length ≤ bs) : ChS k bs (A ++ S) := by
 intro i
 rcases Nat.lt_trichotomy i j with hij | hij | hij
 ·have h1 : (i + 1) * bs ≤ j * bs := Nat.mul_le_mul_right _ hij
  rw [Nat.add_mul, Nat.one_mul] at h1
  rw [List.drop_append_of_le_length (by omega), List.take_append_of_le_length (by rw [List.length_drop]; omega)]
  exact h i
 ·subst hij
  rw [← hA, List.drop_left, List.take_of_length_le hl]
  exact hS
 ·have h1 : (j + 1) * bs ≤ i * bs := Nat.mul_le_mul_right _ hij
  rw [Nat.add_mul, Nat.one_mul] at h1
  rw [List.drop_of_length_le (by rw [List.length_append]; omega)]
  simp [Srt]
theorem ChS.drop {α : Type} {k : α → Int} {bs : Nat} {l : List α} (h : ChS k bs l) (i : Nat) : ChS k bs (l.drop (i * bs)) := by
 intro j
 rw [List.drop_drop, ← Nat.add_mul]
 exact h (i + j)
theorem Srt.take {α : Type} {k : α → Int} {l : List α} (h : Srt k l) (n : Nat) : Srt k (l.take n) := by
 rw [← List.take_append_drop n l] at h; exact h.left

section
variable {k : Option Nat → Int} {ar : List D_bill_debt} {ok : Option Nat → Prop}

end

end Go.Md

namespace Go.Md
open Go.Dn

def scanF {α : Type} (g : Nat → α → Int) : Nat → List α → Int
 | _, [] => 0
 | i, y :: r => if g i y = 0 then scanF g (i + 1) r else g i y
theorem kit_Outside_eq (a b c : Int) : kit_Outside a b c = some (decide (a < b ∨ c < a), ()) := by
 unfold kit_Outside
 by_cases h : a < b
 ·rw [bif_pos h]; simp [h]
 ·rw [bif_neg h]; simp [h]
theorem kit_IsDay_eq (n : Int) : kit_IsDay n = some (decide (1 ≤ n ∧ n ≤ 3652059), ()) := by
 unfold kit_IsDay
 rw [kit_Outside_eq, Option.bind_some]
 congr 2
 simp only [← decide_not]
 congr 1
 simp only [eq_iff_iff]; omega
def isNm (s : List UInt8) : Bool := ((kit_IsName s).map (·.1)).getD false
theorem kit_IsName_eq (s : List UInt8) : kit_IsName s = some (isNm s, ()) := by
 have : ∃ b, kit_IsName s = some (b, ()) := by
  unfold kit_IsName
  by_cases h1 : (s.length : Int) < 1
  ·rw [bif_pos h1]; exact ⟨_, rfl⟩
  ·rw [bif_neg h1]
   by_cases h2 : (s.length : Int) > 40
   ·rw [bif_pos h2]; exact ⟨_, rfl⟩
   ·rw [bif_neg h2]
    have hs : sidx s 0 = some (s[0]'(by omega)) := by simp [sidx]
    rw [hs]
    simp only [Option.bind_some]
    have ht : strings_Trim s [97, 98, 99, 100, 101, 102, 103, 104, 105, 106, 107, 108, 109, 110, 111, 112, 113, 114, 115, 116, 117, 118, 119, 120, 121, 122, 48, 49, 50, 51, 52, 53, 54, 55, 56, 57, 45] = some (Lib.trimS s [97, 98, 99, 100, 101, 102, 103, 104, 105, 106, 107, 108, 109, 110, 111, 112, 113, 114, 115, 116, 117, 118, 119, 120, 121, 122, 48, 49, 50, 51, 52, 53, 54, 55, 56, 57, 45], ()) := by
     unfold strings_Trim
     rw [show (decide (s.length ≤ 9223372036854775807)) = true by simp; omega]
     rfl
    rw [ht]
    simp only [Option.bind_some]
    generalize (decide ((((s[0]'(by omega)).toNat : Int)) < 97)) = b1
    generalize (decide ((((s[0]'(by omega)).toNat : Int)) > 122)) = b2
    cases b1 <;> cases b2 <;> exact ⟨_, rfl⟩
 obtain ⟨b, hb⟩ := this
 unfold isNm
 rw [hb]; rfl

theorem amount_CheckDecimal_eq (d : D_api_Decimal) : amount_CheckDecimal d = some (if -1000000000000000 ≤ d.1 ∧ d.1 ≤ 1000000000000000 ∧ 0 ≤ d.2 ∧ d.2 ≤ 9 then 0 else 1, ()) := by
 unfold amount_CheckDecimal
 rw [kit_Outside_eq, Option.bind_some, kit_Outside_eq]
 simp only [Option.bind_some]
 by_cases h1 : d.1 < -1000000000000000 ∨ 1000000000000000 < d.1
 ·rw [bif_pos h1, if_neg (by omega)]
 ·rw [bif_neg h1]
  by_cases h2 : d.2 < 0 ∨ 9 < d.2
  ·rw [bif_pos h2, if_neg (by omega)]
  ·rw [bif_neg h2, if_pos (by omega)]

theorem pow10_le {n : Nat} (h : n ≤ 18) : (10 : Int) ^ n ≤ 1000000000000000000 := by
 have := Nat.pow_le_pow_right (n := 10) (by omega) h
 have h2 := Int.ofNat_le.2 this
 simpa using h2
theorem pow10_pos (n : Nat) : (0 : Int) < 10 ^ n := pow_pos' (by omega) n
theorem bill_power_eq (n : Int) (h0 : 0 ≤ n) (h1 : n ≤ 18) : bill_power n = some (10 ^ n.toNat, ()) := by
 obtain ⟨m, rfl⟩ : ∃ m : Nat, n = m := ⟨n.toNat, by omega⟩
 unfold bill_power
 have : iter (X := bill_power_x3) (β := bill_power_r3) (Int.natAbs (1 : Int) + (Int.natAbs (m : Int) + (Int.natAbs (0 : Int) + 2))) (1, (m : Int), 0, ()) bill_power_b3 = some (Sum.inr (10 ^ m, ())) := by
  refine iter_post (Inv := fun i x => x = (10 ^ i, (m : Int), (i : Int), ())) m (fun r => r = some (Sum.inr (10 ^ m, ()))) ?_ ?_ _ 0 _ (by simp) (by omega) (by omega)
  ·rintro i _ again hi rfl ih
   unfold bill_power_b3
   dsimp only
   have h10 := pow10_le (n := i + 1) (by omega)
   have hp := pow10_pos (i + 1)
   rw [Int.pow_succ] at h10 hp
   rw [bif_pos (by omega), w64_id (by omega) (by omega), w64_id (by omega) (by omega)]
   exact ih _ (by rw [Int.pow_succ]; rfl)
  ·rintro _ again rfl
   unfold bill_power_b3
   dsimp only
   rw [bif_neg (by omega)]
 rw [this, joinB_inr]
 simp

def MonOk (d : D_api_Decimal) : Prop := 0 < d.1 ∧ 0 ≤ d.2 ∧ d.2 ≤ 4 ∧ d.1 ≤ 1000000000 * 10 ^ d.2.toNat
instance (d : D_api_Decimal) : Decidable (MonOk d) := by unfold MonOk; exact inferInstance
structure DebtOk (d : D_api_Debt) : Prop where
 day0 : 1 ≤ d.2.1
 day1 : d.2.1 ≤ 3652059
 mon : MonOk d.2.2.1
 days0 : 0 ≤ d.2.2.2.1
 days1 : d.2.2.2.1 ≤ 10000
 with0 : 0 ≤ d.2.2.2.2.1
 with1 : d.2.2.2.2.1 ≤ d.2.2.2.1
 disc0 : 0 ≤ d.2.2.2.2.2
 disc1 : d.2.2.2.2.2 ≤ 1000
structure PayOk (p : D_api_Payment) : Prop where
 day0 : 1 ≤ p.1
 day1 : p.1 ≤ 3652059
 mon : MonOk p.2.1
 names : p.2.2.length ≤ 100
end Go.Md

namespace Go.Md
open Go.Dn

def cents (d : D_api_Decimal) : Int := d.1 * 10 ^ (4 - d.2).toNat
theorem MonOk.cents {d : D_api_Decimal} (h : MonOk d) : 0 < cents d ∧ cents d ≤ 10000000000000 := by
 obtain ⟨h1, h2, h3, h4⟩ := h
 unfold Md.cents
 have hp := pow10_pos (4 - d.2).toNat
 refine ⟨Int.mul_pos h1 hp, ?_⟩
 have a1 : d.1 * 10 ^ (4 - d.2).toNat ≤ 1000000000 * 10 ^ d.2.toNat * 10 ^ (4 - d.2).toNat := Int.mul_le_mul_of_nonneg_right h4 (by omega)
 rw [Int.mul_assoc, ← Int.pow_add, show d.2.toNat + (4 - d.2).toNat = 4 by omega] at a1
 omega
abbrev Bd := D_bill_debt
def owes (x : Bd) : Int := x.2.1
def paid (x : Bd) : Int := x.2.2.1
def taken (x : Bd) : Int := x.2.2.2.1
def done (x : Bd) : Int := x.2.2.2.2
structure BdOk (x : Bd) : Prop where
 d : DebtOk x.1
 owes0 : 0 ≤ owes x
 paid0 : 0 ≤ paid x
 taken0 : 0 ≤ taken x
 sum : owes x + paid x + taken x = cents x.1.2.2.1
 none : done x = 0 → taken x = 0
 done0 : done x = 0 ∨ x.1.2.1 ≤ done x
 iff : owes x = 0 ↔ done x ≠ 0
theorem BdOk.le {x : Bd} (h : BdOk x) : owes x ≤ 10000000000000 ∧ paid x ≤ 10000000000000 ∧ taken x ≤ 10000000000000 := by
 have := h.d.mon.cents; have := h.sum; have := h.owes0; have := h.paid0; have := h.taken0; omega

section
variable {ar : List Bd} {h : Nat} {x : Bd}

theorem set_get {α : Type} {l : List α} {i : Nat} {x y : α} (h : l[i]? = some x) : (l.set i y)[i]? = some y := List.getElem?_set_self (List.getElem?_eq_some_iff.1 h).1

end

end Go.Md

namespace Go.Md
open Go.Dn

structure ArOk (ds : List D_api_Debt) (ar : List Bd) : Prop where
 ds : ar.map (·.1) = ds
 ok : ∀ x ∈ ar, BdOk x
theorem ArOk.len {ds : List D_api_Debt} {ar : List Bd} (h : ArOk ds ar) : ar.length = ds.length := by rw [← h.ds]; simp
theorem ArOk.set {ds : List D_api_Debt} {ar : List Bd} (h : ArOk ds ar) {i : Nat} {x y : Bd} (hx : ar[i]? = some x) (hy : BdOk y) (he : y.1 = x.1) : ArOk ds (ar.set i y) := by
 refine ⟨?_, fun z hz => ?_⟩
 ·rw [List.map_set, he, ← h.ds]
  apply List.ext_getElem?
  intro j
  by_cases hj : i = j
  ·subst hj
   rw [List.getElem?_set_self (by simp; exact (List.getElem?_eq_some_iff.1 hx).1), List.getElem?_map, hx]; rfl
  ·rw [List.getElem?_set_ne hj]
 ·rcases List.mem_or_eq_of_mem_set hz with hz | rfl
  ·exact h.ok z hz
  ·exact hy
theorem ArOk.get {ds : List D_api_Debt} {ar : List Bd} (h : ArOk ds ar) {i : Nat} {x : Bd} (hx : ar[i]? = some x) : BdOk x := h.ok x (List.mem_of_getElem? hx)

def sumPaid (ar : List Bd) : Int := (ar.map paid).sum
structure StOk (ds : List D_api_Debt) (L T : Int) (s : Int × List Bd) : Prop where
 ar : ArOk ds s.2
 l0 : 0 ≤ s.1
 l1 : s.1 ≤ L
 tot : s.1 + sumPaid s.2 = T

theorem mget_cons {k v : Ty} (p : k.den × v.den) (m : List (k.den × v.den)) (n : k.den) : mget (p :: m) n = bif k.beq n p.1 then some p.2 else mget m n := by
 unfold mget
 rw [List.find?_cons]
 cases k.beq n p.1 <;> rfl
theorem mset_cons {k v : Ty} (p : k.den × v.den) (m : List (k.den × v.den)) (x : k.den) (y : v.den) : mset (p :: m) x y = bif k.beq x p.1 then (x, y) :: m else p :: mset m x y := rfl
end Go.Md

namespace Go.Md
open Go.Dn

def few : Nat → Int → Int × Nat
 | 0, z => (z, 0)
 | p + 1, z => if z % 10 = 0 then few p (z / 10) else (z, p + 1)
def dec9 (d : D_api_Decimal) : Int := d.1 * 10 ^ (9 - d.2).toNat
def DecOk (d : D_api_Decimal) : Prop := d.1.natAbs ≤ 1000000000000000 ∧ 0 ≤ d.2 ∧ d.2 ≤ 9
theorem len6 {z : Int} (h : z.natAbs < 1000000000000000000000000000000000000000000000000000000000000) : (dg6 z.natAbs).length ≤ 10 := dg6_len (k := 10) (by simpa using h)

theorem r1_Power_eq (n : Nat) (hn : n ≤ 40) : r1_Power (n : Int) = some (N (10 ^ n), ()) := by
 unfold r1_Power
 rw [r1_Of_eq 1 (by omega) (by omega), Option.bind_some]
 dsimp only
 have hb : ∀ i : Nat, i ≤ 41 → (dg6 ((10 : Int) ^ i).natAbs).length ≤ 10 := by
  intro i hi
  refine len6 ?_
  have h1 : ((10 : Int) ^ i).natAbs = 10 ^ i := by rw [Int.natAbs_pow]; rfl
  have h2 := Nat.pow_le_pow_right (n := 10) (by omega) hi
  omega
 have loop : iter (X := r1_Power_x3) (β := r1_Power_r3) (Int.natAbs (n : Int) + (Int.natAbs (0 : Int) + (List.length ([] : List Int) + (List.length (N 1).2 + 2)))) ((n : Int), 0, false, [], (N 1).1, (N 1).2, ()) r1_Power_b3 = some (Sum.inr (false, [], (N (10 ^ n)).1, (N (10 ^ n)).2, ())) := by
  refine iter_post (Inv := fun i x => x = ((n : Int), (i : Int), false, [], (N (10 ^ i)).1, (N (10 ^ i)).2, ())) n (fun r => r = some (Sum.inr (false, [], (N (10 ^ n)).1, (N (10 ^ n)).2, ()))) ?_ ?_ _ 0 _ (by simp) (by omega) (by omega)
  ·rintro i _ again hi rfl ih
   unfold r1_Power_b3
   dsimp only
   rw [bif_pos (by omega), r1_Of_eq 10 (by omega) (by omega), Option.bind_some]
   change (Option.bind (r1_TimesOf (N (10 ^ i)) (N 10)) _) = _
   have h10 : (dg6 (10 : Int).natAbs).length ≤ 10 := len6 (by decide)
   rw [r1_TimesOf_eq _ _ (by have := hb i (by omega); omega) (by omega), Option.bind_some]
   dsimp only
   rw [w64_id (by omega) (by omega)]
   exact ih _ (by rw [Int.pow_succ]; rfl)
  ·rintro _ again rfl
   unfold r1_Power_b3
   dsimp only
   rw [bif_neg (by omega)]
 rw [loop, joinB_inr]

theorem r1_At_eq (d : D_api_Decimal) (hd : DecOk d) : r1_At d 9 = some (N (dec9 d), ()) := by
 obtain ⟨h1, h2, h3⟩ := hd
 unfold r1_At
 rw [r1_Of_eq _ (by omega) (by omega), Option.bind_some, w64_id (by omega) (by omega)]
 dsimp only
 obtain ⟨m, hm⟩ : ∃ m : Nat, 9 - d.2 = m := ⟨(9 - d.2).toNat, by omega⟩
 rw [hm, r1_Power_eq m (by omega), Option.bind_some]
 dsimp only
 have hl1 : (dg6 d.1.natAbs).length ≤ 10 := len6 (by omega)
 have hl2 : (dg6 ((10 : Int) ^ m).natAbs).length ≤ 10 := by
  refine len6 ?_
  have h1 : ((10 : Int) ^ m).natAbs = 10 ^ m := by rw [Int.natAbs_pow]; rfl
  have h2 := Nat.pow_le_pow_right (n := 10) (by omega) (show m ≤ 9 by omega)
  omega
 rw [r1_TimesOf_eq _ _ (by omega) (by omega), Option.bind_some]
 unfold dec9
 rw [hm]; rfl
theorem dec9_bound {d : D_api_Decimal} (hd : DecOk d) : (dec9 d).natAbs ≤ 1000000000000000000000000 := by
 obtain ⟨h1, h2, h3⟩ := hd
 unfold dec9
 rw [Int.natAbs_mul, Int.natAbs_pow]
 have h4 := Nat.pow_le_pow_right (n := 10) (by omega) (show (9 - d.2).toNat ≤ 9 by omega)
 have h5 : d.1.natAbs * (10 : Int).natAbs ^ (9 - d.2).toNat ≤ 1000000000000000 * 1000000000 := Nat.mul_le_mul h1 (by simpa using h4)
 omega

end Go.Md

namespace Go.Md
open Go.Dn

end Go.Md

namespace Go.Md
open Go.Dn

end Go.Md

namespace Go.Md
open Go.Dn

theorem iter_scan2 {X α B : Type} {f : X → (X → Option B) → Option B} (mk : Nat → X) (l : List α) (g : Nat → α → Int) (fin : Option B) (out : Int → Option B)
  (hstep : ∀ i y again, l[i]? = some y → f (mk i) again = if g i y = 0 then again (mk (i + 1)) else out (g i y)) (hend : ∀ again, f (mk l.length) again = fin) :
  ∀ (r : List α) (i n : Nat), l.drop i = r → i ≤ l.length → r.length < n → iter n (mk i) f = if scanF g i r = 0 then fin else out (scanF g i r)
 | _, _, 0, _, _, hn => absurd hn (Nat.not_lt_zero _)
 | [], i, n + 1, hd, hi, _ => by
  have : i = l.length := by
   have := congrArg List.length hd
   simp at this; omega
  subst this
  rw [iter_succ, hend]; rfl
 | y :: r, i, n + 1, hd, hi, hn => by
  have hy : l[i]? = some y := by
   have := congrArg (·[0]?) hd
   simpa [List.getElem?_drop] using this
  have hr : l.drop (i + 1) = r := by
   have := congrArg List.tail hd
   simpa [List.tail_drop] using this
  have hi' : i < l.length := (List.getElem?_eq_some_iff.1 hy).1
  rw [iter_succ, hstep i y _ hy]
  by_cases hg : g i y = 0
  ·have e : scanF g i (y :: r) = scanF g (i + 1) r := by simp [scanF, hg]
   rw [if_pos hg, e]
   exact iter_scan2 mk l g fin out hstep hend r (i + 1) n hr hi' (by simp at hn; omega)
  ·have e : scanF g i (y :: r) = g i y := by simp [scanF, hg]
   rw [if_neg hg, e, if_neg hg]

end Go.Md

namespace Go.Md
open Go.Dn

def LaterQ (D : Int) (S : Nat → Prop) (ar : List Bd) : Prop := ∀ i x, S i → ar[i]? = some x → done x = 0 ∨ D < done x
theorem LaterQ.set {D : Int} {S : Nat → Prop} {ar : List Bd} {h : Nat} {x y : Bd} (hq : LaterQ D S ar) (hx : ar[h]? = some x) (hy : (done x = 0 ∨ D < done x) → (done y = 0 ∨ D < done y)) : LaterQ D S (ar.set h y) := by
 intro i z hi hz
 by_cases e : h = i
 ·subst e
  rw [set_get hx] at hz
  cases hz
  exact hy (hq h x hi hx)
 ·rw [List.getElem?_set_ne e] at hz
  exact hq i z hi hz
end Go.Md

namespace Go.Md
open Go.Dn

def nmC : List UInt8 := [97, 98, 99, 100, 101, 102, 103, 104, 105, 106, 107, 108, 109, 110, 111, 112, 113, 114, 115, 116, 117, 118, 119, 120, 121, 122, 48, 49, 50, 51, 52, 53, 54, 55, 56, 57, 45]
def nmB (c : UInt8) : Bool := nmC.contains c
set_option maxRecDepth 100000 in
theorem nmB_fin : ∀ n : Fin 256, nmB (UInt8.ofNat n.1) = ((decide (97 ≤ n.1) && decide (n.1 ≤ 122)) || ((decide (48 ≤ n.1) && decide (n.1 ≤ 57)) || decide (n.1 = 45))) := by decide
theorem nmB_eq (c : UInt8) : nmB c = ((decide (97 ≤ c.toNat) && decide (c.toNat ≤ 122)) || ((decide (48 ≤ c.toNat) && decide (c.toNat ≤ 57)) || decide (c.toNat = 45))) := by
 have := nmB_fin ⟨c.toNat, UInt8.toNat_lt c⟩
 simpa using this

theorem dropW_nil {α : Type} {p : α → Bool} : ∀ {l : List α}, l.dropWhile p = [] ↔ ∀ x ∈ l, p x = true
 | [] => by simp
 | y :: r => by
  cases hp : p y with
  | true => rw [List.dropWhile_cons_of_pos hp, dropW_nil]; simp [hp]
  | false => rw [List.dropWhile_cons_of_neg (by simp [hp])]; simp [hp]
theorem dropW_head {α : Type} {p : α → Bool} {y : α} {r : List α} : ∀ {l : List α}, l.dropWhile p = y :: r → p y = false
 | [], h => by simp at h
 | z :: t, h => by
  cases hp : p z with
  | true => rw [List.dropWhile_cons_of_pos hp] at h; exact dropW_head h
  | false => rw [List.dropWhile_cons_of_neg (by simp [hp])] at h; cases h; exact hp

theorem trimS_nil (s c : List UInt8) : (Lib.trimS s c == []) = s.all (c.contains ·) := by
 rw [Bool.eq_iff_iff]
 simp only [beq_iff_eq, List.all_eq_true]
 unfold Lib.trimS Lib.trimLeftS Lib.trimRightS
 constructor
 ·intro h
  rw [dropW_nil] at h
  cases hd : s.reverse.dropWhile (c.contains ·) with
  | nil =>
   rw [dropW_nil] at hd
   intro x hx
   exact hd x (by simpa using hx)
  | cons y r =>
   exfalso
   have h1 := h y (by rw [hd]; simp)
   have h2 := dropW_head hd
   rw [h1] at h2
   cases h2
 ·intro h
  have : s.reverse.dropWhile (c.contains ·) = [] := dropW_nil.2 fun x hx => h x (by simpa using hx)
  rw [this]; rfl

theorem scanF_all {α : Type} (p : α → Bool) (e : Int) (he : e ≠ 0) : ∀ (l : List α) (i : Nat), scanF (fun _ c => if p c = true then 0 else e) i l = if l.all p = true then 0 else e
 | [], i => by simp [scanF]
 | y :: r, i => by
  have ih := scanF_all p e he r (i + 1)
  cases hp : p y with
  | true => simp only [scanF, hp, if_true, List.all_cons, Bool.true_and]; exact ih
  | false => simp [scanF, hp, he]

theorem sidx_get {s : List UInt8} {i : Nat} {c : UInt8} (h : s[i]? = some c) : sidx s (i : Int) = some c := by simp [sidx, h]

theorem r1_IsName_eq (s : List UInt8) : r1_IsName s = some (isNm s, ()) := by
 unfold r1_IsName isNm kit_IsName r1_isName
 by_cases h0 : s = []
 ·subst h0; rfl
 have hb : (s == []) = false := by simpa using h0
 have hl : 0 < s.length := List.length_pos_iff.2 h0
 rw [hb, cond_false, bif_neg (show ¬((s.length : Int) < 1) by omega)]
 by_cases h2 : (s.length : Int) > 40
 ·rw [bif_pos h2, bif_pos h2]; rfl
 rw [bif_neg h2, bif_neg h2]
 have hs : sidx s 0 = some (s[0]'hl) := sidx_get (i := 0) (getElem?_of hl)
 simp only [hs, Option.bind_some]
 by_cases h3 : (((s[0]'hl).toNat : Int)) < 97
 ·simp only [bif_pos h3]; rfl
 simp only [bif_neg h3]
 by_cases h4 : (((s[0]'hl).toNat : Int)) > 122
 ·simp only [bif_pos h4]; rfl
 simp only [bif_neg h4]
 have ht : strings_Trim s [97, 98, 99, 100, 101, 102, 103, 104, 105, 106, 107, 108, 109, 110, 111, 112, 113, 114, 115, 116, 117, 118, 119, 120, 121, 122, 48, 49, 50, 51, 52, 53, 54, 55, 56, 57, 45] = some (Lib.trimS s nmC, ()) := by
  unfold strings_Trim
  rw [show (decide (s.length ≤ 9223372036854775807)) = true by simp; omega]
  rfl
 rw [ht, Option.bind_some]
 have loop := iter_scan2 (f := r1_isName_b4) (fun i => (s, (s.length : Int), (i : Int), ())) s (fun _ c => if nmB c = true then 0 else 1) (some (Sum.inr ())) (fun _ => some (Sum.inl (false, ())))
  (fun i c again hi => by
   have hil := (List.getElem?_eq_some_iff.1 hi).1
   unfold r1_isName_b4
   dsimp only
   rw [bif_pos (show (i : Int) < (s.length : Int) by omega), sidx_get hi, Option.bind_some, nmB_eq c, w64_id (by omega) (by omega)]
   by_cases a1 : (c.toNat : Int) < 97 <;> by_cases a2 : (c.toNat : Int) > 122 <;> by_cases a3 : (c.toNat : Int) < 48 <;> by_cases a4 : (c.toNat : Int) > 57 <;> by_cases a5 : (c.toNat : Int) = 45 <;>
    first
    | omega
    |(have b1 : (97 ≤ c.toNat) = ¬ ((c.toNat : Int) < 97) := by simp only [eq_iff_iff]; omega
      have b2 : (c.toNat ≤ 122) = ¬ ((c.toNat : Int) > 122) := by simp only [eq_iff_iff]; omega
      have b3 : (48 ≤ c.toNat) = ¬ ((c.toNat : Int) < 48) := by simp only [eq_iff_iff]; omega
      have b4 : (c.toNat ≤ 57) = ¬ ((c.toNat : Int) > 57) := by simp only [eq_iff_iff]; omega
      have b5 : (c.toNat = 45) = ((c.toNat : Int) = 45) := by simp only [eq_iff_iff]; omega
      simp only [b1, b2, b3, b4, b5, a1, a2, a3, a4, a5, bne, decide_true, decide_false, not_true_eq_false, not_false_eq_true, Bool.and_true, Bool.true_and, Bool.and_false, Bool.false_and, Bool.or_true, Bool.true_or, Bool.or_false, Bool.false_or, cond_true, cond_false, if_true, Bool.false_eq_true, if_false, Int.one_ne_zero, beq_self_eq_true, Bool.not_true]
      first | rfl | (have a6 : ((c.toNat : Int) == 45) = false := (by simp only [beq_eq_false_iff_ne, ne_eq]; exact a5); rw [a6]; rfl)))
  (fun again => by
   unfold r1_isName_b4
   dsimp only
   rw [bif_neg (by omega)])
  s 0 (List.length s + (Int.natAbs ((List.length s : Int)) + (Int.natAbs (0 : Int) + 2))) rfl (Nat.zero_le _) (by omega)
 rw [show ((0 : Nat) : Int) = 0 from rfl] at loop
 rw [loop, scanF_all nmB 1 (by omega), trimS_nil]
 have e : (s.all fun x => nmC.contains x) = s.all nmB := rfl
 rw [e]
 cases s.all nmB <;> rfl

theorem r1_within_eq (a b c : Int) : r1_within a b c = some (decide (b ≤ a ∧ a ≤ c), ()) := by
 unfold r1_within
 by_cases h : b ≤ a
 ·rw [bif_pos h]; simp [h]
 ·rw [bif_neg h]; simp [h]
theorem r1_IsDay_eq (n : Int) : r1_IsDay n = some (decide (1 ≤ n ∧ n ≤ 3652059), ()) := by
 unfold r1_IsDay r1_isDay
 rw [r1_within_eq]; rfl
theorem r1_CheckDecimal_eq (d : D_api_Decimal) : r1_CheckDecimal d = some (if -1000000000000000 ≤ d.1 ∧ d.1 ≤ 1000000000000000 ∧ 0 ≤ d.2 ∧ d.2 ≤ 9 then 0 else 1, ()) := by
 unfold r1_CheckDecimal
 rw [r1_within_eq, Option.bind_some]
 by_cases h1 : -1000000000000000 ≤ d.1 ∧ d.1 ≤ 1000000000000000
 ·rw [decide_eq_true h1]
  simp only [Bool.not_true, cond_false]
  rw [r1_within_eq, Option.bind_some]
  by_cases h2 : 0 ≤ d.2 ∧ d.2 ≤ 9
  ·rw [decide_eq_true h2, if_pos ⟨h1.1, h1.2, h2⟩]; rfl
  ·rw [decide_eq_false h2, if_neg (fun h => h2 h.2.2)]; rfl
 ·rw [decide_eq_false h1, if_neg (fun h => h1 ⟨h.1, h.2.1⟩)]; rfl

theorem r11_cmp_eq {a b : D_api_Decimal} (ha : DecOk a) (hb : DecOk b) : r11_cmp a b = some ((dec9 a - dec9 b).sign, ()) := by
 unfold r11_cmp
 have l1 := dec9_bound ha
 have l2 := dec9_bound hb
 have m1 := len6 (z := dec9 a) (by omega)
 have m2 := len6 (z := dec9 b) (by omega)
 rw [r1_At_eq a ha, Option.bind_some, r1_At_eq b hb, Option.bind_some, r1_Cmp_eq _ _ (by omega) (by omega)]
 rfl

instance (d : D_api_Decimal) : Decidable (DecOk d) := by unfold DecOk; infer_instance

end Go.Md
