/-
  Plain facts: stable sorting. No condition.
-/
import Derived.Test.YtgdedidiakojoaaGreatDoorPa
set_option linter.all false
namespace Go.Md
open Go.Dn

/-- The same elements, those of one key in the same order. -/
structure SamE {α : Type} (k : α → Int) (l l' : List α) : Prop where
  perm : l.Perm l'
  keys : ∀ v, l'.filter (fun x => k x == v) = l.filter (fun x => k x == v)
theorem SamE.refl {α : Type} (k : α → Int) (l : List α) : SamE k l l := ⟨List.Perm.refl _, fun _ => rfl⟩
theorem SamE.trans {α : Type} {k : α → Int} {a b c : List α} (h : SamE k a b) (g : SamE k b c) : SamE k a c := ⟨h.perm.trans g.perm, fun v => (g.keys v).trans (h.keys v)⟩
theorem SamE.append {α : Type} {k : α → Int} {a b c d : List α} (h : SamE k a b) (g : SamE k c d) : SamE k (a ++ c) (b ++ d) :=
  ⟨h.perm.append g.perm, fun v => by rw [List.filter_append, List.filter_append, h.keys, g.keys]⟩
theorem SamE.mem {α : Type} {k : α → Int} {a b : List α} (h : SamE k a b) {x : α} : x ∈ b ↔ x ∈ a := h.perm.mem_iff.symm
theorem SamE.length {α : Type} {k : α → Int} {a b : List α} (h : SamE k a b) : b.length = a.length := h.perm.length_eq.symm
def Srt {α : Type} (k : α → Int) (l : List α) : Prop := l.Pairwise fun x y => k x ≤ k y
theorem Srt.append {α : Type} {k : α → Int} {a b : List α} (ha : Srt k a) (hb : Srt k b) (h : ∀ x ∈ a, ∀ y ∈ b, k x ≤ k y) : Srt k (a ++ b) := List.pairwise_append.2 ⟨ha, hb, h⟩
theorem Srt.left {α : Type} {k : α → Int} {a b : List α} (h : Srt k (a ++ b)) : Srt k a := (List.pairwise_append.1 h).1
theorem Srt.right {α : Type} {k : α → Int} {a b : List α} (h : Srt k (a ++ b)) : Srt k b := (List.pairwise_append.1 h).2.1
section
variable {k : Option Nat → Int} {ar : List D_bill_debt} {ok : Option Nat → Prop}

end

end Go.Md

namespace Go.Md
open Go.Dn

section
variable {k : Option Nat → Int} {ar : List D_bill_debt} {ok : Option Nat → Prop}

end

end Go.Md

namespace Go.Md
open Go.Dn

theorem Srt.get {α : Type} {k : α → Int} {l : List α} (h : Srt k l) {i j : Nat} (hij : i ≤ j) (hj : j < l.length) : k (l[i]'(by omega)) ≤ k l[j] := by
  rcases Nat.lt_or_eq_of_le hij with h1 | h1
  · exact List.pairwise_iff_getElem.1 h i j (by omega) hj h1
  · subst h1; exact Int.le_refl _

section
variable {k : Option Nat → Int} {ar : List D_bill_debt} {ok : Option Nat → Prop}

end

end Go.Md

namespace Go.Md
open Go.Dn

section
variable {k : Option Nat → Int} {ar : List D_bill_debt} {ok : Option Nat → Prop}

set_option maxHeartbeats 4000000 in
end

end Go.Md

namespace Go.Md
open Go.Dn

/-- Sorted in chunks. -/
def ChS {α : Type} (k : α → Int) (bs : Nat) (l : List α) : Prop := ∀ j : Nat, Srt k ((l.drop (j * bs)).take bs)
theorem ChS.nil {α : Type} (k : α → Int) (bs : Nat) : ChS k bs [] := fun _ => by simp [Srt]
theorem ChS.snoc {α : Type} {k : α → Int} {bs : Nat} {A S : List α} {j : Nat} (h : ChS k bs A) (hA : A.length = j * bs) (hS : Srt k S) (hl : S.length ≤ bs) : ChS k bs (A ++ S) := by
  intro i
  rcases Nat.lt_trichotomy i j with hij | hij | hij
  · have h1 : (i + 1) * bs ≤ j * bs := Nat.mul_le_mul_right _ hij
    rw [Nat.add_mul, Nat.one_mul] at h1
    rw [List.drop_append_of_le_length (by omega), List.take_append_of_le_length (by rw [List.length_drop]; omega)]
    exact h i
  · subst hij
    rw [← hA, List.drop_left, List.take_of_length_le hl]
    exact hS
  · have h1 : (j + 1) * bs ≤ i * bs := Nat.mul_le_mul_right _ hij
    rw [Nat.add_mul, Nat.one_mul] at h1
    rw [List.drop_of_length_le (by rw [List.length_append]; omega)]
    simp [Srt]
theorem ChS.drop {α : Type} {k : α → Int} {bs : Nat} {l : List α} (h : ChS k bs l) (i : Nat) : ChS k bs (l.drop (i * bs)) := by
  intro j
  rw [List.drop_drop, ← Nat.add_mul]
  exact h (i + j)
theorem Srt.take {α : Type} {k : α → Int} {l : List α} (h : Srt k l) (n : Nat) : Srt k (l.take n) := by
  rw [← List.take_append_drop n l] at h; exact h.left

section
variable {k : Option Nat → Int} {ar : List D_bill_debt} {ok : Option Nat → Prop}

end

end Go.Md
