/-
  Plain facts: parcels. No condition.
-/
import Derived.Test.YtglaikpklmafkaaGreatDoorYp
import Derived.Test.YtglaikpklmafkaaGreatDoorYs
import Derived.Test.YtglaikpklmafkaaGreatDoorYn
set_option linter.all false
namespace Go.Md
open Go.Dn

theorem nodup_len : ∀ (n : Nat) (l : List Nat), l.Nodup → (∀ x ∈ l, x < n) → l.length ≤ n
  | 0, l, _, h => by
    cases l with
    | nil => simp
    | cons a r => exact absurd (h a (by simp)) (Nat.not_lt_zero _)
  | n + 1, l, hd, h => by
    by_cases hm : n ∈ l
    · have h1 := nodup_len n (l.erase n) (hd.erase n) (fun x hx => by
        have := (hd.mem_erase_iff).1 hx
        have := h x this.2
        omega)
      rw [List.length_erase_of_mem hm] at h1
      omega
    · have := nodup_len n l hd (fun x hx => by
        have h2 := h x hx
        have : x ≠ n := fun e => hm (e ▸ hx)
        omega)
      omega

/-- So many steps up. -/
def itp (par : Nat → Option Nat) : Nat → Nat → Option Nat
  | 0, i => some i
  | j + 1, i => (par i).bind (itp par j)
def OnLoop (par : Nat → Option Nat) (i : Nat) : Prop := ∃ j, itp par (j + 1) i = some i

/-- The next time at i. -/
def Dist (par : Nat → Option Nat) (i k d : Nat) : Prop := itp par (d + 1) k = some i ∧ ∀ e, e < d → itp par (e + 1) k ≠ some i
theorem Dist.uniq {par : Nat → Option Nat} {i k d e : Nat} (h : Dist par i k d) (h' : Dist par i k e) : d = e := by
  rcases Nat.lt_trichotomy d e with h1 | h1 | h1
  · exact absurd h.1 (h'.2 d h1)
  · exact h1
  · exact absurd h'.1 (h.2 e h1)
theorem Dist.step {par : Nat → Option Nat} {i k d : Nat} (h : Dist par i k d) : ∃ k', par k = some k' ∧ ((k' = i ∧ d = 0) ∨ (k' ≠ i ∧ ∃ e, d = e + 1 ∧ Dist par i k' e)) := by
  obtain ⟨h1, h2⟩ := h
  simp only [itp] at h1
  cases hp : par k with
  | none => rw [hp] at h1; cases h1
  | some k' =>
    rw [hp] at h1
    refine ⟨k', rfl, ?_⟩
    cases d with
    | zero => simp only [Option.bind_some, itp, Option.some.injEq] at h1; exact .inl ⟨h1, rfl⟩
    | succ e =>
      right
      refine ⟨fun e1 => ?_, e, rfl, by simpa using h1, fun f hf hx => ?_⟩
      · refine h2 0 (by omega) ?_
        simp only [itp, hp, Option.bind_some, e1]
      · refine h2 (f + 1) (by omega) ?_
        rw [show f + 1 + 1 = (f + 1) + 1 from rfl]
        show (par k).bind (itp par (f + 1)) = some i
        rw [hp]; exact hx
theorem Dist.list {par : Nat → Option Nat} {i n : Nat} (hn : ∀ k k', par k = some k' → k' < n) : ∀ {d k : Nat}, k < n → Dist par i k d → ∃ l : List Nat, l.length = d + 1 ∧ l.Nodup ∧ (∀ x ∈ l, x < n) ∧ ∀ x ∈ l, ∃ e, e ≤ d ∧ Dist par i x e
  | 0, k, hk, h => ⟨[k], rfl, by simp, by simpa using hk, fun x hx => by simp at hx; subst hx; exact ⟨0, Nat.le_refl _, h⟩⟩
  | d + 1, k, hk, h => by
    obtain ⟨k', h1, h2⟩ := h.step
    rcases h2 with ⟨_, h2⟩ | ⟨_, e, h2, h3⟩
    · omega
    · have : e = d := by omega
      subst this
      obtain ⟨l, l1, l2, l3, l4⟩ := Dist.list hn (hn _ _ h1) h3
      refine ⟨k :: l, by simp [l1], List.nodup_cons.2 ⟨fun hm => ?_, l2⟩, fun x hx => ?_, fun x hx => ?_⟩
      · obtain ⟨f, f1, f2⟩ := l4 k hm
        have := f2.uniq h
        omega
      · rcases List.mem_cons.1 hx with rfl | hx
        · exact hk
        · exact l3 x hx
      · rcases List.mem_cons.1 hx with rfl | hx
        · exact ⟨e + 1, Nat.le_refl _, h⟩
        · obtain ⟨f, f1, f2⟩ := l4 x hx; exact ⟨f, by omega, f2⟩
theorem Dist.le {par : Nat → Option Nat} {i n d k : Nat} (hn : ∀ k k', par k = some k' → k' < n) (hk : k < n) (h : Dist par i k d) : d + 1 ≤ n := by
  obtain ⟨l, l1, l2, l3, _⟩ := h.list hn hk
  have := nodup_len n l l2 l3
  omega

/-- The chain above. -/
def anc (par : Nat → Option Nat) : Nat → Nat → List Nat
  | 0, _ => []
  | f + 1, i => match par i with
    | none => []
    | some k => k :: anc par f k
end Go.Md

namespace Go.Md
open Go.Dn

end Go.Md

namespace Go.Md
open Go.Dn

theorem prev_idx' {α : Type} {l : List α} {i : Nat} (hi : i < l.length) (hl : l.length < 1000000000) : idx l (w64 (((i + 1 : Nat) : Int) - 1)) = l[i]? := by
  rw [w64_id (by omega) (by omega), show ((i + 1 : Nat) : Int) - 1 = ((i : Nat) : Int) by omega, idx_nat]

end Go.Md

namespace Go.Md
open Go.Dn

/-- The parcel in which one is. -/
def par (l : List D_api_Parcel) (k : Nat) : Option Nat := match l[k]? with
  | some p => if p.2.1 = [] then none else ixOf (·.1) p.2.1 l
  | none => none
def Nest1 (l : List D_api_Parcel) : Prop := ∀ p ∈ l, p.2.1 = [] ∨ (ixOf (·.1) p.2.1 l).isSome = true
def NoLoop (l : List D_api_Parcel) : Prop := ∀ k, k < l.length → ¬ OnLoop (par l) k
def ancP (l : List D_api_Parcel) (i : Nat) : List Nat := anc (par l) l.length i
def cI (l : List Nat) : List Int := l.map (fun n : Nat => (n : Int))
end Go.Md

namespace Go.Md
open Go.Dn

def n1 (l : List D_api_Parcel) (p : D_api_Parcel) : Int := if p.2.1 ≠ [] ∧ (ixOf (·.1) p.2.1 l).isSome = false then 9 else 0
open Classical in
noncomputable def n2 (l : List D_api_Parcel) (i : Nat) : Int := if OnLoop (par l) i then 17 else 0
def n3 (l : List D_api_Parcel) (i : Nat) : Int := if 5 < (ancP l i).length then 2 else 0
end Go.Md

namespace Go.Md
open Go.Dn

/-- A right advice. -/
structure AdvOk (a : D_api_Advice) : Prop where
  len : a.2.2.2.length ≤ 500
  asc : Asc (·.1) a.2.2.2
  n1 : Nest1 a.2.2.2
  nl : NoLoop a.2.2.2
theorem l10_awake_k : l10_awake = some (true, ()) := by kernel_rfl

end Go.Md
