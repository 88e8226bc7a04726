/-
  Plain facts: parcels. No condition.
-/
import Derived.Test.YtglaikpklmafkaaGreatDoorXp
import Derived.Test.YtglaikpklmafkaaGreatDoorXs
import Derived.Test.YtglaikpklmafkaaGreatDoorXn
set_option linter.all false
namespace Go.Md
open Go.Dn

theorem nodup_len : ∀ (n : Nat) (l : List Nat), l.Nodup → (∀ x ∈ l, x < n) → l.length ≤ n
  | 0, l, _, h => by
    cases l with
    | nil => simp
    | cons a r => exact absurd (h a (by simp)) (Nat.not_lt_zero _)
  | n + 1, l, hd, h => by
    by_cases hm : n ∈ l
    · have h1 := nodup_len n (l.erase n) (hd.erase n) (fun x hx => by
        have := (hd.mem_erase_iff).1 hx
        have := h x this.2
        omega)
      rw [List.length_erase_of_mem hm] at h1
      omega
    · have := nodup_len n l hd (fun x hx => by
        have h2 := h x hx
        have : x ≠ n := fun e => hm (e ▸ hx)
        omega)
      omega

/-- So many steps up. -/
def itp (par : Nat → Option Nat) : Nat → Nat → Option Nat
  | 0, i => some i
  | j + 1, i => (par i).bind (itp par j)
theorem itp_add {par : Nat → Option Nat} : ∀ {a b i k : Nat}, itp par a i = some k → itp par (a + b) i = itp par b k
  | 0, b, i, k, h => by simp only [itp, Option.some.injEq] at h; subst h; rw [Nat.zero_add]
  | a + 1, b, i, k, h => by
    simp only [itp] at h
    rw [show a + 1 + b = (a + b) + 1 by omega]
    simp only [itp]
    cases hp : par i with
    | none => rw [hp] at h; cases h
    | some j => rw [hp] at h; exact itp_add (a := a) (by simpa using h)
def OnLoop (par : Nat → Option Nat) (i : Nat) : Prop := ∃ j, itp par (j + 1) i = some i

/-- The next time at i. -/
def Dist (par : Nat → Option Nat) (i k d : Nat) : Prop := itp par (d + 1) k = some i ∧ ∀ e, e < d → itp par (e + 1) k ≠ some i
theorem Dist.uniq {par : Nat → Option Nat} {i k d e : Nat} (h : Dist par i k d) (h' : Dist par i k e) : d = e := by
  rcases Nat.lt_trichotomy d e with h1 | h1 | h1
  · exact absurd h.1 (h'.2 d h1)
  · exact h1
  · exact absurd h'.1 (h.2 e h1)
theorem Dist.step {par : Nat → Option Nat} {i k d : Nat} (h : Dist par i k d) : ∃ k', par k = some k' ∧ ((k' = i ∧ d = 0) ∨ (k' ≠ i ∧ ∃ e, d = e + 1 ∧ Dist par i k' e)) := by
  obtain ⟨h1, h2⟩ := h
  simp only [itp] at h1
  cases hp : par k with
  | none => rw [hp] at h1; cases h1
  | some k' =>
    rw [hp] at h1
    refine ⟨k', rfl, ?_⟩
    cases d with
    | zero => simp only [Option.bind_some, itp, Option.some.injEq] at h1; exact .inl ⟨h1, rfl⟩
    | succ e =>
      right
      refine ⟨fun e1 => ?_, e, rfl, by simpa using h1, fun f hf hx => ?_⟩
      · refine h2 0 (by omega) ?_
        simp only [itp, hp, Option.bind_some, e1]
      · refine h2 (f + 1) (by omega) ?_
        rw [show f + 1 + 1 = (f + 1) + 1 from rfl]
        show (par k).bind (itp par (f + 1)) = some i
        rw [hp]; exact hx
theorem OnLoop.dist {par : Nat → Option Nat} {i : Nat} (h : OnLoop par i) : ∃ d, Dist par i i d := by
  obtain ⟨j, hj⟩ := h
  induction j using Nat.strongRecOn with
  | _ j ih =>
    by_cases hx : ∃ e, e < j ∧ itp par (e + 1) i = some i
    · obtain ⟨e, h1, h2⟩ := hx; exact ih e h1 h2
    · exact ⟨j, hj, fun e he h2 => hx ⟨e, he, h2⟩⟩
theorem Dist.list {par : Nat → Option Nat} {i n : Nat} (hn : ∀ k k', par k = some k' → k' < n) : ∀ {d k : Nat}, k < n → Dist par i k d → ∃ l : List Nat, l.length = d + 1 ∧ l.Nodup ∧ (∀ x ∈ l, x < n) ∧ ∀ x ∈ l, ∃ e, e ≤ d ∧ Dist par i x e
  | 0, k, hk, h => ⟨[k], rfl, by simp, by simpa using hk, fun x hx => by simp at hx; subst hx; exact ⟨0, Nat.le_refl _, h⟩⟩
  | d + 1, k, hk, h => by
    obtain ⟨k', h1, h2⟩ := h.step
    rcases h2 with ⟨_, h2⟩ | ⟨_, e, h2, h3⟩
    · omega
    · have : e = d := by omega
      subst this
      obtain ⟨l, l1, l2, l3, l4⟩ := Dist.list hn (hn _ _ h1) h3
      refine ⟨k :: l, by simp [l1], List.nodup_cons.2 ⟨fun hm => ?_, l2⟩, fun x hx => ?_, fun x hx => ?_⟩
      · obtain ⟨f, f1, f2⟩ := l4 k hm
        have := f2.uniq h
        omega
      · rcases List.mem_cons.1 hx with rfl | hx
        · exact hk
        · exact l3 x hx
      · rcases List.mem_cons.1 hx with rfl | hx
        · exact ⟨e + 1, Nat.le_refl _, h⟩
        · obtain ⟨f, f1, f2⟩ := l4 x hx; exact ⟨f, by omega, f2⟩
theorem Dist.le {par : Nat → Option Nat} {i n d k : Nat} (hn : ∀ k k', par k = some k' → k' < n) (hk : k < n) (h : Dist par i k d) : d + 1 ≤ n := by
  obtain ⟨l, l1, l2, l3, _⟩ := h.list hn hk
  have := nodup_len n l l2 l3
  omega

/-- The chain above. -/
def anc (par : Nat → Option Nat) : Nat → Nat → List Nat
  | 0, _ => []
  | f + 1, i => match par i with
    | none => []
    | some k => k :: anc par f k
theorem anc_step {par : Nat → Option Nat} {f i k : Nat} (h : par i = some k) : anc par (f + 1) i = k :: anc par f k := by simp [anc, h]
theorem anc_none {par : Nat → Option Nat} {i : Nat} (h : par i = none) : ∀ f, anc par f i = []
  | 0 => rfl
  | f + 1 => by simp [anc, h]
theorem anc_mem {par : Nat → Option Nat} : ∀ {f i x : Nat}, x ∈ anc par f i → ∃ j, j < f ∧ itp par (j + 1) i = some x
  | 0, _, _, h => by simp [anc] at h
  | f + 1, i, x, h => by
    cases hp : par i with
    | none => simp [anc, hp] at h
    | some k =>
      rw [anc_step hp] at h
      rcases List.mem_cons.1 h with rfl | h
      · exact ⟨0, by omega, by simp [itp, hp]⟩
      · obtain ⟨j, h1, h2⟩ := anc_mem h
        exact ⟨j + 1, by omega, by show (par i).bind (itp par (j + 1)) = some x; rw [hp]; exact h2⟩
theorem anc_lt {par : Nat → Option Nat} {n : Nat} (hn : ∀ k k', par k = some k' → k' < n) : ∀ {f i x : Nat}, x ∈ anc par f i → x < n
  | 0, _, _, h => by simp [anc] at h
  | f + 1, i, x, h => by
    cases hp : par i with
    | none => simp [anc, hp] at h
    | some k =>
      rw [anc_step hp] at h
      rcases List.mem_cons.1 h with rfl | h
      · exact hn _ _ hp
      · exact anc_lt hn h
theorem anc_nodup {par : Nat → Option Nat} {n : Nat} (hn : ∀ k k', par k = some k' → k' < n) (hl : ∀ k, k < n → ¬ OnLoop par k) : ∀ {f i : Nat}, i < n → (i :: anc par f i).Nodup
  | 0, i, _ => by simp [anc]
  | f + 1, i, hi => by
    rw [List.nodup_cons]
    refine ⟨fun hm => ?_, ?_⟩
    · obtain ⟨j, _, hj⟩ := anc_mem hm
      exact hl i hi ⟨j, hj⟩
    · cases hp : par i with
      | none => simp [anc, hp]
      | some k =>
        rw [anc_step hp]
        exact anc_nodup hn hl (hn _ _ hp)
theorem anc_len {par : Nat → Option Nat} {n : Nat} (hn : ∀ k k', par k = some k' → k' < n) (hl : ∀ k, k < n → ¬ OnLoop par k) {f i : Nat} (hi : i < n) : (anc par f i).length < n := by
  have := nodup_len n (i :: anc par f i) (anc_nodup hn hl hi) (fun x hx => by
    rcases List.mem_cons.1 hx with rfl | hx
    · exact hi
    · exact anc_lt hn hx)
  simp at this; omega
theorem anc_short {par : Nat → Option Nat} : ∀ {f g i : Nat}, (anc par f i).length < f → f ≤ g → anc par g i = anc par f i
  | 0, _, _, h, _ => by simp [anc] at h
  | f + 1, g, i, h, hg => by
    obtain ⟨g, rfl⟩ : ∃ g', g = g' + 1 := ⟨g - 1, by omega⟩
    cases hp : par i with
    | none => rw [anc_none hp, anc_none hp]
    | some k =>
      rw [anc_step hp] at h ⊢
      rw [anc_step hp]
      rw [anc_short (f := f) (by simpa using h) (by omega)]

end Go.Md

namespace Go.Md
open Go.Dn

theorem slices_Contains_int_eq (l : List Int) (x : Int) (hl : l.length < 1000000000) : slices_Contains_int l x = some (decide (x ∈ l), ()) := by
  unfold slices_Contains_int slices_Index_int
  have loop : ∀ f, l.length < f → ∃ n : Int, iter f ((l, x, (l.length : Int), (0 : Int), ()) : slices_Index_int_x2) slices_Index_int_b2 = (if x ∈ l then some (Sum.inl (n, ())) else some (Sum.inr ())) ∧ 0 ≤ n := by
    intro f hf
    refine iter_post (Inv := fun i X => X = ((l, x, (l.length : Int), (i : Int), ()) : slices_Index_int_x2) ∧ ∀ j y, j < i → l[j]? = some y → y ≠ x) l.length
      (fun r => ∃ n : Int, r = (if x ∈ l then some (Sum.inl (n, ())) else some (Sum.inr ())) ∧ 0 ≤ n) ?_ ?_ f 0 _ ⟨rfl, fun _ _ h => absurd h (Nat.not_lt_zero _)⟩ (by omega) (by omega)
    · rintro i _ again hi ⟨rfl, hb⟩ ih
      unfold slices_Index_int_b2
      dsimp only
      have hy : l[i]? = some l[i] := getElem?_of hi
      generalize l[i] = y at hy
      rw [bif_pos (by omega), idx_nat, hy, Option.bind_some]
      by_cases he : x = y
      · rw [show (x == y) = true by simpa using he, cond_true]
        exact ⟨i, by rw [if_pos (he ▸ List.mem_of_getElem? hy)], by omega⟩
      · rw [show (x == y) = false by simpa using he, cond_false, w64_id (by omega) (by omega)]
        refine ih _ ⟨rfl, fun j z hj hz => ?_⟩
        rcases Nat.lt_succ_iff_lt_or_eq.1 hj with h | h
        · exact hb j z h hz
        · subst h; rw [hy] at hz; cases hz; exact fun e => he e.symm
    · rintro _ again ⟨rfl, hb⟩
      unfold slices_Index_int_b2
      dsimp only
      rw [bif_neg (by omega)]
      refine ⟨0, ?_, Int.le_refl _⟩
      rw [if_neg]
      intro hm
      obtain ⟨j, hj⟩ := List.mem_iff_getElem?.1 hm
      exact hb j x (List.getElem?_eq_some_iff.1 hj).1 hj rfl
  obtain ⟨n, h1, h2⟩ := loop (List.length l + (Int.natAbs x + (Int.natAbs ((List.length l : Int)) + (Int.natAbs (0 : Int) + 2)))) (by omega)
  rw [h1]
  by_cases hm : x ∈ l
  · rw [if_pos hm, joinB_inl, Option.bind_some, decide_eq_true hm]
    congr 2
    exact decide_eq_true h2
  · rw [if_neg hm, joinB_inr, Option.bind_some, decide_eq_false hm]
    rfl

/-- Digits. -/
def digC (c : UInt8) : Bool := decide (48 ≤ c.toNat) && decide (c.toNat ≤ 57)
theorem digC_not {c : UInt8} : (decide ((c.toNat : Int) < 48) = false ∧ decide ((c.toNat : Int) > 57) = false) ↔ digC c = true := by
  simp only [digC, Bool.and_eq_true, decide_eq_true_eq, decide_eq_false_iff_not]
  omega
theorem kit_IsDigits_eq (s : List UInt8) (hs : s.length ≤ 9223372036854775807) : kit_IsDigits s = some (decide (s ≠ []) && s.all digC, ()) := by
  unfold kit_IsDigits kit_InBytes
  by_cases h0 : s = []
  · subst h0; rfl
  · rw [show (!(s == [])) = true by cases s <;> simp_all, cond_true, decide_eq_true h0, Bool.true_and]
    have loop : ∀ f, s.length < f → iter f ((s, (48 : Int), (57 : Int), (s.length : Int), (0 : Int), ()) : kit_InBytes_x2) kit_InBytes_b2 = (if s.all digC = true then some (Sum.inr ()) else some (Sum.inl (false, ()))) := by
      intro f hf
      refine iter_post (Inv := fun i X => X = ((s, (48 : Int), (57 : Int), (s.length : Int), (i : Int), ()) : kit_InBytes_x2) ∧ (s.take i).all digC = true) s.length
        (fun r => r = (if s.all digC = true then some (Sum.inr ()) else some (Sum.inl (false, ())))) ?_ ?_ f 0 _ ⟨rfl, by simp⟩ (by omega) (by omega)
      · rintro i _ again hi ⟨rfl, hb⟩ ih
        unfold kit_InBytes_b2
        dsimp only
        have hy : s[i]? = some s[i] := getElem?_of hi
        have hym : s[i] ∈ s := List.getElem_mem hi
        generalize s[i] = y at hy hym
        rw [bif_pos (by omega), sidx_get hy, Option.bind_some, Option.bind_some, w64_id (by omega) (by omega)]
        cases hd : digC y with
        | true =>
          obtain ⟨h1, h2⟩ := digC_not.2 hd
          rw [h1, h2, cond_false, cond_false]
          refine ih _ ⟨rfl, ?_⟩
          rw [take_succ_get hy]
          simp [hb, hd]
        | false =>
          have hall : s.all digC = false := by
            rw [List.all_eq_false]
            exact ⟨y, hym, by simp [hd]⟩
          rw [hall]
          cases h1 : decide ((y.toNat : Int) < 48) with
          | true => rfl
          | false =>
            cases h2 : decide ((y.toNat : Int) > 57) with
            | true => rfl
            | false => have := digC_not.1 ⟨h1, h2⟩; rw [hd] at this; cases this
      · rintro _ again ⟨rfl, hb⟩
        unfold kit_InBytes_b2
        dsimp only
        rw [bif_neg (by omega)]
        rw [List.take_of_length_le (Nat.le_refl _)] at hb
        rw [if_pos hb]
    rw [loop _ (by omega)]
    cases s.all digC <;> rfl
theorem r1_isDigits_eq (s : List UInt8) (hs : s.length ≤ 9223372036854775807) : r1_isDigits s = some (decide (s ≠ []) && s.all digC, ()) := by
  unfold r1_isDigits
  by_cases h0 : s = []
  · subst h0; rfl
  · rw [show (s == []) = false by cases s <;> simp_all, cond_false, decide_eq_true h0, Bool.true_and]
    have loop : ∀ f, s.length < f → iter f ((s, (s.length : Int), (0 : Int), ()) : r1_isDigits_x4) r1_isDigits_b4 = (if s.all digC = true then some (Sum.inr ()) else some (Sum.inl (false, ()))) := by
      intro f hf
      refine iter_post (Inv := fun i X => X = ((s, (s.length : Int), (i : Int), ()) : r1_isDigits_x4) ∧ (s.take i).all digC = true) s.length
        (fun r => r = (if s.all digC = true then some (Sum.inr ()) else some (Sum.inl (false, ())))) ?_ ?_ f 0 _ ⟨rfl, by simp⟩ (by omega) (by omega)
      · rintro i _ again hi ⟨rfl, hb⟩ ih
        unfold r1_isDigits_b4
        dsimp only
        have hy : s[i]? = some s[i] := getElem?_of hi
        have hym : s[i] ∈ s := List.getElem_mem hi
        generalize s[i] = y at hy hym
        rw [bif_pos (by omega), sidx_get hy, Option.bind_some, Option.bind_some, w64_id (by omega) (by omega)]
        cases hd : digC y with
        | true =>
          obtain ⟨h1, h2⟩ := digC_not.2 hd
          rw [h1, h2, cond_false, cond_false]
          refine ih _ ⟨rfl, ?_⟩
          rw [take_succ_get hy]
          simp [hb, hd]
        | false =>
          have hall : s.all digC = false := by
            rw [List.all_eq_false]
            exact ⟨y, hym, by simp [hd]⟩
          rw [hall]
          cases h1 : decide ((y.toNat : Int) < 48) with
          | true => rfl
          | false =>
            cases h2 : decide ((y.toNat : Int) > 57) with
            | true => rfl
            | false => have := digC_not.1 ⟨h1, h2⟩; rw [hd] at this; cases this
      · rintro _ again ⟨rfl, hb⟩
        unfold r1_isDigits_b4
        dsimp only
        rw [bif_neg (by omega)]
        rw [List.take_of_length_le (Nat.le_refl _)] at hb
        rw [if_pos hb]
    rw [loop _ (by omega)]
    cases s.all digC <;> rfl

theorem threes_some (s : List UInt8) (hs : s.length ≤ 100) : ∃ b, r1_threes s = some (b, ()) := by
  unfold r1_threes
  have loop : ∀ f, s.length < f → ∃ n : Int, iter f ((s, (0 : Int), (s.length : Int), (0 : Int), ()) : r1_threes_x3) r1_threes_b3 = some (Sum.inr (n, ())) := by
    intro f hf
    refine iter_post (Inv := fun i X => ∃ n : Int, X = ((s, n, (s.length : Int), (i : Int), ()) : r1_threes_x3)) s.length
      (fun r => ∃ n : Int, r = some (Sum.inr (n, ()))) ?_ ?_ f 0 _ ⟨0, rfl⟩ (by omega) (by omega)
    · rintro i _ again hi ⟨n, rfl⟩ ih
      unfold r1_threes_b3
      dsimp only
      have e : w64 (w64 ((s.length : Int) - 1) - (i : Int)) = ((s.length - 1 - i : Nat) : Int) := by
        rw [w64_id (n := (s.length : Int) - 1) (by omega) (by omega), w64_id (by omega) (by omega)]; omega
      have hy : s[s.length - 1 - i]? = some (s[s.length - 1 - i]'(by omega)) := getElem?_of (by omega)
      rw [bif_pos (by omega), e, sidx_get hy, Option.bind_some, w64_id (n := (i : Int) + 1) (by omega) (by omega)]
      cases (Int.tmod (i : Int) 2 == 1) with
      | true => rw [cond_true]; exact ih _ ⟨_, rfl⟩
      | false => rw [cond_false]; exact ih _ ⟨_, rfl⟩
    · rintro _ again ⟨n, rfl⟩
      unfold r1_threes_b3
      dsimp only
      rw [bif_neg (by omega)]
      exact ⟨n, rfl⟩
  obtain ⟨n, h⟩ := loop (List.length s + (Int.natAbs (0 : Int) + (Int.natAbs ((List.length s : Int)) + (Int.natAbs (0 : Int) + 2)))) (by omega)
  rw [h]
  exact ⟨_, rfl⟩

/-- A label. -/
def lbl (s : List UInt8) : Bool := decide (s.length = 18) && (s.all digC && ((r1_threes s).map (·.1)).getD false)
theorem parcel_isLabel_eq (s : List UInt8) (hs : s.length ≤ 9223372036854775807) : parcel_isLabel s = some (lbl s, ()) := by
  unfold parcel_isLabel amount_IsNumber amount_isKind amount_isNumber amount_lengths
  rw [kit_Outside_eq, Option.bind_some, Option.bind_some]
  dsimp only
  rw [show (!(!(decide ((3 : Int) < 1 ∨ (5 : Int) < 3)))) = false by decide, cond_false, show ((3 : Int) == 4) = false from rfl, show ((3 : Int) == 5) = false from rfl, show ((3 : Int) == 1) = false from rfl, show ((3 : Int) == 2) = false from rfl]
  simp only [cond_false, Option.bind_some]
  rw [slices_Contains_int_eq _ _ (by decide), Option.bind_some, kit_IsDigits_eq s hs]
  unfold lbl
  by_cases hl : s.length = 18
  · obtain ⟨b, hb⟩ := threes_some s (by omega)
    have hb2 : amount_isSum s = some (b, ()) := hb
    have hne : s ≠ [] := fun e => by subst e; cases hl
    rw [decide_eq_true (show (s.length : Int) ∈ [18] by simp; omega), cond_true, Option.bind_some, decide_eq_true hne, Bool.true_and, decide_eq_true hl, Bool.true_and, hb2, hb]
    cases s.all digC <;> simp
  · rw [decide_eq_false (show ¬ (s.length : Int) ∈ [18] by simp; omega), decide_eq_false hl]
    rfl
theorem r10_isLabel_eq (s : List UInt8) (hs : s.length ≤ 9223372036854775807) : r10_isLabel s = some (lbl s, ()) := by
  unfold r10_isLabel r1_IsNumber r1_isKind r1_isNumber
  rw [r1_within_eq, Option.bind_some, Option.bind_some]
  dsimp only
  rw [show (!(decide ((1 : Int) ≤ 3 ∧ (3 : Int) ≤ 5))) = false by decide, cond_false, show ((3 : Int) == 1) = false from rfl, show ((3 : Int) == 2) = false from rfl, show ((3 : Int) == 3) = true from rfl]
  simp only [cond_false, cond_true]
  rw [r1_isDigits_eq s hs, Option.bind_some]
  unfold lbl
  by_cases hl : s.length = 18
  · obtain ⟨b, hb⟩ := threes_some s (by omega)
    have hne : s ≠ [] := fun e => by subst e; cases hl
    rw [decide_eq_true hne, Bool.true_and, decide_eq_true hl, Bool.true_and, hb, show ((s.length : Int) == 18) = true by rw [hl]; rfl]
    cases s.all digC <;> simp
  · rw [decide_eq_false hl, show ((s.length : Int) == 18) = false by rw [beq_eq_false_iff_ne]; omega]
    cases (decide (s ≠ []) && s.all digC) <;> rfl

/-- A quantity. -/
def qOk (d : D_api_Decimal) (zero : Bool) : Bool := inR d 0 1000000000 3 && (!(d.1 == 0) || zero)
theorem order_within_eq {d : D_api_Decimal} (hd : DecOk d) : order_within d 3 1000000000 = some (inR d 0 1000000000 3, ()) := by
  unfold order_within
  have hp := pow10_pos d.2.toNat
  have hp2 : (10 : Int) ^ d.2.toNat ≤ 1000000000 := by
    have := Nat.pow_le_pow_right (n := 10) (by omega) (show d.2.toNat ≤ 9 by have := hd.2.2; omega)
    have h2 := Int.ofNat_le.2 this
    simpa using h2
  rw [order_power_eq d.2 hd.2.1 (by have := hd.2.2; omega)]
  have e : inR d 0 1000000000 3 = (decide (d.2 ≤ 3) && (decide (d.1 ≥ 0) && decide (d.1 ≤ 1000000000 * 10 ^ d.2.toNat))) := by
    unfold inR
    rw [← Bool.decide_and, ← Bool.decide_and, decide_eq_decide, Int.zero_mul]
    constructor
    · rintro ⟨_, h2, h3, h4⟩; exact ⟨h2, h3, h4⟩
    · rintro ⟨h2, h3, h4⟩; exact ⟨hd, h2, h3, h4⟩
  rw [e, Option.bind_some, w64_id (n := 1000000000 * 10 ^ d.2.toNat) (by omega) (by omega)]
  cases decide (d.2 ≤ 3) <;> cases decide (d.1 ≥ 0) <;> cases decide (d.1 ≤ 1000000000 * 10 ^ d.2.toNat) <;> rfl
theorem order_QuantityFault_eq (d : D_api_Decimal) (z : Bool) : order_QuantityFault d z = some (if qOk d z = true then 0 else 1, ()) := by
  unfold order_QuantityFault qOk
  rw [amount_CheckDecimal_eq', Option.bind_some]
  by_cases hd : DecOk d
  · rw [order_within_eq hd, if_pos hd]
    dsimp only
    rw [show ((0 : Int) != 0) = false from rfl, cond_false, Option.bind_some]
    cases inR d 0 1000000000 3 <;> cases (d.1 == 0) <;> cases z <;> rfl
  · have : inR d 0 1000000000 3 = false := by unfold inR; simp [hd]
    simp [hd, this]
theorem r10_isMass_eq (d : D_api_Decimal) (above : Bool) : r10_isMass d above = some (qOk d (!above), ()) := by
  unfold r10_isMass qOk
  rw [r1_CheckDecimal_eq', Option.bind_some]
  by_cases hd : DecOk d
  · have h2 : DecOk (1000000000, 0) := by decide
    have hc : r10_cmp d (1000000000, 0) = some ((dec9 d - dec9 (1000000000, 0)).sign, ()) := r11_cmp_eq hd h2
    have e9 : dec9 (1000000000, 0) = 1000000000 * 10 ^ 9 := rfl
    have hs : decide ((dec9 d - dec9 (1000000000, 0)).sign ≤ 0) = decide (d.1 ≤ 1000000000 * 10 ^ d.2.toNat) := by
      rw [decide_eq_decide, ← dec9_le hd.2.1 hd.2.2, ← e9, Int.sign_nonpos_iff]; omega
    rw [hc, if_pos hd]
    dsimp only
    rw [show ((0 : Int) == 0) = true from rfl, cond_true, Option.bind_some]
    dsimp only
    rw [hs]
    have e : inR d 0 1000000000 3 = (decide (d.2 ≤ 3) && (decide (d.1 ≥ 0) && decide (d.1 ≤ 1000000000 * 10 ^ d.2.toNat))) := by
      unfold inR
      rw [← Bool.decide_and, ← Bool.decide_and, decide_eq_decide, Int.zero_mul]
      constructor
      · rintro ⟨_, h2, h3, h4⟩; exact ⟨h2, h3, h4⟩
      · rintro ⟨h2, h3, h4⟩; exact ⟨hd, h2, h3, h4⟩
    have hz : (d.1 == 0) = (decide (d.1 ≥ 0) && !decide (d.1 > 0)) := by
      by_cases h : d.1 = 0
      · rw [show (d.1 == 0) = true by simpa using h, h]; rfl
      · rw [show (d.1 == 0) = false by simpa using h]
        by_cases h3 : d.1 > 0
        · simp [h3]
        · have : ¬ d.1 ≥ 0 := by omega
          simp [this]
    rw [e, hz]
    have himp : d.1 > 0 → d.1 ≥ 0 := fun h => by omega
    cases h5 : decide (d.1 > 0) <;> cases decide (d.2 ≤ 3) <;> cases h6 : decide (d.1 ≥ 0) <;> cases decide (d.1 ≤ 1000000000 * 10 ^ d.2.toNat) <;> cases above <;> simp_all
  · have : inR d 0 1000000000 3 = false := by unfold inR; simp [hd]
    simp [hd, this]

end Go.Md

namespace Go.Md
open Go.Dn

theorem r10_parcelOf_eq (l : List D_api_Parcel) (t : List UInt8) (hl : l.length < 1000000000) : r10_parcelOf l t = some (ixI (ixOf (·.1) t l), ()) := by
  unfold r10_parcelOf
  have loop : ∀ f, l.length < f → iter f ((t, l, (l.length : Int), (0 : Int), ()) : r10_parcelOf_x2) r10_parcelOf_b2 = (match ixOf (·.1) t l with | some k => some (Sum.inl ((k : Int), ())) | none => some (Sum.inr ())) := by
    intro f hf
    refine iter_post (Inv := fun i X => X = ((t, l, (l.length : Int), (i : Int), ()) : r10_parcelOf_x2) ∧ ∀ j x, j < i → l[j]? = some x → x.1 ≠ t) l.length
      (fun r => r = (match ixOf (·.1) t l with | some k => some (Sum.inl ((k : Int), ())) | none => some (Sum.inr ()))) ?_ ?_ f 0 _ ⟨rfl, fun _ _ h => absurd h (Nat.not_lt_zero _)⟩ (by omega) (by omega)
    · rintro i _ again hi ⟨rfl, hb⟩ ih
      unfold r10_parcelOf_b2
      dsimp only
      have hy : l[i]? = some l[i] := getElem?_of hi
      generalize l[i] = y at hy
      rw [bif_pos (by omega), idx_nat, hy, Option.bind_some]
      by_cases he : y.1 = t
      · rw [show (y.1 == t) = true by simpa using he, cond_true]
        have : ixOf (·.1) t l = some i := by
          unfold ixOf
          rw [List.findIdx?_eq_some_iff_getElem]
          refine ⟨hi, ?_, fun j hj => ?_⟩
          · have := (List.getElem?_eq_some_iff.1 hy).2
            rw [this]; simpa using he
          · have := hb j l[j] hj (List.getElem?_eq_getElem _)
            simpa using this
        rw [this]
      · rw [show (y.1 == t) = false by simpa using he, cond_false, w64_id (by omega) (by omega)]
        refine ih _ ⟨rfl, fun j x hj hx => ?_⟩
        rcases Nat.lt_succ_iff_lt_or_eq.1 hj with h | h
        · exact hb j x h hx
        · subst h; rw [hy] at hx; cases hx; exact he
    · rintro _ again ⟨rfl, hb⟩
      unfold r10_parcelOf_b2
      dsimp only
      rw [bif_neg (by omega)]
      have : ixOf (·.1) t l = none := by
        unfold ixOf
        rw [List.findIdx?_eq_none_iff]
        intro x hx
        obtain ⟨j, hj⟩ := List.mem_iff_getElem?.1 hx
        have := hb j x (List.getElem?_eq_some_iff.1 hj).1 hj
        simpa using this
      rw [this]
  rw [loop _ (by omega)]
  cases ixOf (·.1) t l <;> rfl

theorem bsearch_Parcel (l : List D_api_Parcel) (t : List UInt8) (hl : l.length < 1000000000) (hs : Asc (·.1) l) :
    ∃ i : Nat, slices_BinarySearchFunc_api_Parcel_string l t () = some ((i : Int), (ixOf (·.1) t l).isSome, ()) ∧ ∀ k, ixOf (·.1) t l = some k → i = k := by
  unfold slices_BinarySearchFunc_api_Parcel_string
  have loop : ∀ f, l.length < f → ∃ i : Nat, iter f ((l, t, (), (l.length : Int), (0 : Int), (l.length : Int), ()) : slices_BinarySearchFunc_api_Parcel_string_x3) slices_BinarySearchFunc_api_Parcel_string_b3 = some (Sum.inr (l, t, (), (l.length : Int), (i : Int), ())) ∧ i ≤ l.length ∧ (∀ k x, l[k]? = some x → k < i → Op.bytesLess x.1 t = true) ∧ ∀ k x, l[k]? = some x → i ≤ k → Op.bytesLess x.1 t = false := by
    intro f hf
    refine iter_meas (Inv := fun X => ∃ i j : Nat, X = ((l, t, (), (l.length : Int), (i : Int), (j : Int), ()) : slices_BinarySearchFunc_api_Parcel_string_x3) ∧ i ≤ j ∧ j ≤ l.length ∧ (∀ k x, l[k]? = some x → k < i → Op.bytesLess x.1 t = true) ∧ ∀ k x, l[k]? = some x → j ≤ k → Op.bytesLess x.1 t = false)
      (fun X => (X.2.2.2.2.2.1 - X.2.2.2.2.1).toNat)
      (fun _ r => ∃ i : Nat, r = some (Sum.inr (l, t, (), (l.length : Int), (i : Int), ())) ∧ i ≤ l.length ∧ (∀ k x, l[k]? = some x → k < i → Op.bytesLess x.1 t = true) ∧ ∀ k x, l[k]? = some x → i ≤ k → Op.bytesLess x.1 t = false) ?_ f _ ⟨0, l.length, rfl, by omega, by omega, fun _ _ _ h => absurd h (Nat.not_lt_zero _), fun k x hk hle => by have := (List.getElem?_eq_some_iff.1 hk).1; omega⟩ (by dsimp only; omega)
    rintro _ again ⟨i, j, rfl, hij, hj, h1, h2⟩ ih
    dsimp only at ih
    unfold slices_BinarySearchFunc_api_Parcel_string_b3
    dsimp only
    by_cases hlt : i < j
    · rw [bif_pos (by omega)]
      have em : w64 (Int.fdiv (wu64 (w64 ((i : Int) + (j : Int)))) (2 ^ 1)) = (((i + j) / 2 : Nat) : Int) := by
        rw [w64_id (n := (i : Int) + (j : Int)) (by omega) (by omega), wu64_id (by omega) (by omega), Int.fdiv_eq_ediv_of_nonneg _ (by omega), w64_id (by omega) (by omega)]
        omega
      rw [em]
      have hm : (i + j) / 2 < l.length := by omega
      have hy : l[(i + j) / 2]? = some l[(i + j) / 2] := getElem?_of hm
      have hmi : i ≤ (i + j) / 2 ∧ (i + j) / 2 < j := by omega
      generalize (i + j) / 2 = m at *
      generalize l[m] = y at hy
      rw [idx_nat, hy, Option.bind_some]
      show ∃ i, Option.bind (Option.bind (some (Lib.compareBytes y.1 t, ())) fun r1 => some (r1.1, ())) _ = _ ∧ _
      rw [Option.bind_some, Option.bind_some]
      dsimp only
      by_cases hc : Lib.compareBytes y.1 t < 0
      · rw [bif_pos hc, w64_id (by omega) (by omega)]
        refine ih _ ⟨m + 1, j, rfl, by omega, hj, fun k x hk hkm => ?_, h2⟩ (by dsimp only; omega)
        rcases Nat.lt_succ_iff_lt_or_eq.1 hkm with h | h
        · have := hs k m x y h hk hy
          exact bless_trans this (cmpB_neg.1 hc)
        · subst h; rw [hy] at hk; cases hk; exact cmpB_neg.1 hc
      · rw [bif_neg hc]
        refine ih _ ⟨i, m, rfl, by omega, by omega, h1, fun k x hk hkm => ?_⟩ (by dsimp only; omega)
        have hc' : Op.bytesLess y.1 t = false := by
          cases h : Op.bytesLess y.1 t with
          | false => rfl
          | true => exact absurd (cmpB_neg.2 h) hc
        rcases Nat.lt_or_eq_of_le hkm with h | h
        · cases hx : Op.bytesLess x.1 t with
          | false => rfl
          | true => rw [bless_trans (hs m k y x h hy hk) hx] at hc'; cases hc'
        · subst h; rw [hy] at hk; cases hk; exact hc'
    · rw [bif_neg (by omega)]
      have : i = j := by omega
      subst this
      exact ⟨i, rfl, hj, h1, h2⟩
  obtain ⟨i, h1, h2, h3, h4⟩ := loop (List.length l + (List.length t + (Int.natAbs ((List.length l : Int)) + (Int.natAbs (0 : Int) + (Int.natAbs ((List.length l : Int)) + 2))))) (by omega)
  refine ⟨i, ?_, fun k hk => ?_⟩
  · rw [h1, joinB_inr]
    dsimp only
    by_cases hi : i < l.length
    · have hy : l[i]? = some l[i] := getElem?_of hi
      generalize l[i] = y at hy
      rw [bif_pos (by omega), idx_nat, hy, Option.bind_some]
      show Option.bind (Option.bind (some (Lib.compareBytes y.1 t, ())) fun r1 => some (r1.1, ())) _ = _
      rw [Option.bind_some, Option.bind_some]
      congr 3
      by_cases he : y.1 = t
      · rw [ixOf_of hs hy he, cmpB_zero.2 he]; rfl
      · have hne : ¬ Lib.compareBytes y.1 t = 0 := fun h => he (cmpB_zero.1 h)
        rw [show (Lib.compareBytes y.1 t == 0) = false by simpa using hne]
        cases hx : ixOf (·.1) t l with
        | none => rfl
        | some k =>
          exfalso
          obtain ⟨x, k1, k2⟩ := ixOf_some hx
          rcases Nat.lt_trichotomy k i with h | h | h
          · have := h3 k x k1 h; rw [k2, bless_irrefl] at this; cases this
          · subst h; rw [hy] at k1; cases k1; exact he k2
          · have := hs i k y x h hy k1
            dsimp only at this
            rw [k2, h4 i y hy (Nat.le_refl _)] at this; cases this
    · rw [bif_neg (by omega)]
      congr 3
      cases hx : ixOf (·.1) t l with
      | none => rfl
      | some k =>
        exfalso
        obtain ⟨x, k1, k2⟩ := ixOf_some hx
        have := h3 k x k1 (by have := (List.getElem?_eq_some_iff.1 k1).1; omega)
        rw [k2, bless_irrefl] at this; cases this
  · obtain ⟨x, k1, k2⟩ := ixOf_some hk
    rcases Nat.lt_trichotomy k i with h | h | h
    · have := h3 k x k1 h; rw [k2, bless_irrefl] at this; cases this
    · exact h.symm
    · have hy : l[i]? = some (l[i]'(by have := (List.getElem?_eq_some_iff.1 k1).1; omega)) := getElem?_of _
      have := hs i k _ x h hy k1
      dsimp only at this
      rw [k2, h4 i _ hy (Nat.le_refl _)] at this; cases this

theorem parcel_parcelAt_eq (a : D_api_Advice) (t : List UInt8) (hl : a.2.2.2.length < 1000000000) (hs : Asc (·.1) a.2.2.2) :
    ∃ i : Nat, parcel_parcelAt a t = some ((i : Int), (ixOf (·.1) t a.2.2.2).isSome, ()) ∧ ∀ k, ixOf (·.1) t a.2.2.2 = some k → i = k := by
  obtain ⟨i, h1, h2⟩ := bsearch_Parcel a.2.2.2 t hl hs
  exact ⟨i, by unfold parcel_parcelAt; rw [h1, Option.bind_some], h2⟩

def cOrd (a b : D_api_Content) : Int := scanF (fun _ y => y) 0 [Lib.compareBytes a.1 b.1, Lib.compareBytes a.2.1 b.2.1, Lib.compareBytes a.2.2.1 b.2.2.1]
theorem cmp_Or_eq (l : List Int) (hl : l.length < 1000) : cmp_Or_int l = some (scanF (fun _ y => y) 0 l, ()) := by
  unfold cmp_Or_int
  rw [iter_scan0 (f := cmp_Or_int_b3) (fun i => (((0 : Int), l, (l.length : Int), (i : Int), ()) : cmp_Or_int_x3)) l (fun _ y => y) (0, ()) ?_ ?_ ?_ _ ?_]
  · exact (scanJ2 _ _ _ 0 rfl).trans (by
      by_cases h : scanF (fun _ y => y) 0 l = 0
      · rw [if_neg (by simpa using h), h]
      · rw [if_pos h])
  · rfl
  · intro i y again hy
    have hi := (List.getElem?_eq_some_iff.1 hy).1
    unfold cmp_Or_int_b3
    dsimp only
    rw [bif_pos (by omega), idx_nat, hy, Option.bind_some, w64_id (by omega) (by omega)]
    by_cases h : y = 0
    · subst h; rfl
    · rw [show (y != 0) = true by simpa using h, cond_true, if_neg h]
  · intro again
    unfold cmp_Or_int_b3
    dsimp only
    rw [bif_neg (by omega)]
  · omega
theorem parcel_compareContents_eq (a b : D_api_Content) : parcel_compareContents a b = some (cOrd a b, ()) := by
  unfold parcel_compareContents strings_Compare cOrd
  simp only [Option.bind_some]
  rw [cmp_Or_eq _ (by simp), Option.bind_some]
theorem r10_contentOrder_eq (a b : D_api_Content) : r10_contentOrder a b = some (cOrd a b, ()) := by
  unfold r10_contentOrder strings_Compare cOrd
  simp only [Option.bind_some]
  generalize hL : [Lib.compareBytes a.1 b.1, Lib.compareBytes a.2.1 b.2.1, Lib.compareBytes a.2.2.1 b.2.2.1] = l
  have hl : l.length = 3 := by subst hL; rfl
  rw [iter_scan0 (f := r10_contentOrder_b2) (fun i => ((l, (l.length : Int), (i : Int), ()) : r10_contentOrder_x2)) l (fun _ y => y) () ?_ ?_ ?_ _ ?_]
  · exact scanJ _ _
  · rfl
  · intro i y again hy
    have hi := (List.getElem?_eq_some_iff.1 hy).1
    unfold r10_contentOrder_b2
    dsimp only
    rw [bif_pos (by omega), idx_nat, hy, Option.bind_some, w64_id (by omega) (by omega)]
    by_cases h : y = 0
    · subst h; rfl
    · rw [show (y != 0) = true by simpa using h, cond_true, if_neg h]
  · intro again
    unfold r10_contentOrder_b2
    dsimp only
    rw [bif_neg (by omega)]
  · omega

/-- What is wrong with contents. -/
def prevC (l : List D_api_Content) (i : Nat) (y : D_api_Content) : Bool := match i with
  | 0 => false
  | i + 1 => match l[i]? with
    | some p => decide (cOrd p y ≥ 0)
    | none => false
def contF (l : List D_api_Content) (i : Nat) (c : D_api_Content) : Int :=
  if isNm c.1 = false then 5 else if isNm c.2.1 = false then 5 else if (!(c.2.2.1 == []) && !isNm c.2.2.1) = true then 5
  else if prevC l i c = true then 8 else if qOk c.2.2.2 false = true then 0 else 1
def contsF (l : List D_api_Content) : Int := if 100 < l.length then 2 else scanF (contF l) 0 l

theorem prev_idx' {α : Type} {l : List α} {i : Nat} (hi : i < l.length) (hl : l.length < 1000000000) : idx l (w64 (((i + 1 : Nat) : Int) - 1)) = l[i]? := by
  rw [w64_id (by omega) (by omega), show ((i + 1 : Nat) : Int) - 1 = ((i : Nat) : Int) by omega, idx_nat]

theorem parcel_contentsFault_eq (l : List D_api_Content) : parcel_contentsFault l = some (contsF l, ()) := by
  unfold parcel_contentsFault contsF
  by_cases hb : 100 < l.length
  · rw [bif_pos (by omega), if_pos hb]
  · rw [bif_neg (by omega), if_neg hb]
    rw [iter_scan0 (f := parcel_contentsFault_b4) (fun i => ((l, l, (l.length : Int), (i : Int), ()) : parcel_contentsFault_x4)) l (contF l) () ?_ ?_ ?_ _ ?_]
    · exact scanJ _ _
    · rfl
    · intro i y again hy
      have hi := (List.getElem?_eq_some_iff.1 hy).1
      unfold parcel_contentsFault_b4
      dsimp only
      rw [bif_pos (by omega), idx_nat, hy, Option.bind_some]
      simp only [kit_IsName_eq, Option.bind_some, order_QuantityFault_eq, parcel_compareContents_eq]
      have hw : w64 ((i : Int) + 1) = ((i + 1 : Nat) : Int) := by rw [w64_id (by omega) (by omega)]; omega
      rw [hw]
      unfold contF
      generalize qOk y.2.2.2 false = q
      cases i with
      | zero =>
        simp only [prevC]
        cases isNm y.1 <;> cases isNm y.2.1 <;> cases (y.2.2.1 == []) <;> cases isNm y.2.2.1 <;> cases q <;> simp
      | succ i =>
        have hp : l[i]? = some (l[i]'(by omega)) := getElem?_of (by omega)
        have ep : prevC l (i + 1) y = decide (cOrd (l[i]'(by omega)) y ≥ 0) := by simp only [prevC, hp]
        have hpos : decide (((i + 1 : Nat) : Int) > 0) = true := by simp
        rw [prev_idx' (by omega) (by omega), hp, ep, hpos]
        simp only [Option.bind_some, cond_true]
        generalize decide (cOrd (l[i]'(by omega)) y ≥ 0) = p
        cases isNm y.1 <;> cases isNm y.2.1 <;> cases (y.2.2.1 == []) <;> cases isNm y.2.2.1 <;> cases q <;> cases p <;> simp
    · intro again
      unfold parcel_contentsFault_b4
      dsimp only
      rw [bif_neg (by omega)]
    · omega
theorem r10_checkContents_eq (l : List D_api_Content) : r10_checkContents l = some (contsF l, ()) := by
  unfold r10_checkContents contsF
  by_cases hb : 100 < l.length
  · rw [bif_pos (by omega), if_pos hb]
  · rw [bif_neg (by omega), if_neg hb]
    rw [iter_scan0 (f := r10_checkContents_b4) (fun i => ((l, l, (l.length : Int), (i : Int), ()) : r10_checkContents_x4)) l (contF l) () ?_ ?_ ?_ _ ?_]
    · exact scanJ _ _
    · rfl
    · intro i y again hy
      have hi := (List.getElem?_eq_some_iff.1 hy).1
      unfold r10_checkContents_b4
      dsimp only
      rw [bif_pos (by omega), idx_nat, hy, Option.bind_some]
      simp only [r1_IsName_eq, Option.bind_some, r10_isMass_eq, r10_contentOrder_eq, Bool.not_true]
      have hw : w64 ((i : Int) + 1) = ((i + 1 : Nat) : Int) := by rw [w64_id (by omega) (by omega)]; omega
      rw [hw]
      unfold contF
      generalize qOk y.2.2.2 false = q
      cases i with
      | zero =>
        simp only [prevC]
        cases isNm y.1 <;> cases isNm y.2.1 <;> cases (y.2.2.1 == []) <;> cases isNm y.2.2.1 <;> cases q <;> simp
      | succ i =>
        have hp : l[i]? = some (l[i]'(by omega)) := getElem?_of (by omega)
        have ep : prevC l (i + 1) y = decide (cOrd (l[i]'(by omega)) y ≥ 0) := by simp only [prevC, hp]
        have hpos : decide (((i + 1 : Nat) : Int) > 0) = true := by simp
        rw [prev_idx' (by omega) (by omega), hp, ep, hpos]
        simp only [Option.bind_some, cond_true]
        generalize decide (cOrd (l[i]'(by omega)) y ≥ 0) = p
        cases isNm y.1 <;> cases isNm y.2.1 <;> cases (y.2.2.1 == []) <;> cases isNm y.2.2.1 <;> cases q <;> cases p <;> simp
    · intro again
      unfold r10_checkContents_b4
      dsimp only
      rw [bif_neg (by omega)]
    · omega

/-- What is wrong with a parcel. -/
def prevP (l : List D_api_Parcel) (i : Nat) (y : D_api_Parcel) : Bool := match i with
  | 0 => false
  | i + 1 => match l[i]? with
    | some p => Op.bytesLess y.1 p.1 || y.1 == p.1
    | none => false
def parcF (l : List D_api_Parcel) (i : Nat) (p : D_api_Parcel) : Int :=
  if lbl p.1 = false then 3 else if prevP l i p = true then 8 else if qOk p.2.2.1 true = false then 1 else contsF p.2.2.2
theorem parcel_parcelFault_eq (l : List D_api_Parcel) (i : Nat) (y : D_api_Parcel) (hy : l[i]? = some y) (hl : l.length < 1000000000) (hs : y.1.length ≤ 9223372036854775807) : parcel_parcelFault l (i : Int) = some (parcF l i y, ()) := by
  have hi := (List.getElem?_eq_some_iff.1 hy).1
  unfold parcel_parcelFault parcF
  rw [idx_nat, hy, Option.bind_some, parcel_isLabel_eq _ hs]
  simp only [Option.bind_some, order_QuantityFault_eq, parcel_contentsFault_eq]
  cases i with
  | zero =>
    simp only [prevP]
    cases lbl y.1 <;> cases qOk y.2.2.1 true <;> simp
  | succ i =>
    have hp : l[i]? = some (l[i]'(by omega)) := getElem?_of (by omega)
    have ep : prevP l (i + 1) y = (Op.bytesLess y.1 (l[i]'(by omega)).1 || y.1 == (l[i]'(by omega)).1) := by simp only [prevP, hp]
    have hpos : decide (((i + 1 : Nat) : Int) > 0) = true := by simp
    rw [prev_idx' (by omega) hl, hp, ep, hpos]
    simp only [Option.bind_some, cond_true]
    generalize (Op.bytesLess y.1 (l[i]'(by omega)).1 || y.1 == (l[i]'(by omega)).1) = p
    cases lbl y.1 <;> cases qOk y.2.2.1 true <;> cases p <;> simp

end Go.Md

namespace Go.Md
open Go.Dn

/-- The parcel in which one is. -/
def par (l : List D_api_Parcel) (k : Nat) : Option Nat := match l[k]? with
  | some p => if p.2.1 = [] then none else ixOf (·.1) p.2.1 l
  | none => none
theorem par_lt {l : List D_api_Parcel} {k k' : Nat} (h : par l k = some k') : k' < l.length := by
  unfold par at h
  split at h
  · split at h
    · cases h
    · obtain ⟨x, hx, _⟩ := ixOf_some h
      exact (List.getElem?_eq_some_iff.1 hx).1
  · cases h
def Nest1 (l : List D_api_Parcel) : Prop := ∀ p ∈ l, p.2.1 = [] ∨ (ixOf (·.1) p.2.1 l).isSome = true
theorem par_get {l : List D_api_Parcel} {k : Nat} {p : D_api_Parcel} (h1 : Nest1 l) (hp : l[k]? = some p) : (p.2.1 = [] ∧ par l k = none) ∨ (p.2.1 ≠ [] ∧ ∃ k', par l k = some k' ∧ ixOf (·.1) p.2.1 l = some k') := by
  unfold par
  rw [hp]
  dsimp only
  by_cases h : p.2.1 = []
  · exact .inl ⟨h, by rw [if_pos h]⟩
  · right
    rw [if_neg h]
    rcases h1 p (List.mem_of_getElem? hp) with h2 | h2
    · exact absurd h2 h
    · obtain ⟨k', hk'⟩ := Option.isSome_iff_exists.1 h2
      exact ⟨h, k', hk', hk'⟩
def NoLoop (l : List D_api_Parcel) : Prop := ∀ k, k < l.length → ¬ OnLoop (par l) k
def ancP (l : List D_api_Parcel) (i : Nat) : List Nat := anc (par l) l.length i
theorem ancP_len {l : List D_api_Parcel} (h : NoLoop l) {i : Nat} (hi : i < l.length) : (ancP l i).length < l.length := anc_len (fun _ _ => par_lt) h hi
theorem ancP_step {l : List D_api_Parcel} (h : NoLoop l) {i k : Nat} (hi : i < l.length) (hp : par l i = some k) : ancP l i = k :: ancP l k := by
  have h1 := ancP_len h hi
  unfold ancP at *
  rw [← anc_short h1 (show l.length ≤ l.length + 1 by omega), anc_step hp]
theorem ancP_none {l : List D_api_Parcel} {i : Nat} (hp : par l i = none) : ancP l i = [] := anc_none hp _
theorem ancP_lt {l : List D_api_Parcel} {i x : Nat} (h : x ∈ ancP l i) : x < l.length := anc_lt (fun _ _ => par_lt) h
theorem ancP_nodup {l : List D_api_Parcel} (h : NoLoop l) {i : Nat} (hi : i < l.length) : (i :: ancP l i).Nodup := anc_nodup (fun _ _ => par_lt) h hi

def cI (l : List Nat) : List Int := l.map (fun n : Nat => (n : Int))
theorem cI_mem {l : List Nat} {x : Nat} : (x : Int) ∈ cI l ↔ x ∈ l := by
  unfold cI
  rw [List.mem_map]
  constructor
  · rintro ⟨a, h1, h2⟩; have : a = x := by omega
    exact this ▸ h1
  · intro h; exact ⟨x, h, rfl⟩
theorem cI_len (l : List Nat) : (cI l).length = l.length := by simp [cI]

theorem parcel_around_ok (a : D_api_Advice) (hl : a.2.2.2.length ≤ 500) (hs : Asc (·.1) a.2.2.2) (h1 : Nest1 a.2.2.2) (i : Nat) (hi : i < a.2.2.2.length) :
    ∃ (out : List Nat) (ok : Bool), parcel_around a (i : Int) = some (cI out, ok, ()) ∧ (ok = false ↔ OnLoop (par a.2.2.2) i) ∧ (NoLoop a.2.2.2 → out = ancP a.2.2.2 i) := by
  unfold parcel_around
  have hat := fun t => parcel_parcelAt_eq a t (by omega) hs
  obtain ⟨a1, a2, a3, l⟩ := a
  dsimp only at *
  have loop : ∀ f, l.length + 1 < f → ∃ (out : List Nat) (ok : Bool), (iter f (((i : Int), ([] : List Int), (i : Int), a1, a2, a3, l, ()) : parcel_around_x3) parcel_around_b3 = (if ok = true then (some (Sum.inr (cI out, ())) : Option parcel_around_r3) else some (Sum.inl (cI out, false, ()))) ∨ (ok = true ∧ iter f (((i : Int), ([] : List Int), (i : Int), a1, a2, a3, l, ()) : parcel_around_x3) parcel_around_b3 = (some (Sum.inl (cI out, true, ())) : Option parcel_around_r3))) ∧ (ok = false ↔ OnLoop (par l) i) ∧ (NoLoop l → out = ancP l i) := by
    intro f hf
    refine iter_meas (Inv := fun X => ∃ (out : List Nat) (k : Nat), X = (((i : Int), cI out, (k : Int), a1, a2, a3, l, ()) : parcel_around_x3) ∧ k < l.length ∧ out.Nodup ∧ (∀ x ∈ out, x < l.length) ∧ (∃ j, itp (par l) j i = some k) ∧ (OnLoop (par l) i → ∃ d, Dist (par l) i k d ∧ ∀ x ∈ out, ∃ e, d ≤ e ∧ Dist (par l) i x e) ∧ (NoLoop l → out ++ ancP l k = ancP l i))
      (fun X => l.length + 1 - X.2.1.length)
      (fun _ r => ∃ (out : List Nat) (ok : Bool), (r = (if ok = true then (some (Sum.inr (cI out, ())) : Option parcel_around_r3) else some (Sum.inl (cI out, false, ()))) ∨ (ok = true ∧ r = (some (Sum.inl (cI out, true, ())) : Option parcel_around_r3))) ∧ (ok = false ↔ OnLoop (par l) i) ∧ (NoLoop l → out = ancP l i)) ?_ f _
      ⟨[], i, rfl, hi, by simp, by simp, ⟨0, rfl⟩, fun hon => by obtain ⟨d, hd⟩ := hon.dist; exact ⟨d, hd, by simp⟩, fun _ => by simp⟩ (by dsimp only; simp; omega)
    rintro _ again ⟨out, k, rfl, hk, hnd, hlt, ⟨j, hj⟩, hon, hno⟩ ih
    dsimp only at ih
    have hlen := nodup_len l.length out hnd hlt
    unfold parcel_around_b3
    dsimp only
    have hy : l[k]? = some l[k] := getElem?_of hk
    generalize l[k] = p at hy
    rw [idx_nat, hy, Option.bind_some, Option.bind_some]
    rcases par_get h1 hy with ⟨g1, g2⟩ | ⟨g1, k', g2, g3⟩
    · rw [g1]
      refine ⟨out, true, .inl rfl, ?_, fun hn => ?_⟩
      · constructor
        · intro h; cases h
        · intro h
          obtain ⟨d, hd, _⟩ := hon h
          obtain ⟨k', e, _⟩ := hd.step
          rw [g2] at e; cases e
      · have := hno hn
        rw [ancP_none g2, List.append_nil] at this
        exact this
    · have hk' := par_lt g2
      rw [show (!(p.2.1 == [])) = true by cases hp : p.2.1 <;> simp_all, cond_true]
      obtain ⟨q, hq1, hq2⟩ := hat p.2.1
      have : q = k' := hq2 k' g3
      subst this
      rw [hq1, Option.bind_some]
      dsimp only
      by_cases e1 : q = i
      · subst e1
        rw [show ((q : Int) == (q : Int)) = true by simp, cond_true]
        have hloop : OnLoop (par l) q := ⟨j, by rw [itp_add (b := 1) hj]; simp [itp, g2]⟩
        exact ⟨[], false, .inl rfl, ⟨fun _ => hloop, fun _ => rfl⟩, fun hn => absurd hloop (hn q hi)⟩
      · rw [show ((q : Int) == (i : Int)) = false by rw [beq_eq_false_iff_ne]; omega, cond_false, slices_Contains_int_eq _ _ (by rw [cI_len]; omega), Option.bind_some]
        by_cases e2 : q ∈ out
        · rw [decide_eq_true (cI_mem.2 e2), cond_true]
          refine ⟨out, true, .inr ⟨rfl, rfl⟩, ⟨fun h => (by cases h), fun h => ?_⟩, fun hn => ?_⟩
          · obtain ⟨d, hd, hx⟩ := hon h
            obtain ⟨k2, e, h2⟩ := hd.step
            rw [g2] at e; cases e
            rcases h2 with ⟨h2, _⟩ | ⟨_, e, he, h3⟩
            · exact absurd h2 e1
            · obtain ⟨f', hf', hx'⟩ := hx q e2
              have := h3.uniq hx'
              omega
          · exfalso
            have h3 := hno hn
            have h4 := (List.nodup_cons.1 (ancP_nodup hn hi)).2
            rw [← h3, ancP_step hn hk g2, List.nodup_append] at h4
            exact h4.2.2 q e2 q (by simp) rfl
        · rw [decide_eq_false (fun h => e2 (cI_mem.1 h)), cond_false, chk_pos (chk_app (by rw [cI_len]; omega) (by rw [cI_len]; omega))]
          refine ih _ ⟨out ++ [q], q, by simp [cI], hk', ?_, ?_, ⟨j + 1, ?_⟩, fun h => ?_, fun hn => ?_⟩ (by simp [cI_len]; omega)
          · rw [List.nodup_append]
            exact ⟨hnd, by simp, fun x hx y hy => by simp at hy; subst hy; exact fun e => e2 (e ▸ hx)⟩
          · intro x hx
            rcases List.mem_append.1 hx with hx | hx
            · exact hlt x hx
            · simp at hx; omega
          · rw [itp_add (b := 1) hj]; simp [itp, g2]
          · obtain ⟨d, hd, hx⟩ := hon h
            obtain ⟨k2, e, h2⟩ := hd.step
            rw [g2] at e; cases e
            rcases h2 with ⟨h2, _⟩ | ⟨_, e, he, h3⟩
            · exact absurd h2 e1
            · refine ⟨e, h3, fun x hx2 => ?_⟩
              rcases List.mem_append.1 hx2 with hx2 | hx2
              · obtain ⟨f', hf', hx'⟩ := hx x hx2; exact ⟨f', by omega, hx'⟩
              · simp at hx2; subst hx2; exact ⟨e, Nat.le_refl _, h3⟩
          · rw [← hno hn, ancP_step hn hk g2, List.append_assoc]; rfl
  obtain ⟨out, ok, h2, h3, h4⟩ := loop (Int.natAbs (i : Int) + (List.length ([] : List Int) + (Int.natAbs (i : Int) + (List.length a1 + (List.length a2 + (Int.natAbs a3 + (List.length l + 2))))))) (by omega)
  refine ⟨out, ok, ?_, h3, h4⟩
  rcases h2 with h2 | ⟨h5, h2⟩
  · rw [h2]
    cases ok <;> rfl
  · rw [h2, h5]; rfl

end Go.Md

namespace Go.Md
open Go.Dn

theorem r10_loops_ok (l : List D_api_Parcel) (hl : l.length ≤ 500) (h1 : Nest1 l) (i : Nat) (hi : i < l.length) : ∃ b : Bool, r10_loops l (i : Int) = some (b, ()) ∧ (b = true ↔ OnLoop (par l) i) := by
  unfold r10_loops
  have loop : ∀ f, l.length < f → ∃ b : Bool, iter f ((l, (i : Int), (i : Int), (l.length : Int), (0 : Int), ()) : r10_loops_x3) r10_loops_b3 = (if b = true then some (Sum.inl (true, ())) else some (Sum.inr ())) ∧ (b = true ↔ OnLoop (par l) i) ∨
      iter f ((l, (i : Int), (i : Int), (l.length : Int), (0 : Int), ()) : r10_loops_x3) r10_loops_b3 = some (Sum.inl (false, ())) ∧ ¬ OnLoop (par l) i := by
    intro f hf
    refine iter_post (Inv := fun c X => ∃ k : Nat, X = ((l, (i : Int), (k : Int), (l.length : Int), (c : Int), ()) : r10_loops_x3) ∧ k < l.length ∧ itp (par l) c i = some k ∧ ∀ e, e < c → itp (par l) (e + 1) i ≠ some i) l.length
      (fun r => ∃ b : Bool, r = (if b = true then some (Sum.inl (true, ())) else some (Sum.inr ())) ∧ (b = true ↔ OnLoop (par l) i) ∨ r = some (Sum.inl (false, ())) ∧ ¬ OnLoop (par l) i) ?_ ?_ f 0 _ ⟨i, rfl, hi, rfl, fun e h => absurd h (Nat.not_lt_zero _)⟩ (by omega) (by omega)
    · rintro c _ again hc ⟨k, rfl, hk, hit, hne⟩ ih
      unfold r10_loops_b3
      dsimp only
      have hy : l[k]? = some l[k] := getElem?_of hk
      generalize l[k] = p at hy
      rw [bif_pos (by omega), idx_nat, hy, Option.bind_some, Option.bind_some]
      rcases par_get h1 hy with ⟨g1, g2⟩ | ⟨g1, k', g2, g3⟩
      · rw [g1]
        refine ⟨false, .inr ⟨rfl, fun hon => ?_⟩⟩
        obtain ⟨d, hd⟩ := hon.dist
        rcases Nat.lt_or_ge d c with h | h
        · exact hne d h hd.1
        · have := hd.1
          rw [show d + 1 = c + (d - c + 1) by omega, itp_add hit] at this
          simp [itp, g2] at this
      · have hk' := par_lt g2
        rw [show (p.2.1 == []) = false by cases hp : p.2.1 <;> simp_all, cond_false, r10_parcelOf_eq l _ (by omega), g3, Option.bind_some]
        dsimp only [ixI]
        have hit' : itp (par l) (c + 1) i = some k' := by rw [itp_add hit]; simp [itp, g2]
        by_cases e1 : k' = i
        · subst e1
          rw [show ((k' : Int) == (k' : Int)) = true by simp, cond_true]
          exact ⟨true, .inl ⟨rfl, ⟨fun _ => ⟨c, hit'⟩, fun _ => rfl⟩⟩⟩
        · rw [show ((k' : Int) == (i : Int)) = false by rw [beq_eq_false_iff_ne]; omega, cond_false, w64_id (by omega) (by omega)]
          refine ih _ ⟨k', rfl, hk', hit', fun e he => ?_⟩
          rcases Nat.lt_succ_iff_lt_or_eq.1 he with h | h
          · exact hne e h
          · subst h; rw [hit']; simpa using e1
    · rintro _ again ⟨k, rfl, hk, hit, hne⟩
      unfold r10_loops_b3
      dsimp only
      rw [bif_neg (by omega)]
      refine ⟨false, .inl ⟨rfl, ⟨fun h => (by cases h), fun hon => ?_⟩⟩⟩
      obtain ⟨d, hd⟩ := hon.dist
      have := hd.le (fun _ _ => par_lt) hi
      exact absurd hd.1 (hne d (by omega))
  obtain ⟨b, h⟩ := loop (List.length l + (Int.natAbs (i : Int) + (Int.natAbs (i : Int) + (Int.natAbs ((List.length l : Int)) + (Int.natAbs (0 : Int) + 2))))) (by omega)
  rcases h with ⟨h2, h3⟩ | ⟨h2, h3⟩
  · exact ⟨b, by rw [h2]; cases b <;> rfl, h3⟩
  · exact ⟨false, by rw [h2]; rfl, ⟨fun h => (by cases h), fun h => absurd h h3⟩⟩

theorem r10_up_ok (l : List D_api_Parcel) (hl : l.length ≤ 500) (h1 : Nest1 l) (hn : NoLoop l) (i : Nat) (hi : i < l.length) : r10_up l (i : Int) = some (cI (i :: ancP l i), true, ()) := by
  unfold r10_up
  have loop : ∀ f, l.length < f → iter f ((l, (i : Int), [(i : Int)], ()) : r10_up_x2) r10_up_b2 = some (Sum.inr (cI (i :: ancP l i), ())) := by
    intro f hf
    refine iter_meas (Inv := fun X => ∃ (pre : List Nat) (k : Nat), X = ((l, (k : Int), cI pre, ()) : r10_up_x2) ∧ k < l.length ∧ pre ++ ancP l k = i :: ancP l i) (fun X => l.length + 1 - X.2.2.1.length)
      (fun _ r => r = some (Sum.inr (cI (i :: ancP l i), ()))) ?_ f _ ⟨[i], i, rfl, hi, rfl⟩ (by dsimp only; simp; omega)
    rintro _ again ⟨pre, k, rfl, hk, hpre⟩ ih
    dsimp only at ih
    have hlen : pre.length + (ancP l k).length = (ancP l i).length + 1 := by
      have := congrArg List.length hpre
      simpa using this
    have hlt := ancP_len hn hi
    unfold r10_up_b2
    dsimp only
    have hy : l[k]? = some l[k] := getElem?_of hk
    generalize l[k] = p at hy
    rw [idx_nat, hy, Option.bind_some, Option.bind_some]
    rcases par_get h1 hy with ⟨g1, g2⟩ | ⟨g1, k', g2, g3⟩
    · rw [g1]
      rw [ancP_none g2, List.append_nil] at hpre
      rw [hpre]
      rfl
    · have hk' := par_lt g2
      rw [show (!(p.2.1 == [])) = true by cases hp : p.2.1 <;> simp_all, cond_true, r10_parcelOf_eq l _ (by omega), g3, Option.bind_some]
      dsimp only [ixI]
      rw [bif_neg (by rw [cI_len]; omega), chk_pos (chk_app (by rw [cI_len]; omega) (by rw [cI_len]; omega))]
      refine ih _ ⟨pre ++ [k'], k', by simp [cI], hk', ?_⟩ (by simp [cI_len]; omega)
      rw [← hpre, ancP_step hn hk g2, List.append_assoc]; rfl
  rw [loop _ (by simp only [List.length_cons, List.length_nil]; omega), joinB_inr]

def n1 (l : List D_api_Parcel) (p : D_api_Parcel) : Int := if p.2.1 ≠ [] ∧ (ixOf (·.1) p.2.1 l).isSome = false then 9 else 0
open Classical in
noncomputable def n2 (l : List D_api_Parcel) (i : Nat) : Int := if OnLoop (par l) i then 17 else 0
def n3 (l : List D_api_Parcel) (i : Nat) : Int := if 5 < (ancP l i).length then 2 else 0
def nest1F (l : List D_api_Parcel) : Int := scanF (fun _ p => n1 l p) 0 l
noncomputable def nest2F (l : List D_api_Parcel) : Int := scanF (fun i _ => n2 l i) 0 l
def nest3F (l : List D_api_Parcel) : Int := scanF (fun i _ => n3 l i) 0 l
noncomputable def nestF (l : List D_api_Parcel) : Int := if nest1F l ≠ 0 then nest1F l else if nest2F l ≠ 0 then nest2F l else nest3F l
theorem nest1F_zero {l : List D_api_Parcel} (h : nest1F l = 0) : Nest1 l := by
  intro p hp
  obtain ⟨i, hi⟩ := List.mem_iff_getElem?.1 hp
  have := scanF_zero h i p hi
  unfold n1 at this
  by_cases h1 : p.2.1 = []
  · exact .inl h1
  · cases h2 : (ixOf (fun x : D_api_Parcel => x.1) p.2.1 l).isSome with
    | true => exact .inr rfl
    | false => rw [if_pos ⟨h1, h2⟩] at this; omega
theorem nest2F_zero {l : List D_api_Parcel} (h : nest2F l = 0) : NoLoop l := by
  intro k hk hon
  have := scanF_zero h k l[k] (getElem?_of hk)
  unfold n2 at this
  rw [Nat.zero_add, if_pos hon] at this
  omega
theorem scanJ3 {γ : Type} (s : Int) (u : γ) (k : γ → Option (Int × Unit)) (z : Int) (hk : s = 0 → k u = some (z, ())) : joinB (β := Int × Unit) (γ := γ) (if s = 0 then some (Sum.inr u) else some (Sum.inl (s, ()))) k = some (if s ≠ 0 then s else z, ()) := by
  by_cases h : s = 0
  · rw [if_pos h, joinB_inr, hk h, if_neg (by simpa using h)]
  · rw [if_neg h, joinB_inl, if_pos h]
theorem scanJ4 {γ : Type} (s : Int) (u : γ) : joinB (β := Int × Unit) (γ := γ) (if s = 0 then some (Sum.inr u) else some (Sum.inl (s, ()))) (fun _ => some (0, ())) = some (s, ()) := scanJ s u

theorem parcel_nestFault_eq (a : D_api_Advice) (hl : a.2.2.2.length ≤ 500) (hs : Asc (·.1) a.2.2.2) : parcel_nestFault a = some (nestF a.2.2.2, ()) := by
  unfold parcel_nestFault nestF
  have hat := fun t => parcel_parcelAt_eq a t (by omega) hs
  have har := fun h1 i hi => parcel_around_ok a hl hs h1 i hi
  obtain ⟨a1, a2, a3, l⟩ := a
  dsimp only at *
  rw [iter_scan0 (f := parcel_nestFault_b2) (fun i => ((l, (l.length : Int), (i : Int), a1, a2, a3, l, ()) : parcel_nestFault_x2)) l (fun _ p => n1 l p) (a1, a2, a3, l, ()) ?_ ?_ ?_ _ ?_]
  · refine scanJ3 _ _ _ _ fun z1 => ?_
    have h1 := nest1F_zero z1
    dsimp only
    rw [iter_scan0 (f := parcel_nestFault_b9) (fun i => (((l.length : Int), (i : Int), a1, a2, a3, l, ()) : parcel_nestFault_x9)) l (fun i _ => n2 l i) (a1, a2, a3, l, ()) ?_ ?_ ?_ _ ?_]
    · refine scanJ3 _ _ _ _ fun z2 => ?_
      have h2 := nest2F_zero z2
      dsimp only
      rw [iter_scan0 (f := parcel_nestFault_b16) (fun i => (((l.length : Int), (i : Int), a1, a2, a3, l, ()) : parcel_nestFault_x16)) l (fun i _ => n3 l i) () ?_ ?_ ?_ _ ?_]
      · exact scanJ4 _ _
      · rfl
      · intro i y again hy
        have hi := (List.getElem?_eq_some_iff.1 hy).1
        unfold parcel_nestFault_b16
        dsimp only
        obtain ⟨out, ok, g1, g2, g3⟩ := har h1 i hi
        rw [bif_pos (by omega), g1, Option.bind_some, w64_id (by omega) (by omega)]
        dsimp only
        rw [g3 h2, cI_len]
        unfold n3
        by_cases h5 : 5 < (ancP l i).length
        · rw [bif_pos (by omega), if_pos h5, if_neg (by omega)]
        · rw [bif_neg (by omega), if_neg h5, if_pos rfl]; rfl
      · intro again
        unfold parcel_nestFault_b16
        dsimp only
        rw [bif_neg (by omega)]
      · omega
    · rfl
    · intro i y again hy
      have hi := (List.getElem?_eq_some_iff.1 hy).1
      unfold parcel_nestFault_b9
      dsimp only
      obtain ⟨out, ok, g1, g2, g3⟩ := har h1 i hi
      rw [bif_pos (by omega), g1, Option.bind_some, w64_id (by omega) (by omega)]
      dsimp only
      unfold n2
      by_cases hon : OnLoop (par l) i
      · rw [g2.2 hon, if_pos hon, if_neg (by omega)]; rfl
      · have : ok = true := by
          cases ok with
          | true => rfl
          | false => exact absurd (g2.1 rfl) hon
        rw [this, if_neg hon, if_pos rfl]; rfl
    · intro again
      unfold parcel_nestFault_b9
      dsimp only
      rw [bif_neg (by omega)]
    · omega
  · rfl
  · intro i y again hy
    have hi := (List.getElem?_eq_some_iff.1 hy).1
    unfold parcel_nestFault_b2
    dsimp only
    obtain ⟨q, hq1, hq2⟩ := hat y.2.1
    rw [bif_pos (by omega), idx_nat, hy, Option.bind_some, hq1, Option.bind_some, w64_id (by omega) (by omega)]
    dsimp only
    by_cases e1 : y.2.1 = []
    · have hn : n1 l y = 0 := by unfold n1; rw [if_neg (fun h => h.1 e1)]
      rw [hn, if_pos rfl, e1]; rfl
    · rw [show (!(y.2.1 == [])) = true by cases hp : y.2.1 <;> simp_all, cond_true]
      cases h2 : (ixOf (fun x : D_api_Parcel => x.1) y.2.1 l).isSome with
      | true =>
        have hn : n1 l y = 0 := by unfold n1; rw [if_neg (fun h => by rw [h2] at h; exact absurd h.2 (by simp))]
        rw [hn, if_pos rfl]; rfl
      | false =>
        have hn : n1 l y = 9 := by unfold n1; rw [if_pos ⟨e1, h2⟩]
        rw [hn, if_neg (by omega)]; rfl
  · intro again
    unfold parcel_nestFault_b2
    dsimp only
    rw [bif_neg (by omega)]
  · omega

theorem r10_nests_eq (l : List D_api_Parcel) (hl : l.length ≤ 500) : r10_nests l = some (nestF l, ()) := by
  unfold r10_nests nestF
  rw [iter_scan0 (f := r10_nests_b2) (fun i => ((l, l, (l.length : Int), (i : Int), ()) : r10_nests_x2)) l (fun _ p => n1 l p) (l, ()) ?_ ?_ ?_ _ ?_]
  · refine scanJ3 _ _ _ _ fun z1 => ?_
    have h1 := nest1F_zero z1
    dsimp only
    rw [iter_scan0 (f := r10_nests_b8) (fun i => ((l, (l.length : Int), (i : Int), ()) : r10_nests_x8)) l (fun i _ => n2 l i) (l, ()) ?_ ?_ ?_ _ ?_]
    · refine scanJ3 _ _ _ _ fun z2 => ?_
      have h2 := nest2F_zero z2
      dsimp only
      rw [iter_scan0 (f := r10_nests_b14) (fun i => ((l, (l.length : Int), (i : Int), ()) : r10_nests_x14)) l (fun i _ => n3 l i) () ?_ ?_ ?_ _ ?_]
      · exact scanJ4 _ _
      · rfl
      · intro i y again hy
        have hi := (List.getElem?_eq_some_iff.1 hy).1
        have hlt := ancP_len h2 hi
        unfold r10_nests_b14
        dsimp only
        rw [bif_pos (by omega), r10_up_ok l hl h1 h2 i hi, Option.bind_some, w64_id (n := (i : Int) + 1) (by omega) (by omega)]
        dsimp only
        rw [Bool.not_true, cond_false, cI_len, List.length_cons, w64_id (by omega) (by omega)]
        unfold n3
        by_cases h5 : 5 < (ancP l i).length
        · rw [bif_pos (by omega), if_pos h5, if_neg (by omega)]
        · rw [bif_neg (by omega), if_neg h5, if_pos rfl]; rfl
      · intro again
        unfold r10_nests_b14
        dsimp only
        rw [bif_neg (by omega)]
      · omega
    · rfl
    · intro i y again hy
      have hi := (List.getElem?_eq_some_iff.1 hy).1
      unfold r10_nests_b8
      dsimp only
      obtain ⟨b, g1, g2⟩ := r10_loops_ok l hl h1 i hi
      rw [bif_pos (by omega), g1, Option.bind_some, w64_id (by omega) (by omega)]
      dsimp only
      unfold n2
      by_cases hon : OnLoop (par l) i
      · rw [g2.2 hon, if_pos hon, if_neg (by omega)]; rfl
      · have : b = false := by
          cases b with
          | false => rfl
          | true => exact absurd (g2.1 rfl) hon
        rw [this, if_neg hon, if_pos rfl]; rfl
    · intro again
      unfold r10_nests_b8
      dsimp only
      rw [bif_neg (by omega)]
    · omega
  · rfl
  · intro i y again hy
    have hi := (List.getElem?_eq_some_iff.1 hy).1
    unfold r10_nests_b2
    dsimp only
    rw [bif_pos (by omega), idx_nat, hy, Option.bind_some, r10_parcelOf_eq l _ (by omega), Option.bind_some, w64_id (by omega) (by omega)]
    dsimp only
    rw [ixI_neg]
    by_cases e1 : y.2.1 = []
    · have hn : n1 l y = 0 := by unfold n1; rw [if_neg (fun h => h.1 e1)]
      rw [hn, if_pos rfl, e1]; rfl
    · rw [show (!(y.2.1 == [])) = true by cases hp : y.2.1 <;> simp_all, cond_true]
      cases h2 : (ixOf (fun x : D_api_Parcel => x.1) y.2.1 l).isSome with
      | true =>
        have hn : n1 l y = 0 := by unfold n1; rw [if_neg (fun h => by rw [h2] at h; exact absurd h.2 (by simp))]
        rw [hn, if_pos rfl]; rfl
      | false =>
        have hn : n1 l y = 9 := by unfold n1; rw [if_pos ⟨e1, h2⟩]
        rw [hn, if_neg (by omega)]; rfl
  · intro again
    unfold r10_nests_b2
    dsimp only
    rw [bif_neg (by omega)]
  · omega

/-- What is wrong with an advice. -/
noncomputable def advF (a : D_api_Advice) : Int :=
  if isNm a.1 = false then 5 else if isNm a.2.1 = false then 5 else if ¬(1 ≤ a.2.2.1 ∧ a.2.2.1 ≤ 3652059) then 1
  else if 500 < a.2.2.2.length then 2 else if scanF (parcF a.2.2.2) 0 a.2.2.2 ≠ 0 then scanF (parcF a.2.2.2) 0 a.2.2.2 else nestF a.2.2.2

theorem ascP_of_prev {l : List D_api_Parcel} (h : scanF (parcF l) 0 l = 0) : Asc (·.1) l := by
  have step : ∀ i x y, l[i]? = some x → l[i + 1]? = some y → Op.bytesLess x.1 y.1 = true := fun i x y hx hy => by
    have := scanF_zero h (i + 1) y hy
    rw [Nat.zero_add] at this
    unfold parcF at this
    split at this
    · omega
    · split at this
      · omega
      · rename_i h2
        have h3 : prevP l (i + 1) y = false := by simpa using h2
        simp only [prevP, hx, Bool.or_eq_false_iff, beq_eq_false_iff_ne] at h3
        rcases bless_tri x.1 y.1 with h1 | h1 | h1
        · exact h1
        · exact absurd h1.symm h3.2
        · rw [h3.1] at h1; cases h1
  intro i j x y hij hx hy
  induction j generalizing y with
  | zero => omega
  | succ j ih =>
    rcases Nat.lt_succ_iff_lt_or_eq.1 hij with h1 | h1
    · have hj : j < l.length := by have := (List.getElem?_eq_some_iff.1 hy).1; omega
      have hz : l[j]? = some l[j] := getElem?_of hj
      exact bless_trans (ih _ h1 hz) (step j _ y hz hy)
    · subst h1; exact step i x y hx hy

/-- Strings that fit. -/
def FitA (a : D_api_Advice) : Prop := ∀ p ∈ a.2.2.2, p.1.length ≤ 9223372036854775807
theorem parcel_CheckAdvice_eq (a : D_api_Advice) (hf : FitA a) : parcel_CheckAdvice a = some (advF a, ()) := by
  unfold parcel_CheckAdvice advF
  simp only [kit_IsName_eq, kit_IsDay_eq, Option.bind_some]
  cases isNm a.1 with
  | false => rfl
  | true =>
  cases isNm a.2.1 with
  | false => rfl
  | true =>
  simp only [Bool.not_true, cond_false, Bool.true_eq_false, if_false]
  by_cases n_c1 : ¬(1 ≤ a.2.2.1 ∧ a.2.2.1 ≤ 3652059)
  · rw [decide_eq_false n_c1, if_pos n_c1]; rfl
  have c1 := Decidable.of_not_not n_c1
  rw [decide_eq_true c1, if_neg (by simpa using c1), Bool.not_true, cond_false]
  by_cases c2 : 500 < a.2.2.2.length
  · rw [bif_pos (by omega), if_pos c2]
  rw [bif_neg (by omega), if_neg c2]
  obtain ⟨a1, a2, a3, l⟩ := a
  dsimp only at *
  rw [iter_scan0 (f := parcel_CheckAdvice_b8) (fun i => (((l.length : Int), (i : Int), a1, a2, a3, l, ()) : parcel_CheckAdvice_x8)) l (parcF l) (a1, a2, a3, l, ()) ?_ ?_ ?_ _ ?_]
  · refine scanJ3 _ _ _ _ fun z => ?_
    dsimp only
    rw [parcel_nestFault_eq (a1, a2, a3, l) (by dsimp only; omega) (ascP_of_prev z), Option.bind_some]
  · rfl
  · intro i y again hy
    have hi := (List.getElem?_eq_some_iff.1 hy).1
    unfold parcel_CheckAdvice_b8
    dsimp only
    rw [bif_pos (by omega), parcel_parcelFault_eq l i y hy (by omega) (hf y (List.mem_of_getElem? hy)), Option.bind_some, w64_id (by omega) (by omega)]
    dsimp only
    by_cases hz : parcF l i y = 0
    · rw [hz]; rfl
    · rw [show (parcF l i y != 0) = true by simpa using hz, cond_true, if_neg hz]
  · intro again
    unfold parcel_CheckAdvice_b8
    dsimp only
    rw [bif_neg (by omega)]
  · omega
theorem r10_CheckAdvice_eq (a : D_api_Advice) (hf : FitA a) : r10_CheckAdvice a = some (advF a, ()) := by
  unfold r10_CheckAdvice advF
  simp only [r1_IsName_eq, r1_IsDay_eq, Option.bind_some]
  cases isNm a.1 with
  | false => rfl
  | true =>
  cases isNm a.2.1 with
  | false => rfl
  | true =>
  simp only [Bool.not_true, cond_false, Bool.true_eq_false, if_false]
  by_cases n_c1 : ¬(1 ≤ a.2.2.1 ∧ a.2.2.1 ≤ 3652059)
  · rw [decide_eq_false n_c1, if_pos n_c1]; rfl
  have c1 := Decidable.of_not_not n_c1
  rw [decide_eq_true c1, if_neg (by simpa using c1), Bool.not_true, cond_false]
  by_cases c2 : 500 < a.2.2.2.length
  · rw [bif_pos (by omega), if_pos c2]
  rw [bif_neg (by omega), if_neg c2]
  obtain ⟨a1, a2, a3, l⟩ := a
  dsimp only at *
  rw [iter_scan0 (f := r10_CheckAdvice_b8) (fun i => ((l, (l.length : Int), (i : Int), a1, a2, a3, l, ()) : r10_CheckAdvice_x8)) l (parcF l) (a1, a2, a3, l, ()) ?_ ?_ ?_ _ ?_]
  · refine scanJ3 _ _ _ _ fun z => ?_
    dsimp only
    rw [r10_nests_eq l (by omega), Option.bind_some]
  · rfl
  · intro i y again hy
    have hi := (List.getElem?_eq_some_iff.1 hy).1
    unfold r10_CheckAdvice_b8
    dsimp only
    rw [bif_pos (by omega), idx_nat, hy, Option.bind_some, r10_isLabel_eq _ (hf y (List.mem_of_getElem? hy)), Option.bind_some]
    simp only [r10_isMass_eq, r10_checkContents_eq, Option.bind_some, Bool.not_false]
    have hw : w64 ((i : Int) + 1) = ((i + 1 : Nat) : Int) := by rw [w64_id (by omega) (by omega)]; omega
    rw [hw]
    unfold parcF
    have fin : (bif contsF y.2.2.2 != 0 then some (Sum.inl (contsF y.2.2.2, ())) else again (l, (l.length : Int), ((i + 1 : Nat) : Int), a1, a2, a3, l, ())) = if contsF y.2.2.2 = 0 then again (l, (l.length : Int), ((i + 1 : Nat) : Int), a1, a2, a3, l, ()) else some (Sum.inl (contsF y.2.2.2, ())) := by
      by_cases hz : contsF y.2.2.2 = 0
      · rw [hz]; rfl
      · rw [show (contsF y.2.2.2 != 0) = true by simpa using hz, cond_true, if_neg hz]
    rw [fin]
    cases i with
    | zero =>
      simp only [prevP]
      cases lbl y.1 <;> cases qOk y.2.2.1 true <;> simp
    | succ i =>
      have hp : l[i]? = some (l[i]'(by omega)) := getElem?_of (by omega)
      have ep : prevP l (i + 1) y = (Op.bytesLess y.1 (l[i]'(by omega)).1 || y.1 == (l[i]'(by omega)).1) := by simp only [prevP, hp]
      have hpos : decide (((i + 1 : Nat) : Int) > 0) = true := by simp
      rw [prev_idx' (by omega) (by omega), hp, ep, hpos]
      simp only [Option.bind_some, cond_true]
      generalize (Op.bytesLess y.1 (l[i]'(by omega)).1 || y.1 == (l[i]'(by omega)).1) = p
      cases lbl y.1 <;> cases qOk y.2.2.1 true <;> cases p <;> simp
  · intro again
    unfold r10_CheckAdvice_b8
    dsimp only
    rw [bif_neg (by omega)]
  · omega

end Go.Md

namespace Go.Md
open Go.Dn

/-- A right advice. -/
structure AdvOk (a : D_api_Advice) : Prop where
  len : a.2.2.2.length ≤ 500
  asc : Asc (·.1) a.2.2.2
  n1 : Nest1 a.2.2.2
  nl : NoLoop a.2.2.2
theorem advF_zero {a : D_api_Advice} (h : advF a = 0) : AdvOk a := by
  unfold advF at h
  split at h
  · omega
  split at h
  · omega
  split at h
  · omega
  split at h
  · omega
  split at h
  · omega
  rename_i h1 h2
  have h3 : scanF (parcF a.2.2.2) 0 a.2.2.2 = 0 := by omega
  unfold nestF at h
  split at h
  · omega
  rename_i h4
  split at h
  · omega
  rename_i h5
  exact ⟨by omega, ascP_of_prev h3, nest1F_zero (by omega), nest2F_zero (by omega)⟩

def lab (l : List D_api_Parcel) (i : Nat) : List UInt8 := ((l[i]?).map (·.1)).getD []
theorem lab_get {l : List D_api_Parcel} {i : Nat} {p : D_api_Parcel} (h : l[i]? = some p) : lab l i = p.1 := by unfold lab; rw [h]; rfl
theorem lab_eq {l : List D_api_Parcel} (hs : Asc (·.1) l) {t : List UInt8} {T i : Nat} (hT : ixOf (·.1) t l = some T) (hi : i < l.length) : lab l i = t ↔ i = T := by
  have hp : l[i]? = some l[i] := getElem?_of hi
  rw [lab_get hp]
  constructor
  · intro h
    have := ixOf_of hs hp h
    rw [hT] at this; cases this; rfl
  · rintro rfl
    obtain ⟨x, h1, h2⟩ := ixOf_some hT
    rw [hp] at h1; cases h1; exact h2

theorem around_eq {a : D_api_Advice} (h : AdvOk a) {i : Nat} (hi : i < a.2.2.2.length) : parcel_around a (i : Int) = some (cI (ancP a.2.2.2 i), true, ()) := by
  obtain ⟨out, ok, g1, g2, g3⟩ := parcel_around_ok a h.len h.asc h.n1 i hi
  have : ok = true := by
    cases ok with
    | true => rfl
    | false => exact absurd (g2.1 rfl) (h.nl i hi)
  rw [g1, g3 h.nl, this]

theorem parcel_isWithin_eq {a : D_api_Advice} (h : AdvOk a) {i T : Nat} (hi : i < a.2.2.2.length) {t : List UInt8} (hT : ixOf (·.1) t a.2.2.2 = some T) : parcel_isWithin a (i : Int) t = some (decide (T ∈ ancP a.2.2.2 i), ()) := by
  unfold parcel_isWithin slices_ContainsFunc_int slices_IndexFunc_int
  rw [around_eq h hi, Option.bind_some]
  dsimp only
  have hlt : ∀ x ∈ ancP a.2.2.2 i, x < a.2.2.2.length := fun x hx => ancP_lt hx
  have hlen := ancP_len h.nl hi
  have hl := h.len
  generalize ancP a.2.2.2 i = L at *
  have loop : ∀ f, L.length < f → ∃ n : Int, iter f ((cI L, (a, t), ((cI L).length : Int), (0 : Int), ()) : slices_IndexFunc_int_x2) slices_IndexFunc_int_b2 = (if T ∈ L then some (Sum.inl (n, ())) else some (Sum.inr ())) ∧ 0 ≤ n := by
    intro f hf
    refine iter_post (Inv := fun c X => X = ((cI L, (a, t), ((cI L).length : Int), (c : Int), ()) : slices_IndexFunc_int_x2) ∧ ∀ j y, j < c → L[j]? = some y → y ≠ T) L.length
      (fun r => ∃ n : Int, r = (if T ∈ L then some (Sum.inl (n, ())) else some (Sum.inr ())) ∧ 0 ≤ n) ?_ ?_ f 0 _ ⟨rfl, fun _ _ h => absurd h (Nat.not_lt_zero _)⟩ (by omega) (by omega)
    · rintro c _ again hc ⟨rfl, hb⟩ ih
      unfold slices_IndexFunc_int_b2 parcel_isWithin_1
      dsimp only
      have hy : L[c]? = some L[c] := getElem?_of hc
      have hyl := hlt _ (List.getElem_mem hc)
      generalize L[c] = y at hy hyl
      have hy' : (cI L)[c]? = some (y : Int) := by unfold cI; rw [List.getElem?_map, hy]; rfl
      have hp : a.2.2.2[y]? = some a.2.2.2[y] := getElem?_of hyl
      rw [bif_pos (by rw [cI_len]; omega), idx_nat, hy', Option.bind_some, idx_nat, hp, Option.bind_some, Option.bind_some]
      dsimp only
      have hle := lab_eq h.asc hT hyl
      rw [lab_get hp] at hle
      by_cases he : y = T
      · rw [show (a.2.2.2[y].1 == t) = true by simpa using hle.2 he, cond_true]
        exact ⟨c, by rw [if_pos (he ▸ List.mem_of_getElem? hy)], by omega⟩
      · rw [show (a.2.2.2[y].1 == t) = false by simpa using fun e => he (hle.1 e), cond_false, w64_id (by omega) (by omega)]
        refine ih _ ⟨rfl, fun j z hj hz => ?_⟩
        rcases Nat.lt_succ_iff_lt_or_eq.1 hj with h | h
        · exact hb j z h hz
        · subst h; rw [hy] at hz; cases hz; exact he
    · rintro _ again ⟨rfl, hb⟩
      unfold slices_IndexFunc_int_b2
      dsimp only
      rw [bif_neg (by rw [cI_len]; omega)]
      refine ⟨0, ?_, Int.le_refl _⟩
      rw [if_neg]
      intro hm
      obtain ⟨j, hj⟩ := List.mem_iff_getElem?.1 hm
      exact hb j T (List.getElem?_eq_some_iff.1 hj).1 hj rfl
  obtain ⟨n, h1, h2⟩ := loop (List.length (cI L) + (Int.natAbs ((List.length (cI L) : Int)) + (Int.natAbs (0 : Int) + 2))) (by rw [cI_len]; omega)
  rw [h1]
  by_cases hm : T ∈ L
  · rw [if_pos hm, joinB_inl, Option.bind_some, Option.bind_some, decide_eq_true hm]
    congr 2
    exact decide_eq_true h2
  · rw [if_neg hm, joinB_inr, Option.bind_some, Option.bind_some, decide_eq_false hm]
    rfl

def ins (l : List D_api_Parcel) (T n : Nat) : List Nat := (List.range n).filter (fun i => decide (T ∈ i :: ancP l i))
theorem ins_len (l : List D_api_Parcel) (T n : Nat) : (ins l T n).length ≤ n := by
  unfold ins
  exact Nat.le_trans (List.length_filter_le _ _) (by simp)
theorem ins_succ (l : List D_api_Parcel) (T n : Nat) : ins l T (n + 1) = if T ∈ n :: ancP l n then ins l T n ++ [n] else ins l T n := by
  unfold ins
  rw [List.range_succ, List.filter_append]
  by_cases h : T ∈ n :: ancP l n
  · rw [if_pos h]; simp only [List.filter_cons, List.filter_nil, decide_eq_true h, if_true]
  · rw [if_neg h]; simp only [List.filter_cons, List.filter_nil, decide_eq_false h, Bool.false_eq_true, if_false, List.append_nil]

theorem r10_inside_eq (l : List D_api_Parcel) (hl : l.length ≤ 500) (h1 : Nest1 l) (hn : NoLoop l) (t : List UInt8) (ht : t ≠ []) (T : Nat) (hT : ixOf (·.1) t l = some T) : r10_inside l t = some (cI (ins l T l.length), ()) := by
  unfold r10_inside
  have loop : ∀ f, l.length < f → iter f ((l, t, ([] : List Int), (l.length : Int), (0 : Int), ()) : r10_inside_x3) r10_inside_b3 = some (Sum.inr (cI (ins l T l.length), ())) := by
    intro f hf
    refine iter_post (Inv := fun i X => X = ((l, t, cI (ins l T i), (l.length : Int), (i : Int), ()) : r10_inside_x3)) l.length (fun r => r = some (Sum.inr (cI (ins l T l.length), ()))) ?_ ?_ f 0 _ rfl (by omega) (by omega)
    · rintro i _ again hi rfl ih
      unfold r10_inside_b3
      dsimp only
      have hlt := ancP_len hn hi
      have hil := ins_len l T i
      rw [bif_pos (by omega), r10_up_ok l hl h1 hn i hi, Option.bind_some, show (t == []) = false by cases t <;> simp_all, cond_false, r10_parcelOf_eq l t (by omega), hT, Option.bind_some]
      dsimp only [ixI]
      rw [slices_Contains_int_eq _ _ (by rw [cI_len, List.length_cons]; omega), Option.bind_some, w64_id (by omega) (by omega)]
      dsimp only
      have hs := ins_succ l T i
      by_cases hm : T ∈ i :: ancP l i
      · rw [decide_eq_true (cI_mem.2 hm), cond_true, chk_pos (chk_app (by rw [cI_len]; omega) (by rw [cI_len]; omega))]
        refine ih _ ?_
        rw [hs, if_pos hm]
        simp [cI]
      · rw [decide_eq_false (fun h => hm (cI_mem.1 h)), cond_false]
        refine ih _ ?_
        rw [hs, if_neg hm]
        rfl
    · rintro _ again rfl
      unfold r10_inside_b3
      dsimp only
      rw [bif_neg (by omega)]
  rw [loop _ (by omega), joinB_inr]

theorem l10_awake_k : l10_awake = some (true, ()) := by kernel_rfl

end Go.Md
