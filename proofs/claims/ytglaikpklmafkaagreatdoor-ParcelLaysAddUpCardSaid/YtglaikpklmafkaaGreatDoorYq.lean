/-
  Plain facts, small ones. No condition.
-/
import Derived.Test.YtglaikpklmafkaaGreatDoorYp
import Derived.Test.YtglaikpklmafkaaGreatDoorYm
set_option linter.all false
namespace Go.Md
open Go.Dn

/-- The same elements, those of one key in the same order. -/
structure SamE {α : Type} (k : α → Int) (l l' : List α) : Prop where
  perm : l.Perm l'
  keys : ∀ v, l'.filter (fun x => k x == v) = l.filter (fun x => k x == v)
theorem SamE.refl {α : Type} (k : α → Int) (l : List α) : SamE k l l := ⟨List.Perm.refl _, fun _ => rfl⟩
theorem SamE.trans {α : Type} {k : α → Int} {a b c : List α} (h : SamE k a b) (g : SamE k b c) : SamE k a c := ⟨h.perm.trans g.perm, fun v => (g.keys v).trans (h.keys v)⟩
theorem SamE.append {α : Type} {k : α → Int} {a b c d : List α} (h : SamE k a b) (g : SamE k c d) : SamE k (a ++ c) (b ++ d) :=
  ⟨h.perm.append g.perm, fun v => by rw [List.filter_append, List.filter_append, h.keys, g.keys]⟩
theorem SamE.mem {α : Type} {k : α → Int} {a b : List α} (h : SamE k a b) {x : α} : x ∈ b ↔ x ∈ a := h.perm.mem_iff.symm
theorem SamE.length {α : Type} {k : α → Int} {a b : List α} (h : SamE k a b) : b.length = a.length := h.perm.length_eq.symm
/-- Blocks of other keys may change places. -/
theorem SamE.swap {α : Type} {k : α → Int} {u v : List α} (h : ∀ x ∈ u, ∀ y ∈ v, k x ≠ k y) : SamE k (u ++ v) (v ++ u) := by
  refine ⟨List.perm_append_comm, fun w => ?_⟩
  rw [List.filter_append, List.filter_append]
  by_cases hu : ∃ x ∈ u, k x = w
  · obtain ⟨x, hx, rfl⟩ := hu
    have : v.filter (fun y => k y == k x) = [] := by
      rw [List.filter_eq_nil_iff]
      intro y hy
      simpa using fun e => h x hx y hy e.symm
    rw [this]; simp
  · have : u.filter (fun y => k y == w) = [] := by
      rw [List.filter_eq_nil_iff]
      intro y hy
      simpa using fun e => hu ⟨y, hy, e⟩
    rw [this]; simp

def Srt {α : Type} (k : α → Int) (l : List α) : Prop := l.Pairwise fun x y => k x ≤ k y
theorem Srt.append {α : Type} {k : α → Int} {a b : List α} (ha : Srt k a) (hb : Srt k b) (h : ∀ x ∈ a, ∀ y ∈ b, k x ≤ k y) : Srt k (a ++ b) := List.pairwise_append.2 ⟨ha, hb, h⟩
theorem Srt.left {α : Type} {k : α → Int} {a b : List α} (h : Srt k (a ++ b)) : Srt k a := (List.pairwise_append.1 h).1
theorem Srt.right {α : Type} {k : α → Int} {a b : List α} (h : Srt k (a ++ b)) : Srt k b := (List.pairwise_append.1 h).2.1
theorem Srt.cross {α : Type} {k : α → Int} {a b : List α} (h : Srt k (a ++ b)) : ∀ x ∈ a, ∀ y ∈ b, k x ≤ k y := (List.pairwise_append.1 h).2.2

theorem swap_adj {α : Type} (A B : List α) (x y : α) : ((A ++ y :: x :: B).set (A.length + 1) y).set A.length x = A ++ x :: y :: B := by
  induction A with
  | nil => rfl
  | cons a A ih => simp only [List.cons_append, List.length_cons, List.set_cons_succ, ih]
theorem swap_adj' {α : Type} (A B : List α) (x y : α) : ((A ++ x :: y :: B).set A.length y).set (A.length + 1) x = A ++ y :: x :: B := by
  induction A with
  | nil => rfl
  | cons a A ih => simp only [List.cons_append, List.length_cons, List.set_cons_succ, ih]
theorem get_at {α : Type} (A B : List α) (y : α) : (A ++ y :: B)[A.length]? = some y := by simp
theorem get_at1 {α : Type} (A B : List α) (x y : α) : (A ++ y :: x :: B)[A.length + 1]? = some x := by simp
theorem split_at {α : Type} {l : List α} {n : Nat} (h : n ≤ l.length) : ∃ A B, l = A ++ B ∧ A.length = n := ⟨l.take n, l.drop n, by simp, by simp; omega⟩
section
variable {k : Option Nat → Int} {ar : List D_bill_debt} {ok : Option Nat → Prop}

/-- The comparison compares keys. -/
def CmpOk (k : Option Nat → Int) (ar : List D_bill_debt) (ok : Option Nat → Prop) : Prop := ∀ a b, ok a → ok b → ∃ c, bill_payments_1 a b ar = some (c, ()) ∧ (c < 0 ↔ k a < k b)

theorem ins_inner (hc : CmpOk k ar ok) (a : Nat) (bI : Int) (iI : Int) (X : List (Option Nat)) (hX : X.length = a) : ∀ (n : Nat) (P1 : List (Option Nat)) (x : Option Nat) (B : List (Option Nat)), P1.length < n → (X ++ P1 ++ x :: B).length < 1000000000 → ok x → (∀ y ∈ P1, ok y) →
    ∃ P2 P3, P1 = P2 ++ P3 ∧ (∀ y ∈ P3, k x < k y) ∧ (∀ y, P2.getLast? = some y → k y ≤ k x) ∧
    iter (X := slices_insertionSortCmpFunc_bill_debtP_x4) (β := slices_insertionSortCmpFunc_bill_debtP_r4) n ((a : Int), bI, (), iI, ((a + P1.length : Nat) : Int), X ++ P1 ++ x :: B, ar, ()) slices_insertionSortCmpFunc_bill_debtP_b4 = some (Sum.inr ((a : Int), bI, (), iI, X ++ P2 ++ x :: (P3 ++ B), ar, ())) := by
  intro n
  induction n with
  | zero => intro P1 x B h; omega
  | succ n ih =>
    intro P1 x B hn hlen hx hP
    rw [iter_succ]
    generalize hag : (fun y => iter n y slices_insertionSortCmpFunc_bill_debtP_b4) = again
    unfold slices_insertionSortCmpFunc_bill_debtP_b4
    dsimp only
    rcases List.eq_nil_or_concat P1 with rfl | ⟨P, y, rfl⟩
    · rw [bif_neg (by simp)]
      exact ⟨[], [], rfl, by simp, by simp, by simp⟩
    · rw [List.concat_eq_append] at *
      simp only [List.length_append, List.length_cons, List.length_nil] at hlen hn ⊢
      have e1 : w64 (((a + (P.length + 1) : Nat) : Int) - 1) = (((X ++ P).length : Nat) : Int) := by rw [w64_id (by omega) (by omega)]; simp [hX]; omega
      have e2 : (((a + (P.length + 1) : Nat) : Int)) = (((X ++ P).length + 1 : Nat) : Int) := by simp [hX]; omega
      have el : X ++ (P ++ [y]) ++ x :: B = (X ++ P) ++ y :: x :: B := by simp
      obtain ⟨c, hcc, hlt⟩ := hc x y hx (hP y (by simp))
      rw [bif_pos (by omega), e1, e2, el]
      simp only [Int.toNat_natCast, get_at, get_at1, Option.bind_some, hcc]
      rw [chk_pos (by simp only [Bool.and_eq_true, decide_eq_true_eq, List.length_append, List.length_cons, List.length_set, List.length_nil]; omega), chk_pos (by simp only [Bool.and_eq_true, decide_eq_true_eq, List.length_append, List.length_cons, List.length_set, List.length_nil]; omega)]
      by_cases hk : k x < k y
      · rw [bif_pos (hlt.2 hk), chk_pos (by simp only [Bool.and_eq_true, decide_eq_true_eq, List.length_append, List.length_cons, List.length_set, List.length_nil]; omega), chk_pos (by simp only [Bool.and_eq_true, decide_eq_true_eq, List.length_append, List.length_cons, List.length_set, List.length_nil]; omega), chk_pos (by simp only [Bool.and_eq_true, decide_eq_true_eq, List.length_append, List.length_cons, List.length_set, List.length_nil]; omega),
          chk_pos (by simp only [Bool.and_eq_true, decide_eq_true_eq, List.length_append, List.length_cons, List.length_set, List.length_nil]; omega)]
        have hg : (((X ++ P) ++ y :: x :: B).set ((X ++ P).length + 1) y)[(X ++ P).length]? = some y := by rw [List.getElem?_set_ne (by omega), get_at]
        rw [hg, Option.bind_some, swap_adj, ← hag]
        obtain ⟨P2, P3, h1, h2, h3, h4⟩ := ih P x (y :: B) (by omega) (by simp; omega) hx (fun z hz => hP z (by simp [hz]))
        refine ⟨P2, P3 ++ [y], by rw [h1]; simp, ?_, h3, ?_⟩
        · intro z hz
          rcases List.mem_append.1 hz with hz | hz
          · exact h2 z hz
          · rw [List.mem_singleton.1 hz]; exact hk
        · have e3 : (((X ++ P).length : Nat) : Int) = ((a + P.length : Nat) : Int) := by simp [hX]
          rw [e3]
          show iter n _ _ = _
          rw [h4]; simp
      · rw [bif_neg (fun h => hk (hlt.1 h))]
        refine ⟨P ++ [y], [], by simp, by simp, fun z hz => ?_, by simp⟩
        simp at hz
        subst hz; omega

theorem srt_last {α : Type} {k : α → Int} {P : List α} (h : Srt k P) {v : Int} (hl : ∀ y, P.getLast? = some y → k y ≤ v) : ∀ y ∈ P, k y ≤ v := by
  rcases List.eq_nil_or_concat P with rfl | ⟨Q, z, rfl⟩
  · simp
  · rw [List.concat_eq_append] at *
    have hz := hl z (by simp)
    intro y hy
    rcases List.mem_append.1 hy with hy | hy
    · have := h.cross y hy z (by simp); omega
    · rw [List.mem_singleton.1 hy]; exact hz

/-- Inserting keeps order. -/
theorem ins_step {α : Type} {k : α → Int} {P2 P3 : List α} {x : α} (hs : Srt k (P2 ++ P3)) (h3 : ∀ y ∈ P3, k x < k y) (h2 : ∀ y, P2.getLast? = some y → k y ≤ k x) : Srt k (P2 ++ x :: P3) ∧ SamE k (P2 ++ P3 ++ [x]) (P2 ++ x :: P3) := by
  constructor
  · refine hs.left.append (List.pairwise_cons.2 ⟨fun y hy => by have := h3 y hy; omega, hs.right⟩) ?_
    intro y hy z hz
    have hy' := srt_last hs.left h2 y hy
    rcases List.mem_cons.1 hz with rfl | hz
    · exact hy'
    · exact hs.cross y hy z hz
  · rw [List.append_assoc]
    refine (SamE.refl k P2).append ?_
    have := SamE.swap (k := k) (u := P3) (v := [x]) (fun y hy z hz => by rw [List.mem_singleton.1 hz]; have := h3 y hy; omega)
    simpa using this

theorem insertion_eq (hc : CmpOk k ar ok) (X S Y : List (Option Nat)) (hlen : (X ++ S ++ Y).length < 1000000000) (hok : ∀ y ∈ S, ok y) :
    ∃ S', slices_insertionSortCmpFunc_bill_debtP (X ++ S ++ Y) (X.length : Int) ((X.length + S.length : Nat) : Int) () ar = some (X ++ S' ++ Y, ()) ∧ Srt k S' ∧ SamE k S S' := by
  simp only [List.length_append] at hlen
  have loop : ∀ (n : Nat) (Q P : List (Option Nat)) (l : List (Option Nat)), Q.length < n → l = X ++ P ++ Q ++ Y → P.length + Q.length = S.length → Srt k P → (∀ y ∈ P, ok y) → (∀ y ∈ Q, ok y) →
      ∃ S', iter (X := slices_insertionSortCmpFunc_bill_debtP_x1) (β := slices_insertionSortCmpFunc_bill_debtP_r1) n ((X.length : Int), ((X.length + S.length : Nat) : Int), (), ((X.length + P.length : Nat) : Int), l, ar, ()) slices_insertionSortCmpFunc_bill_debtP_b1 = some (Sum.inr (X ++ S' ++ Y, ar, ())) ∧ Srt k S' ∧ SamE k (P ++ Q) S' := by
    intro n
    induction n with
    | zero => intro Q P l h; omega
    | succ n ih =>
      intro Q P l hn hl hPQ hs hokP hokQ
      rw [iter_succ]
      generalize hag : (fun y => iter n y slices_insertionSortCmpFunc_bill_debtP_b1) = again
      unfold slices_insertionSortCmpFunc_bill_debtP_b1
      dsimp only
      cases Q with
      | nil =>
        rw [bif_neg (by simp at hPQ; omega)]
        exact ⟨P, by rw [hl]; simp, hs, by simpa using SamE.refl k P⟩
      | cons x Q =>
        simp only [List.length_cons] at hn hPQ
        rw [bif_pos (by omega)]
        have hl' : l = X ++ P ++ x :: (Q ++ Y) := by rw [hl]; simp
        obtain ⟨P2, P3, h1, h2, h3, h4⟩ := ins_inner hc X.length ((X.length + S.length : Nat) : Int) ((X.length + P.length : Nat) : Int) X rfl
          (Int.natAbs (X.length : Int) + (Int.natAbs ((X.length + S.length : Nat) : Int) + (Int.natAbs ((X.length + P.length : Nat) : Int) + (Int.natAbs ((X.length + P.length : Nat) : Int) + (List.length l + 2))))) P x (Q ++ Y) (by omega) (by simp; omega) (hokQ x (by simp)) hokP
        rw [← hl'] at h4
        rw [h4, joinB_inr]
        dsimp only
        have e1 : w64 (((X.length + P.length : Nat) : Int) + 1) = ((X.length + (P2 ++ x :: P3).length : Nat) : Int) := by
          rw [w64_id (by omega) (by omega), h1]; simp; omega
        rw [e1, ← hag]
        rw [h1] at hs hokP
        obtain ⟨hs', hsam⟩ := ins_step hs h2 h3
        obtain ⟨S', g1, g2, g3⟩ := ih Q (P2 ++ x :: P3) (X ++ P2 ++ x :: (P3 ++ (Q ++ Y))) (by omega) (by simp) (by rw [h1] at hPQ; simp at hPQ ⊢; omega) hs' (fun y hy => by
            rcases hsam.mem.1 hy |> List.mem_append.1 with h | h
            · exact hokP y h
            · rw [List.mem_singleton.1 h]; exact hokQ x (by simp)) (fun y hy => hokQ y (by simp [hy]))
        refine ⟨S', g1, g2, ?_⟩
        have : SamE k (P ++ x :: Q) (P2 ++ x :: P3 ++ Q) := by
          rw [h1]
          have := hsam.append (SamE.refl k Q)
          simpa using this
        exact this.trans g3
  unfold slices_insertionSortCmpFunc_bill_debtP
  cases S with
  | nil =>
    -- an empty range
    have e1 : w64 ((X.length : Int) + 1) = ((X.length + 1 : Nat) : Int) := by rw [w64_id (by omega) (by omega)]; omega
    rw [e1]
    obtain ⟨n, hn⟩ : ∃ n, (Int.natAbs (X.length : Int) + (Int.natAbs ((X.length + ([] : List (Option Nat)).length : Nat) : Int) + (Int.natAbs ((X.length + 1 : Nat) : Int) + (List.length (X ++ [] ++ Y) + 2)))) = n + 1 := ⟨_, rfl⟩
    rw [hn, iter_succ]
    unfold slices_insertionSortCmpFunc_bill_debtP_b1
    dsimp only
    rw [bif_neg (by simp; omega)]
    exact ⟨[], rfl, List.Pairwise.nil, SamE.refl _ _⟩
  | cons x S =>
    have e1 : w64 ((X.length : Int) + 1) = ((X.length + [x].length : Nat) : Int) := by rw [w64_id (by omega) (by omega)]; simp
    rw [e1]
    obtain ⟨S', g1, g2, g3⟩ := loop (Int.natAbs (X.length : Int) + (Int.natAbs ((X.length + (x :: S).length : Nat) : Int) + (Int.natAbs ((X.length + [x].length : Nat) : Int) + (List.length (X ++ (x :: S) ++ Y) + 2)))) S [x] (X ++ (x :: S) ++ Y) (by simp; omega) (by simp) (by simp; omega) (List.pairwise_singleton _ _) (fun y hy => hok y (by simp at hy; simp [hy])) (fun y hy => hok y (by simp [hy]))
    rw [g1, joinB_inr]
    exact ⟨S', rfl, g2, by simpa using g3⟩
end

end Go.Md

namespace Go.Md
open Go.Dn

theorem set_mid {α : Type} (A B : List α) (x y : α) : (A ++ x :: B).set A.length y = A ++ y :: B := by
  induction A with
  | nil => rfl
  | cons a A ih => simp only [List.cons_append, List.length_cons, List.set_cons_succ, ih]

section
variable {k : Option Nat → Int} {ar : List D_bill_debt} {ok : Option Nat → Prop}

/-- Two blocks of one length change places. -/
theorem swapRange_eq (X M Y : List (Option Nat)) : ∀ (P Q : List (Option Nat)), P.length = Q.length → (X ++ P ++ M ++ Q ++ Y).length < 1000000000 →
    slices_swapRangeCmpFunc_bill_debtP (X ++ P ++ M ++ Q ++ Y) (X.length : Int) ((X.length + P.length + M.length : Nat) : Int) (P.length : Int) () ar = some (X ++ Q ++ M ++ P ++ Y, ()) := by
  intro P Q hPQ hlen
  simp only [List.length_append] at hlen
  have loop : ∀ (n : Nat) (P1 P2 Q1 Q2 : List (Option Nat)) (l : List (Option Nat)), P2.length < n → P1.length + P2.length = P.length → P1.length = Q1.length → P2.length = Q2.length → l = X ++ P1 ++ P2 ++ M ++ Q1 ++ Q2 ++ Y →
      iter (X := slices_swapRangeCmpFunc_bill_debtP_x1) (β := slices_swapRangeCmpFunc_bill_debtP_r1) n ((X.length : Int), ((X.length + P.length + M.length : Nat) : Int), (P.length : Int), (P1.length : Int), l, ar, ()) slices_swapRangeCmpFunc_bill_debtP_b1 = some (Sum.inr (X ++ P1 ++ Q2 ++ M ++ Q1 ++ P2 ++ Y, ar, ())) := by
    intro n
    induction n with
    | zero => intro P1 P2 Q1 Q2 l h; omega
    | succ n ih =>
      intro P1 P2 Q1 Q2 l hn h1 h2 h3 hl
      rw [iter_succ]
      generalize hag : (fun y => iter n y slices_swapRangeCmpFunc_bill_debtP_b1) = again
      unfold slices_swapRangeCmpFunc_bill_debtP_b1
      dsimp only
      cases P2 with
      | nil =>
        have : Q2 = [] := List.eq_nil_of_length_eq_zero (by simpa using h3.symm)
        subst this
        rw [bif_neg (by simp at h1; omega), hl]
      | cons p P2 =>
        cases Q2 with
        | nil => simp at h3
        | cons q Q2 =>
          simp only [List.length_cons] at hn h1 h3
          have ll : l.length = X.length + P.length + M.length + Q.length + Y.length := by rw [hl]; simp; omega
          have e1 : w64 (((X.length + P.length + M.length : Nat) : Int) + (P1.length : Int)) = (((X ++ P1 ++ p :: P2 ++ M ++ Q1).length : Nat) : Int) := by rw [w64_id (by omega) (by omega)]; simp; omega
          have e2 : w64 ((X.length : Int) + (P1.length : Int)) = (((X ++ P1).length : Nat) : Int) := by rw [w64_id (by omega) (by omega)]; simp
          have l1 : l = (X ++ P1 ++ p :: P2 ++ M ++ Q1) ++ q :: (Q2 ++ Y) := by rw [hl]; simp
          have l2 : l = (X ++ P1) ++ p :: (P2 ++ M ++ Q1 ++ q :: (Q2 ++ Y)) := by rw [hl]; simp
          have g1 : l[(X ++ P1 ++ p :: P2 ++ M ++ Q1).length]? = some q := by rw [l1]; exact get_at _ _ _
          have g2 : l[(X ++ P1).length]? = some p := by rw [l2]; exact get_at _ _ _
          have g3 : l.set (X ++ P1).length q = (X ++ P1 ++ q :: P2 ++ M ++ Q1) ++ q :: (Q2 ++ Y) := by
            rw [l2, set_mid]; simp
          have hlq : (X ++ P1 ++ p :: P2 ++ M ++ Q1).length = (X ++ P1 ++ q :: P2 ++ M ++ Q1).length := by simp
          have g4 : (l.set (X ++ P1).length q)[(X ++ P1 ++ p :: P2 ++ M ++ Q1).length]? = some q := by rw [g3, hlq]; exact get_at _ _ _
          have g5 : (l.set (X ++ P1).length q).set (X ++ P1 ++ p :: P2 ++ M ++ Q1).length p = X ++ (P1 ++ [q]) ++ P2 ++ M ++ (Q1 ++ [p]) ++ Q2 ++ Y := by rw [g3, hlq, set_mid]; simp
          rw [bif_pos (by omega), e1, e2]
          simp only [Int.toNat_natCast, g1, g2, g4, g5, Option.bind_some, List.length_set, ll]
          have lq : (X ++ P1 ++ p :: P2 ++ M ++ Q1).length < X.length + P.length + M.length + Q.length + Y.length := by simp; omega
          have lp : (X ++ P1).length < X.length + P.length + M.length + Q.length + Y.length := by simp; omega
          rw [chk_pos (by simp only [Bool.and_eq_true, decide_eq_true_eq]; omega), chk_pos (by simp only [Bool.and_eq_true, decide_eq_true_eq]; omega), chk_pos (by simp only [Bool.and_eq_true, decide_eq_true_eq]; omega), chk_pos (by simp only [Bool.and_eq_true, decide_eq_true_eq]; omega)]
          have e3 : w64 ((P1.length : Int) + 1) = (((P1 ++ [q]).length : Nat) : Int) := by rw [w64_id (by omega) (by omega)]; simp
          rw [e3, ← hag]
          show iter n _ _ = _
          rw [ih (P1 ++ [q]) P2 (Q1 ++ [p]) Q2 _ (by omega) (by simp; omega) (by simp; omega) (by omega) rfl]
          simp
  unfold slices_swapRangeCmpFunc_bill_debtP
  rw [show (0 : Int) = ((([] : List (Option Nat)).length : Nat) : Int) from rfl, loop _ [] P [] Q (X ++ P ++ M ++ Q ++ Y) (by simp; omega) (by simp) rfl hPQ (by simp), joinB_inr]
  simp

theorem rotate_loop (m : Nat) : ∀ (n : Nat) (X U V Y : List (Option Nat)), U.length + V.length < n → 0 < U.length → 0 < V.length → X.length + U.length = m → (X ++ U ++ V ++ Y).length < 1000000000 →
    ∃ (X' U' V' Y' : List (Option Nat)), iter (X := slices_rotateCmpFunc_bill_debtP_x2) (β := slices_rotateCmpFunc_bill_debtP_r2) n ((m : Int), (), (U.length : Int), (V.length : Int), X ++ U ++ V ++ Y, ar, ()) slices_rotateCmpFunc_bill_debtP_b2 = some (Sum.inr ((m : Int), (), (U'.length : Int), X' ++ U' ++ V' ++ Y', ar, ())) ∧ U'.length = V'.length ∧ X'.length + U'.length = m ∧ X' ++ V' ++ U' ++ Y' = X ++ V ++ U ++ Y ∧ (X' ++ U' ++ V' ++ Y').length < 1000000000 := by
  intro n
  induction n with
  | zero => intro X U V Y h; omega
  | succ n ih =>
    intro X U V Y hn hU hV hm hlen
    rw [iter_succ]
    generalize hag : (fun y => iter n y slices_rotateCmpFunc_bill_debtP_b2) = again
    unfold slices_rotateCmpFunc_bill_debtP_b2
    dsimp only
    by_cases he : U.length = V.length
    · have hb : ((U.length : Int) != (V.length : Int)) = false := by simp [he]
      rw [hb, cond_false]
      exact ⟨X, U, V, Y, rfl, he, hm, rfl, hlen⟩
    · have hb : ((U.length : Int) != (V.length : Int)) = true := by simp; omega
      rw [hb, cond_true]
      simp only [List.length_append] at hlen
      have e1 : w64 ((m : Int) - (U.length : Int)) = (X.length : Int) := by rw [w64_id (by omega) (by omega)]; omega
      rw [e1]
      by_cases hgt : V.length < U.length
      · rw [bif_pos (by omega)]
        obtain ⟨U1, U2, rfl, hU1⟩ := split_at (l := U) (n := V.length) (by omega)
        simp only [List.length_append] at *
        have hsw := swapRange_eq (ar := ar) X U2 Y U1 V hU1 (by simp; omega)
        rw [show ((X.length + U1.length + U2.length : Nat) : Int) = (m : Int) by omega, hU1] at hsw
        rw [show X ++ (U1 ++ U2) ++ V ++ Y = X ++ U1 ++ U2 ++ V ++ Y by simp, hsw, Option.bind_some]
        have e2 : w64 (((U1.length + U2.length : Nat) : Int) - (V.length : Int)) = (U2.length : Int) := by rw [w64_id (by omega) (by omega)]; omega
        rw [e2, ← hag]
        obtain ⟨X', U', V', Y', h1, h2, h3, h4, h5⟩ := ih (X ++ V) U2 U1 Y (by omega) (by omega) (by omega) (by simp; omega) (by simp; omega)
        refine ⟨X', U', V', Y', ?_, h2, h3, by rw [h4]; simp, h5⟩
        rw [← hU1]
        exact h1
      · rw [bif_neg (by omega)]
        obtain ⟨V1, V2, rfl, hV1⟩ := split_at (l := V) (n := V.length - U.length) (by omega)
        simp only [List.length_append] at *
        have e3 : w64 (w64 ((m : Int) + ((V1.length + V2.length : Nat) : Int)) - (U.length : Int)) = ((X.length + U.length + V1.length : Nat) : Int) := by
          rw [w64_id (n := (m : Int) + ((V1.length + V2.length : Nat) : Int)) (by omega) (by omega), w64_id (by omega) (by omega)]; omega
        have hsw := swapRange_eq (ar := ar) X V1 Y U V2 (by omega) (by simp; omega)
        rw [e3, show X ++ U ++ (V1 ++ V2) ++ Y = X ++ U ++ V1 ++ V2 ++ Y by simp, hsw, Option.bind_some]
        have e2 : w64 (((V1.length + V2.length : Nat) : Int) - (U.length : Int)) = (V1.length : Int) := by rw [w64_id (by omega) (by omega)]; omega
        rw [e2, ← hag]
        obtain ⟨X', U', V', Y', h1, h2, h3, h4, h5⟩ := ih X V2 V1 (U ++ Y) (by omega) (by omega) (by omega) (by omega) (by simp; omega)
        refine ⟨X', U', V', Y', ?_, h2, h3, by rw [h4]; simp, h5⟩
        rw [show ((U.length : Nat) : Int) = (V2.length : Int) by omega, show X ++ V2 ++ V1 ++ U ++ Y = X ++ V2 ++ V1 ++ (U ++ Y) by simp]
        exact h1

/-- Two blocks change places. -/
theorem rotate_eq (X U V Y : List (Option Nat)) (hU : 0 < U.length) (hV : 0 < V.length) (hlen : (X ++ U ++ V ++ Y).length < 1000000000) :
    slices_rotateCmpFunc_bill_debtP (X ++ U ++ V ++ Y) (X.length : Int) ((X.length + U.length : Nat) : Int) ((X.length + U.length + V.length : Nat) : Int) () ar = some (X ++ V ++ U ++ Y, ()) := by
  unfold slices_rotateCmpFunc_bill_debtP
  simp only [List.length_append] at hlen
  have e1 : w64 (((X.length + U.length : Nat) : Int) - (X.length : Int)) = (U.length : Int) := by rw [w64_id (by omega) (by omega)]; omega
  have e2 : w64 (((X.length + U.length + V.length : Nat) : Int) - ((X.length + U.length : Nat) : Int)) = (V.length : Int) := by rw [w64_id (by omega) (by omega)]; omega
  rw [e1, e2]
  obtain ⟨X', U', V', Y', h1, h2, h3, h4, h5⟩ := rotate_loop (ar := ar) (X.length + U.length) (Int.natAbs ((X.length + U.length : Nat) : Int) + (Int.natAbs (U.length : Int) + (Int.natAbs (V.length : Int) + (List.length (X ++ U ++ V ++ Y) + 2)))) X U V Y (by omega) hU hV rfl (by simp; omega)
  rw [h1, joinB_inr]
  dsimp only
  simp only [List.length_append] at h5
  have e3 : w64 (((X.length + U.length : Nat) : Int) - (U'.length : Int)) = (X'.length : Int) := by rw [w64_id (by omega) (by omega)]; omega
  have hsw := swapRange_eq (ar := ar) X' [] Y' U' V' h2 (by simp; omega)
  simp only [List.append_nil, List.length_nil, Nat.add_zero] at hsw
  rw [e3, show ((X.length + U.length : Nat) : Int) = ((X'.length + U'.length : Nat) : Int) by omega, hsw, Option.bind_some, h4]

end

end Go.Md

namespace Go.Md
open Go.Dn

theorem bsearch {X β : Type} {f : X → (X → Option β) → Option β} (mk : Nat → Nat → X) (fin : Nat → Option β) (P : Nat → Prop) [DecidablePred P] (lo hi : Nat)
    (hstep : ∀ i j again, lo ≤ i → i < j → j ≤ hi → f (mk i j) again = if P ((i + j) / 2) then again (mk ((i + j) / 2 + 1) j) else again (mk i ((i + j) / 2)))
    (hend : ∀ i again, lo ≤ i → i ≤ hi → f (mk i i) again = fin i) (mono : ∀ s t, lo ≤ s → s ≤ t → t < hi → P t → P s) :
    ∀ n i j, j - i < n → lo ≤ i → i ≤ j → j ≤ hi → (∀ t, lo ≤ t → t < i → P t) → (∀ t, j ≤ t → t < hi → ¬P t) → ∃ r, iter n (mk i j) f = fin r ∧ lo ≤ r ∧ r ≤ hi ∧ (∀ t, lo ≤ t → t < r → P t) ∧ (∀ t, r ≤ t → t < hi → ¬P t)
  | 0, i, j, hn, _, _, _, _, _ => by omega
  | n + 1, i, j, hn, h1, h2, h3, h4, h5 => by
    rw [iter_succ]
    by_cases hij : i = j
    · subst hij
      exact ⟨i, hend i _ h1 h3, h1, h3, h4, h5⟩
    · rw [hstep i j _ h1 (by omega) h3]
      by_cases hP : P ((i + j) / 2)
      · rw [if_pos hP]
        exact bsearch mk fin P lo hi hstep hend mono n _ _ (by omega) (by omega) (by omega) h3 (fun t ht1 ht2 => mono t _ ht1 (show t ≤ (i + j) / 2 by omega) (by omega) hP) h5
      · rw [if_neg hP]
        exact bsearch mk fin P lo hi hstep hend mono n _ _ (by omega) h1 (by omega) (by omega) h4 (fun t ht1 ht2 hPt => hP (mono _ t (by omega) ht1 ht2 hPt))

theorem half_eq (i j : Nat) (h : i + j < 4000000000000000000) : w64 (Int.fdiv (wu64 (w64 ((i : Int) + (j : Int)))) (2 ^ 1)) = (((i + j) / 2 : Nat) : Int) := by
  rw [w64_id (n := (i : Int) + (j : Int)) (by omega) (by omega), wu64_id (by omega) (by omega), Int.fdiv_eq_ediv_of_nonneg _ (by omega), w64_id (by omega) (by omega)]
  omega

theorem get_L {α : Type} (X L R Y : List α) {i : Nat} (h : i < L.length) : (X ++ L ++ R ++ Y)[X.length + i]? = some L[i] := by
  rw [List.append_assoc, List.append_assoc, List.getElem?_append_right (by omega), List.getElem?_append_left (by omega), show X.length + i - X.length = i by omega, List.getElem?_eq_getElem h]
theorem get_R {α : Type} (X L R Y : List α) {i : Nat} (h : i < R.length) : (X ++ L ++ R ++ Y)[X.length + L.length + i]? = some R[i] := by
  rw [List.append_assoc, List.append_assoc, List.getElem?_append_right (by omega), List.getElem?_append_right (by omega), List.getElem?_append_left (by omega), show X.length + L.length + i - X.length - L.length = i by omega, List.getElem?_eq_getElem h]
theorem Srt.get {α : Type} {k : α → Int} {l : List α} (h : Srt k l) {i j : Nat} (hij : i ≤ j) (hj : j < l.length) : k (l[i]'(by omega)) ≤ k l[j] := by
  rcases Nat.lt_or_eq_of_le hij with h1 | h1
  · exact List.pairwise_iff_getElem.1 h i j (by omega) hj h1
  · subst h1; exact Int.le_refl _

section
variable {k : Option Nat → Int} {ar : List D_bill_debt} {ok : Option Nat → Prop}

/-- An element moves up. -/
theorem move_up (i : Nat) : ∀ (n : Nat) (A V Y : List (Option Nat)) (x : Option Nat), V.length < n → A.length + 1 + V.length = i → (A ++ x :: V ++ Y).length < 1000000000 →
    iter (X := slices_symMergeCmpFunc_bill_debtP_x9) (β := slices_symMergeCmpFunc_bill_debtP_r9) n ((i : Int), (A.length : Int), A ++ x :: V ++ Y, ar, ()) slices_symMergeCmpFunc_bill_debtP_b9 = some (Sum.inr (A ++ V ++ x :: Y, ar, ())) := by
  intro n
  induction n with
  | zero => intro A V Y x h; omega
  | succ n ih =>
    intro A V Y x hn hi hlen
    rw [iter_succ]
    generalize hag : (fun y => iter n y slices_symMergeCmpFunc_bill_debtP_b9) = again
    unfold slices_symMergeCmpFunc_bill_debtP_b9
    dsimp only
    simp only [List.length_append, List.length_cons] at hlen
    have e0 : w64 ((i : Int) - 1) = (i : Int) - 1 := w64_id (by omega) (by omega)
    rw [e0]
    cases V with
    | nil => rw [bif_neg (by simp at hi; omega)]; simp
    | cons v V =>
      simp only [List.length_cons] at hn hi hlen
      have e1 : w64 ((A.length : Int) + 1) = ((A.length + 1 : Nat) : Int) := by rw [w64_id (by omega) (by omega)]; omega
      have el : A ++ x :: (v :: V) ++ Y = A ++ x :: v :: (V ++ Y) := by simp
      have hg : ((A ++ x :: v :: (V ++ Y)).set A.length v)[A.length + 1]? = some v := by rw [List.getElem?_set_ne (by omega), get_at1]
      rw [bif_pos (by omega), e1, el]
      simp only [Int.toNat_natCast, get_at, get_at1, Option.bind_some, hg, swap_adj', List.length_set]
      rw [chk_pos (by simp only [Bool.and_eq_true, decide_eq_true_eq, List.length_append, List.length_cons]; omega), chk_pos (by simp only [Bool.and_eq_true, decide_eq_true_eq, List.length_append, List.length_cons]; omega), chk_pos (by simp only [Bool.and_eq_true, decide_eq_true_eq, List.length_append, List.length_cons]; omega), chk_pos (by simp only [Bool.and_eq_true, decide_eq_true_eq, List.length_append, List.length_cons]; omega), ← hag]
      have := ih (A ++ [v]) V Y x (by omega) (by simp; omega) (by simp; omega)
      simp only [List.length_append, List.length_cons, List.length_nil, Nat.zero_add] at this
      show iter n _ _ = _
      rw [show A ++ v :: x :: (V ++ Y) = A ++ [v] ++ x :: V ++ Y by simp, this]
      simp

/-- An element moves down. -/
theorem move_down (A : List (Option Nat)) : ∀ (n : Nat) (U Y : List (Option Nat)) (y : Option Nat), U.length < n → (A ++ U ++ y :: Y).length < 1000000000 →
    iter (X := slices_symMergeCmpFunc_bill_debtP_x21) (β := slices_symMergeCmpFunc_bill_debtP_r21) n ((A.length : Int), ((A.length + U.length : Nat) : Int), A ++ U ++ y :: Y, ar, ()) slices_symMergeCmpFunc_bill_debtP_b21 = some (Sum.inr (A ++ y :: U ++ Y, ar, ())) := by
  intro n
  induction n with
  | zero => intro U Y y h; omega
  | succ n ih =>
    intro U Y y hn hlen
    rw [iter_succ]
    generalize hag : (fun y => iter n y slices_symMergeCmpFunc_bill_debtP_b21) = again
    unfold slices_symMergeCmpFunc_bill_debtP_b21
    dsimp only
    simp only [List.length_append, List.length_cons] at hlen
    rcases List.eq_nil_or_concat U with rfl | ⟨V, u, rfl⟩
    · rw [bif_neg (by simp)]; simp
    · rw [List.concat_eq_append] at *
      simp only [List.length_append, List.length_cons, List.length_nil] at hn hlen ⊢
      have e1 : w64 (((A.length + (V.length + (0 + 1)) : Nat) : Int) - 1) = (((A ++ V).length : Nat) : Int) := by rw [w64_id (by omega) (by omega)]; simp; omega
      have e2 : ((A.length + (V.length + (0 + 1)) : Nat) : Int) = (((A ++ V).length + 1 : Nat) : Int) := by simp; omega
      have el : A ++ (V ++ [u]) ++ y :: Y = (A ++ V) ++ u :: y :: Y := by simp
      have hg : (((A ++ V) ++ u :: y :: Y).set ((A ++ V).length + 1) u)[(A ++ V).length]? = some u := by rw [List.getElem?_set_ne (by omega), get_at]
      rw [bif_pos (by omega), e1, e2, el]
      simp only [Int.toNat_natCast, get_at, get_at1, Option.bind_some, hg, swap_adj, List.length_set]
      rw [chk_pos (by simp only [Bool.and_eq_true, decide_eq_true_eq, List.length_append, List.length_cons]; omega), chk_pos (by simp only [Bool.and_eq_true, decide_eq_true_eq, List.length_append, List.length_cons]; omega), chk_pos (by simp only [Bool.and_eq_true, decide_eq_true_eq, List.length_append, List.length_cons]; omega), chk_pos (by simp only [Bool.and_eq_true, decide_eq_true_eq, List.length_append, List.length_cons]; omega), ← hag]
      have := ih V (u :: Y) y (by omega) (by simp; omega)
      show iter n _ _ = _
      rw [show (((A ++ V).length : Nat) : Int) = ((A.length + V.length : Nat) : Int) by simp, this]
      simp

/-- One element before a sorted block. -/
theorem merge_one_left (hc : CmpOk k ar ok) (X R Y : List (Option Nat)) (x : Option Nat) (hlen : (X ++ [x] ++ R ++ Y).length < 1000000000) (hR : Srt k R) (hx : ok x) (hok : ∀ y ∈ R, ok y) (n : Nat) (hn : R.length < n) :
    ∃ R1 R2, R = R1 ++ R2 ∧ (∀ y ∈ R1, k y < k x) ∧ (∀ y ∈ R2, k x ≤ k y) ∧ iter (X := slices_symMergeCmpFunc_bill_debtP_x3) (β := slices_symMergeCmpFunc_bill_debtP_r3) n ((X.length : Int), (), ((X.length + 1 : Nat) : Int), ((X.length + 1 + R.length : Nat) : Int), X ++ [x] ++ R ++ Y, ar, ()) slices_symMergeCmpFunc_bill_debtP_b3 = some (Sum.inr ((X.length : Int), ((X.length + 1 + R1.length : Nat) : Int), X ++ [x] ++ R ++ Y, ar, ())) := by
  simp only [List.length_append, List.length_cons, List.length_nil] at hlen
  have hx0 : (X ++ [x] ++ R ++ Y)[X.length]? = some x := by simp
  have hRt : ∀ i (h : i < R.length), (X ++ [x] ++ R ++ Y)[X.length + 1 + i]? = some R[i] := fun i h => get_R X [x] R Y h
  obtain ⟨r, h1, h2, h3, h4, h5⟩ := bsearch (f := slices_symMergeCmpFunc_bill_debtP_b3) (fun i j => ((X.length : Int), (), (i : Int), (j : Int), X ++ [x] ++ R ++ Y, ar, ())) (fun i => some (Sum.inr ((X.length : Int), (i : Int), X ++ [x] ++ R ++ Y, ar, ())))
    (fun t => k ((R[t - (X.length + 1)]?).getD none) < k x) (X.length + 1) (X.length + 1 + R.length) (by
      intro i j again hi hij hj
      unfold slices_symMergeCmpFunc_bill_debtP_b3
      dsimp only
      have hh : (i + j) / 2 - (X.length + 1) < R.length := by omega
      have hg := hRt _ hh
      rw [show X.length + 1 + ((i + j) / 2 - (X.length + 1)) = (i + j) / 2 by omega] at hg
      rw [bif_pos (by omega), half_eq i j (by omega)]
      simp only [Int.toNat_natCast, hg, hx0, Option.bind_some]
      obtain ⟨c, hcc, hlt⟩ := hc R[(i + j) / 2 - (X.length + 1)] x (hok _ (List.getElem_mem _)) hx
      rw [hcc, chk_pos (by simp only [Bool.and_eq_true, decide_eq_true_eq, List.length_append, List.length_cons]; omega), chk_pos (by simp only [Bool.and_eq_true, decide_eq_true_eq, List.length_append, List.length_cons]; omega), Option.bind_some, List.getElem?_eq_getElem hh]
      dsimp only [Option.getD]
      by_cases hk : k R[(i + j) / 2 - (X.length + 1)] < k x
      · rw [bif_pos (hlt.2 hk), if_pos hk, w64_id (by omega) (by omega)]; rfl
      · rw [bif_neg (fun h => hk (hlt.1 h)), if_neg hk])
    (by
      intro i again _ _
      unfold slices_symMergeCmpFunc_bill_debtP_b3
      dsimp only
      rw [bif_neg (by omega)])
    (by
      intro s t hs hst ht hP
      rw [List.getElem?_eq_getElem (by omega)] at hP ⊢
      have := hR.get (i := s - (X.length + 1)) (j := t - (X.length + 1)) (by omega) (by omega)
      simp only [Option.getD_some] at hP ⊢
      omega)
    n (X.length + 1) (X.length + 1 + R.length) (by omega) (Nat.le_refl _) (by omega) (Nat.le_refl _) (fun t h1 h2 => by omega) (fun t h1 h2 => by omega)
  obtain ⟨R1, R2, rfl, hR1⟩ := split_at (l := R) (n := r - (X.length + 1)) (by omega)
  refine ⟨R1, R2, rfl, ?_, ?_, ?_⟩
  · intro y hy
    obtain ⟨i, hi, rfl⟩ := List.mem_iff_getElem.1 hy
    have := h4 (X.length + 1 + i) (by omega) (by omega)
    rw [show X.length + 1 + i - (X.length + 1) = i by omega, List.getElem?_append_left hi, List.getElem?_eq_getElem hi] at this
    exact this
  · intro y hy
    obtain ⟨i, hi, rfl⟩ := List.mem_iff_getElem.1 hy
    have := h5 (X.length + 1 + (R1.length + i)) (by omega) (by simp; omega)
    rw [show X.length + 1 + (R1.length + i) - (X.length + 1) = R1.length + i by omega, List.getElem?_append_right (by omega), show R1.length + i - R1.length = i by omega, List.getElem?_eq_getElem hi] at this
    simp only [Option.getD_some] at this
    omega
  · rw [h1, show X.length + 1 + R1.length = r by omega]

/-- One element behind a sorted block. -/
theorem merge_one_right (hc : CmpOk k ar ok) (X L Y : List (Option Nat)) (y : Option Nat) (hlen : (X ++ L ++ [y] ++ Y).length < 1000000000) (hL : Srt k L) (hy : ok y) (hok : ∀ z ∈ L, ok z) (n : Nat) (hn : L.length < n) :
    ∃ L1 L2, L = L1 ++ L2 ∧ (∀ z ∈ L1, k z ≤ k y) ∧ (∀ z ∈ L2, k y < k z) ∧ iter (X := slices_symMergeCmpFunc_bill_debtP_x15) (β := slices_symMergeCmpFunc_bill_debtP_r15) n (((X.length + L.length : Nat) : Int), (), (X.length : Int), ((X.length + L.length : Nat) : Int), X ++ L ++ [y] ++ Y, ar, ()) slices_symMergeCmpFunc_bill_debtP_b15 = some (Sum.inr (((X.length + L.length : Nat) : Int), ((X.length + L1.length : Nat) : Int), X ++ L ++ [y] ++ Y, ar, ())) := by
  simp only [List.length_append, List.length_cons, List.length_nil] at hlen
  have hy0 : (X ++ L ++ [y] ++ Y)[X.length + L.length]? = some y := by
    have := get_R X L [y] Y (i := 0) (by simp)
    simpa using this
  have hLt : ∀ i (h : i < L.length), (X ++ L ++ [y] ++ Y)[X.length + i]? = some L[i] := fun i h => get_L X L [y] Y h
  obtain ⟨r, h1, h2, h3, h4, h5⟩ := bsearch (f := slices_symMergeCmpFunc_bill_debtP_b15) (fun i j => (((X.length + L.length : Nat) : Int), (), (i : Int), (j : Int), X ++ L ++ [y] ++ Y, ar, ())) (fun i => some (Sum.inr (((X.length + L.length : Nat) : Int), (i : Int), X ++ L ++ [y] ++ Y, ar, ())))
    (fun t => ¬ k y < k ((L[t - X.length]?).getD none)) X.length (X.length + L.length) (by
      intro i j again hi hij hj
      unfold slices_symMergeCmpFunc_bill_debtP_b15
      dsimp only
      have hh : (i + j) / 2 - X.length < L.length := by omega
      have hg := hLt _ hh
      rw [show X.length + ((i + j) / 2 - X.length) = (i + j) / 2 by omega] at hg
      rw [bif_pos (by omega), half_eq i j (by omega)]
      simp only [Int.toNat_natCast, hg, hy0, Option.bind_some]
      obtain ⟨c, hcc, hlt⟩ := hc y L[(i + j) / 2 - X.length] hy (hok _ (List.getElem_mem _))
      rw [hcc, chk_pos (by simp only [Bool.and_eq_true, decide_eq_true_eq, List.length_append, List.length_cons]; omega), chk_pos (by simp only [Bool.and_eq_true, decide_eq_true_eq, List.length_append, List.length_cons]; omega), Option.bind_some, List.getElem?_eq_getElem hh]
      dsimp only [Option.getD]
      by_cases hk : k y < k L[(i + j) / 2 - X.length]
      · rw [decide_eq_true (hlt.2 hk), Bool.not_true, cond_false, if_neg (fun h => h hk)]
      · rw [decide_eq_false (fun h => hk (hlt.1 h)), Bool.not_false, cond_true, if_pos hk, w64_id (by omega) (by omega)]; rfl)
    (by
      intro i again _ _
      unfold slices_symMergeCmpFunc_bill_debtP_b15
      dsimp only
      rw [bif_neg (by omega)])
    (by
      intro s t hs hst ht hP
      rw [List.getElem?_eq_getElem (by omega)] at hP ⊢
      have := hL.get (i := s - X.length) (j := t - X.length) (by omega) (by omega)
      simp only [Option.getD_some] at hP ⊢
      omega)
    n X.length (X.length + L.length) (by omega) (Nat.le_refl _) (by omega) (Nat.le_refl _) (fun t h1 h2 => by omega) (fun t h1 h2 => by omega)
  obtain ⟨L1, L2, rfl, hL1⟩ := split_at (l := L) (n := r - X.length) (by omega)
  refine ⟨L1, L2, rfl, ?_, ?_, ?_⟩
  · intro z hz
    obtain ⟨i, hi, rfl⟩ := List.mem_iff_getElem.1 hz
    have := h4 (X.length + i) (by omega) (by omega)
    rw [show X.length + i - X.length = i by omega, List.getElem?_append_left hi, List.getElem?_eq_getElem hi] at this
    simp only [Option.getD_some] at this
    omega
  · intro z hz
    obtain ⟨i, hi, rfl⟩ := List.mem_iff_getElem.1 hz
    have := h5 (X.length + (L1.length + i)) (by omega) (by simp; omega)
    rw [show X.length + (L1.length + i) - X.length = L1.length + i by omega, List.getElem?_append_right (by omega), show L1.length + i - L1.length = i by omega, List.getElem?_eq_getElem hi] at this
    simp only [Option.getD_some] at this
    omega
  · rw [h1, show X.length + L1.length = r by omega]

end

end Go.Md

namespace Go.Md
open Go.Dn

section
variable {k : Option Nat → Int} {ar : List D_bill_debt} {ok : Option Nat → Prop}

/-- The place where the halves part. -/
theorem merge_search (hc : CmpOk k ar ok) (X L R Y : List (Option Nat)) (hlen : (X ++ L ++ R ++ Y).length < 1000000000) (hL : Srt k L) (hR : Srt k R) (hokL : ∀ z ∈ L, ok z) (hokR : ∀ z ∈ R, ok z) (mid lo hi : Nat) (hmid : mid = (X.length + (X.length + L.length + R.length)) / 2)
    (hcase : (mid < X.length + L.length ∧ lo + R.length = mid ∧ hi = mid ∧ X.length ≤ lo) ∨ (X.length + L.length ≤ mid ∧ lo = X.length ∧ hi = X.length + L.length)) (n : Nat) (hn : hi < n) :
    ∃ s : Nat, iter (X := slices_symMergeCmpFunc_bill_debtP_x33) (β := slices_symMergeCmpFunc_bill_debtP_r33) n ((X.length : Int), ((X.length + L.length : Nat) : Int), ((X.length + L.length + R.length : Nat) : Int), (), (mid : Int), ((mid + (X.length + L.length) : Nat) : Int), (lo : Int), (hi : Int), ((mid + (X.length + L.length) : Nat) : Int) - 1, X ++ L ++ R ++ Y, ar, ()) slices_symMergeCmpFunc_bill_debtP_b33 = some (Sum.inr ((X.length : Int), ((X.length + L.length : Nat) : Int), ((X.length + L.length + R.length : Nat) : Int), (), (mid : Int), ((mid + (X.length + L.length) : Nat) : Int), (s : Int), X ++ L ++ R ++ Y, ar, ())) ∧
      lo ≤ s ∧ s ≤ hi ∧ (∀ i j (_ : i < L.length) (_ : j < R.length), X.length + i + 1 = s → j + s = mid → k L[i] ≤ k R[j]) ∧ (∀ i j (_ : i < L.length) (_ : j < R.length), X.length + i = s → j + 1 + s = mid → k R[j] < k L[i]) := by
  simp only [List.length_append] at hlen
  have hLt : ∀ i (h : i < L.length), (X ++ L ++ R ++ Y)[X.length + i]? = some L[i] := fun i h => get_L X L R Y h
  have hRt : ∀ i (h : i < R.length), (X ++ L ++ R ++ Y)[X.length + L.length + i]? = some R[i] := fun i h => get_R X L R Y h
  obtain ⟨r, h1, h2, h3, h4, h5⟩ := bsearch (f := slices_symMergeCmpFunc_bill_debtP_b33) (fun i j => ((X.length : Int), ((X.length + L.length : Nat) : Int), ((X.length + L.length + R.length : Nat) : Int), (), (mid : Int), ((mid + (X.length + L.length) : Nat) : Int), (i : Int), (j : Int), ((mid + (X.length + L.length) : Nat) : Int) - 1, X ++ L ++ R ++ Y, ar, ()))
    (fun s => some (Sum.inr ((X.length : Int), ((X.length + L.length : Nat) : Int), ((X.length + L.length + R.length : Nat) : Int), (), (mid : Int), ((mid + (X.length + L.length) : Nat) : Int), (s : Int), X ++ L ++ R ++ Y, ar, ())))
    (fun t => ¬ k ((R[mid - 1 - t]?).getD none) < k ((L[t - X.length]?).getD none)) lo hi (by
      intro i j again hi1 hij hj
      unfold slices_symMergeCmpFunc_bill_debtP_b33
      dsimp only
      generalize hh0 : (i + j) / 2 = h
      have hhL : h - X.length < L.length := by omega
      have hhR : mid - 1 - h < R.length := by omega
      have hg := hLt _ hhL
      rw [show X.length + (h - X.length) = h by omega] at hg
      have hg2 := hRt _ hhR
      rw [bif_pos (by omega), half_eq i j (by omega), hh0]
      have e1 : w64 (((mid + (X.length + L.length) : Nat) : Int) - 1 - (h : Int)) = ((X.length + L.length + (mid - 1 - h) : Nat) : Int) := by rw [w64_id (by omega) (by omega)]; omega
      rw [e1]
      simp only [Int.toNat_natCast, hg, hg2, Option.bind_some]
      obtain ⟨c, hcc, hlt⟩ := hc R[mid - 1 - h] L[h - X.length] (hokR _ (List.getElem_mem _)) (hokL _ (List.getElem_mem _))
      rw [hcc, chk_pos (by simp only [Bool.and_eq_true, decide_eq_true_eq, List.length_append]; omega), chk_pos (by simp only [Bool.and_eq_true, decide_eq_true_eq, List.length_append]; omega), Option.bind_some, List.getElem?_eq_getElem hhL, List.getElem?_eq_getElem hhR]
      dsimp only [Option.getD]
      by_cases hk : k R[mid - 1 - h] < k L[h - X.length]
      · rw [decide_eq_true (hlt.2 hk), Bool.not_true, cond_false, if_neg (fun h => h hk)]
      · rw [decide_eq_false (fun h => hk (hlt.1 h)), Bool.not_false, cond_true, if_pos hk, w64_id (by omega) (by omega)]; rfl)
    (by
      intro i again _ _
      unfold slices_symMergeCmpFunc_bill_debtP_b33
      dsimp only
      rw [bif_neg (by omega)])
    (by
      intro s t hs hst ht hP
      rw [List.getElem?_eq_getElem (show t - X.length < L.length by omega), List.getElem?_eq_getElem (show mid - 1 - t < R.length by omega)] at hP
      rw [List.getElem?_eq_getElem (show s - X.length < L.length by omega), List.getElem?_eq_getElem (show mid - 1 - s < R.length by omega)]
      have a1 := hL.get (i := s - X.length) (j := t - X.length) (by omega) (by omega)
      have a2 := hR.get (i := mid - 1 - t) (j := mid - 1 - s) (by omega) (by omega)
      simp only [Option.getD_some] at hP ⊢
      omega)
    n lo hi (by omega) (Nat.le_refl _) (by omega) (Nat.le_refl _) (fun t h1 h2 => by omega) (fun t h1 h2 => by omega)
  refine ⟨r, h1, h2, h3, ?_, ?_⟩
  · intro i j hi' hj' e1 e2
    have := h4 (X.length + i) (by omega) (by omega)
    rw [show X.length + i - X.length = i by omega, show mid - 1 - (X.length + i) = j by omega, List.getElem?_eq_getElem hi', List.getElem?_eq_getElem hj'] at this
    simp only [Option.getD_some] at this
    omega
  · intro i j hi' hj' e1 e2
    have := h5 (X.length + i) (by omega) (by omega)
    rw [show X.length + i - X.length = i by omega, show mid - 1 - (X.length + i) = j by omega, List.getElem?_eq_getElem hi', List.getElem?_eq_getElem hj'] at this
    simp only [Option.getD_some] at this
    omega

def symF (self : ((List (Option Nat)) × Int × Int × Int × Unit × (List D_bill_debt) × Unit) → Option ((List (Option Nat)) × Unit)) (x : (List (Option Nat)) × Int × Int × Int × Unit × (List D_bill_debt) × Unit) := slices_symMergeCmpFunc_bill_debtP_F self x.1 x.2.1 x.2.2.1 x.2.2.2.1 x.2.2.2.2.1 x.2.2.2.2.2.1

set_option maxHeartbeats 4000000 in
theorem symMerge_rec (hc : CmpOk k ar ok) : ∀ (n : Nat) (X L R Y : List (Option Nat)), L.length + R.length < n + 2 → 0 < L.length → 0 < R.length → (X ++ L ++ R ++ Y).length < 1000000000 → Srt k L → Srt k R → (∀ z ∈ L, ok z) → (∀ z ∈ R, ok z) →
    ∃ S, recM symF n (X ++ L ++ R ++ Y, (X.length : Int), ((X.length + L.length : Nat) : Int), ((X.length + L.length + R.length : Nat) : Int), (), ar, ()) = some (X ++ S ++ Y, ()) ∧ Srt k S ∧ SamE k (L ++ R) S := by
  intro n
  induction n with
  | zero => intro X L R Y h h1 h2; omega
  | succ n ih =>
    intro X L R Y hn hL0 hR0 hlen hL hR hokL hokR
    have hlen' := hlen
    simp only [List.length_append] at hlen
    show ∃ S, symF (recM symF n) _ = _ ∧ _
    generalize hself : recM symF n = self at ih
    unfold symF slices_symMergeCmpFunc_bill_debtP_F
    dsimp only
    have e1 : w64 (((X.length + L.length : Nat) : Int) - (X.length : Int)) = (L.length : Int) := by rw [w64_id (by omega) (by omega)]; omega
    have e2 : w64 (((X.length + L.length + R.length : Nat) : Int) - ((X.length + L.length : Nat) : Int)) = (R.length : Int) := by rw [w64_id (by omega) (by omega)]; omega
    rw [e1, e2]
    by_cases hL1 : L.length = 1
    · obtain ⟨x, rfl⟩ : ∃ x, L = [x] := List.length_eq_one_iff.1 hL1
      rw [show ((([x].length : Nat) : Int) == 1) = true by simp, cond_true]
      obtain ⟨R1, R2, rfl, h1, h2, h3⟩ := merge_one_left hc X R Y x hlen' hR (hokL x (by simp)) hokR (Int.natAbs (X.length : Int) + (Int.natAbs ((X.length + [x].length : Nat) : Int) + (Int.natAbs ((X.length + [x].length + R.length : Nat) : Int) + (List.length (X ++ [x] ++ R ++ Y) + 2)))) (by simp; omega)
      simp only [List.length_cons, List.length_nil, Nat.zero_add] at h3 ⊢
      rw [h3, joinB_inr]
      dsimp only
      have hmv := move_up (ar := ar) (X.length + 1 + R1.length) (Int.natAbs ((X.length + 1 + R1.length : Nat) : Int) + (Int.natAbs (X.length : Int) + (List.length (X ++ [x] ++ (R1 ++ R2) ++ Y) + 2))) X R1 (R2 ++ Y) x (by simp; omega) rfl (by simp at hlen ⊢; omega)
      rw [show X ++ x :: R1 ++ (R2 ++ Y) = X ++ [x] ++ (R1 ++ R2) ++ Y by simp] at hmv
      rw [hmv, joinB_inr]
      refine ⟨R1 ++ x :: R2, by simp, ?_, ?_⟩
      · exact hR.left.append (List.pairwise_cons.2 ⟨h2, hR.right⟩) (fun y hy z hz => by
          rcases List.mem_cons.1 hz with rfl | hz
          · have := h1 y hy; omega
          · exact hR.cross y hy z hz)
      · have := (SamE.swap (k := k) (u := [x]) (v := R1) (fun y hy z hz => by rw [List.mem_singleton.1 hy]; have := h1 z hz; omega)).append (SamE.refl k R2)
        simpa using this
    · rw [show (((L.length : Nat) : Int) == 1) = false by simp; omega, cond_false]
      by_cases hR1 : R.length = 1
      · obtain ⟨y, rfl⟩ : ∃ x, R = [x] := List.length_eq_one_iff.1 hR1
        rw [show ((([y].length : Nat) : Int) == 1) = true by simp, cond_true]
        obtain ⟨L1, L2, rfl, h1, h2, h3⟩ := merge_one_right hc X L Y y hlen' hL (hokR y (by simp)) hokL (Int.natAbs ((X.length + L.length : Nat) : Int) + (Int.natAbs (X.length : Int) + (Int.natAbs ((X.length + L.length : Nat) : Int) + (List.length (X ++ L ++ [y] ++ Y) + 2)))) (by omega)
        rw [h3, joinB_inr]
        dsimp only
        have hmv := move_down (ar := ar) (X ++ L1) (Int.natAbs ((X.length + L1.length : Nat) : Int) + (Int.natAbs ((X.length + (L1 ++ L2).length : Nat) : Int) + (List.length (X ++ (L1 ++ L2) ++ [y] ++ Y) + 2))) L2 Y y (by simp; omega) (by simp at hlen ⊢; omega)
        rw [show X ++ L1 ++ L2 ++ y :: Y = X ++ (L1 ++ L2) ++ [y] ++ Y by simp, show (((X ++ L1).length : Nat) : Int) = ((X.length + L1.length : Nat) : Int) by simp, show (((X ++ L1).length + L2.length : Nat) : Int) = ((X.length + (L1 ++ L2).length : Nat) : Int) by simp; omega] at hmv
        rw [hmv, joinB_inr]
        refine ⟨L1 ++ y :: L2, by simp, ?_, ?_⟩
        · exact hL.left.append (List.pairwise_cons.2 ⟨fun z hz => by have := h2 z hz; omega, hL.right⟩) (fun z hz w hw => by
            rcases List.mem_cons.1 hw with rfl | hw
            · exact h1 z hz
            · exact hL.cross z hz w hw)
        · have := (SamE.refl k L1).append (SamE.swap (k := k) (u := L2) (v := [y]) (fun z hz w hw => by rw [List.mem_singleton.1 hw]; have := h2 z hz; omega))
          simpa using this
      · rw [show (((R.length : Nat) : Int) == 1) = false by simp; omega, cond_false]
        have eh := half_eq X.length (X.length + L.length + R.length) (by omega)
        rw [eh]
        generalize hmid : (X.length + (X.length + L.length + R.length)) / 2 = mid
        have e3 : w64 ((mid : Int) + ((X.length + L.length : Nat) : Int)) = ((mid + (X.length + L.length) : Nat) : Int) := by rw [w64_id (by omega) (by omega)]; omega
        rw [e3]
        -- where to look
        obtain ⟨lo, hi, hcase, hv⟩ : ∃ lo hi : Nat, ((mid < X.length + L.length ∧ lo + R.length = mid ∧ hi = mid ∧ X.length ≤ lo) ∨ (X.length + L.length ≤ mid ∧ lo = X.length ∧ hi = X.length + L.length)) ∧
            (bif decide (((X.length + L.length : Nat) : Int) > (mid : Int)) then
              (some (Sum.inr ((X.length : Int), ((X.length + L.length : Nat) : Int), ((X.length + L.length + R.length : Nat) : Int), (), (mid : Int), ((mid + (X.length + L.length) : Nat) : Int), w64 (((mid + (X.length + L.length) : Nat) : Int) - ((X.length + L.length + R.length : Nat) : Int)), (mid : Int), X ++ L ++ R ++ Y, ar, ())) : Option (((List (Option Nat)) × Unit) ⊕ (Int × Int × Int × Unit × Int × Int × Int × Int × (List (Option Nat)) × (List D_bill_debt) × Unit)))
            else some (Sum.inr ((X.length : Int), ((X.length + L.length : Nat) : Int), ((X.length + L.length + R.length : Nat) : Int), (), (mid : Int), ((mid + (X.length + L.length) : Nat) : Int), (X.length : Int), ((X.length + L.length : Nat) : Int), X ++ L ++ R ++ Y, ar, ()))) = some (Sum.inr ((X.length : Int), ((X.length + L.length : Nat) : Int), ((X.length + L.length + R.length : Nat) : Int), (), (mid : Int), ((mid + (X.length + L.length) : Nat) : Int), (lo : Int), (hi : Int), X ++ L ++ R ++ Y, ar, ())) := by
          by_cases hm : mid < X.length + L.length
          · refine ⟨mid - R.length, mid, .inl ⟨hm, by omega, rfl, by omega⟩, ?_⟩
            rw [bif_pos (by omega), w64_id (by omega) (by omega), show ((mid + (X.length + L.length) : Nat) : Int) - ((X.length + L.length + R.length : Nat) : Int) = ((mid - R.length : Nat) : Int) by omega]
          · refine ⟨X.length, X.length + L.length, .inr ⟨by omega, rfl, rfl⟩, ?_⟩
            rw [bif_neg (by omega)]
        rw [hv, joinB_inr]
        dsimp only
        have e4 : w64 (((mid + (X.length + L.length) : Nat) : Int) - 1) = ((mid + (X.length + L.length) : Nat) : Int) - 1 := w64_id (by omega) (by omega)
        rw [e4]
        obtain ⟨s, h1, h2, h3, hF2, hF1⟩ := merge_search hc X L R Y hlen' hL hR hokL hokR mid lo hi hmid.symm hcase (Int.natAbs (X.length : Int) + (Int.natAbs ((X.length + L.length : Nat) : Int) + (Int.natAbs ((X.length + L.length + R.length : Nat) : Int) + (Int.natAbs (mid : Int) + (Int.natAbs ((mid + (X.length + L.length) : Nat) : Int) + (Int.natAbs (lo : Int) + (Int.natAbs (hi : Int) + (Int.natAbs (((mid + (X.length + L.length) : Nat) : Int) - 1) + (List.length (X ++ L ++ R ++ Y) + 2))))))))) (by omega)
        rw [h1, joinB_inr]
        dsimp only
        clear h1 hv
        -- the four parts
        obtain ⟨L1, L2, rfl, hL1l⟩ := split_at (l := L) (n := s - X.length) (by omega)
        obtain ⟨R1, R2, rfl, hR1l⟩ := split_at (l := R) (n := mid - s) (by simp only [List.length_append] at *; omega)
        simp only [List.length_append] at hn hlen hL1 hR1 hmid hcase e1 e2 e3 e4 eh hL0 hR0
        have F1 : ∀ y ∈ R1, ∀ z ∈ L2, k y < k z := by
          intro y hy z hz
          have hr0 : 0 < R1.length := List.length_pos_of_mem hy
          have hl0 : 0 < L2.length := List.length_pos_of_mem hz
          have := hF1 L1.length (R1.length - 1) (by simp; omega) (by simp; omega) (by omega) (by omega)
          rw [List.getElem_append_left (show R1.length - 1 < R1.length by omega), List.getElem_append_right (by omega)] at this
          obtain ⟨i, hi', rfl⟩ := List.mem_iff_getElem.1 hy
          obtain ⟨j, hj', rfl⟩ := List.mem_iff_getElem.1 hz
          have a1 := hR.left.get (i := i) (j := R1.length - 1) (by omega) (by omega)
          have a2 := hL.right.get (i := L1.length - L1.length) (j := j) (by omega) hj'
          omega
        have F2 : ∀ y ∈ L1, ∀ z ∈ R2, k y ≤ k z := by
          intro y hy z hz
          have hr0 : 0 < L1.length := List.length_pos_of_mem hy
          have hl0 : 0 < R2.length := List.length_pos_of_mem hz
          have := hF2 (L1.length - 1) R1.length (by simp; omega) (by simp; omega) (by omega) (by omega)
          rw [List.getElem_append_left (show L1.length - 1 < L1.length by omega), List.getElem_append_right (by omega)] at this
          obtain ⟨i, hi', rfl⟩ := List.mem_iff_getElem.1 hy
          obtain ⟨j, hj', rfl⟩ := List.mem_iff_getElem.1 hz
          have a1 := hL.left.get (i := i) (j := L1.length - 1) (by omega) (by omega)
          have a2 := hR.right.get (i := R1.length - R1.length) (j := j) (by omega) hj'
          omega
        have e5 : w64 (((mid + (X.length + (L1 ++ L2).length) : Nat) : Int) - (s : Int)) = ((X.length + (L1 ++ L2).length + R1.length : Nat) : Int) := by
          rw [w64_id (by simp; omega) (by simp; omega)]; simp only [List.length_append]; omega
        rw [e5]
        have hokL1 : ∀ z ∈ L1, ok z := fun z hz => hokL z (by simp [hz])
        have hokL2 : ∀ z ∈ L2, ok z := fun z hz => hokL z (by simp [hz])
        have hokR1 : ∀ z ∈ R1, ok z := fun z hz => hokR z (by simp [hz])
        have hokR2 : ∀ z ∈ R2, ok z := fun z hz => hokR z (by simp [hz])
        -- the first half
        have ph1 : ∃ S1, (X.length < s → s < mid → self (X ++ L1 ++ R1 ++ (L2 ++ R2 ++ Y), (X.length : Int), (s : Int), (mid : Int), (), ar, ()) = some (X ++ S1 ++ (L2 ++ R2 ++ Y), ())) ∧ (¬(X.length < s ∧ s < mid) → S1 = L1 ++ R1) ∧ Srt k S1 ∧ SamE k (L1 ++ R1) S1 := by
          by_cases hb : X.length < s ∧ s < mid
          · obtain ⟨S1, g1, g2, g3⟩ := ih X L1 R1 (L2 ++ R2 ++ Y) (by omega) (by omega) (by omega) (by simp; omega) hL.left hR.left hokL1 hokR1
            rw [show ((X.length + L1.length : Nat) : Int) = (s : Int) by omega, show ((X.length + L1.length + R1.length : Nat) : Int) = (mid : Int) by omega] at g1
            exact ⟨S1, fun _ _ => g1, fun h => absurd hb h, g2, g3⟩
          · refine ⟨L1 ++ R1, fun h1 h2 => absurd ⟨h1, h2⟩ hb, fun _ => rfl, ?_, SamE.refl _ _⟩
            rcases (show L1.length = 0 ∨ R1.length = 0 by omega) with h | h
            · rw [List.eq_nil_of_length_eq_zero h]; exact hR.left
            · rw [List.eq_nil_of_length_eq_zero h, List.append_nil]; exact hL.left
        obtain ⟨S1, hS1a, hS1b, hS1s, hS1e⟩ := ph1
        have hS1l : S1.length = L1.length + R1.length := by rw [hS1e.length]; simp
        -- the second half
        have ph2 : ∃ S2, (bif decide ((mid : Int) < ((X.length + (L1 ++ L2).length + R1.length : Nat) : Int)) then
              bif decide (((X.length + (L1 ++ L2).length + R1.length : Nat) : Int) < ((X.length + (L1 ++ L2).length + (R1 ++ R2).length : Nat) : Int)) then
                Option.bind (self (X ++ S1 ++ (L2 ++ R2 ++ Y), (mid : Int), ((X.length + (L1 ++ L2).length + R1.length : Nat) : Int), ((X.length + (L1 ++ L2).length + (R1 ++ R2).length : Nat) : Int), (), ar, ())) fun r38 => some (r38.1, ())
              else some (X ++ S1 ++ (L2 ++ R2 ++ Y), ())
            else some (X ++ S1 ++ (L2 ++ R2 ++ Y), ())) = some (X ++ (S1 ++ S2) ++ Y, ()) ∧ Srt k S2 ∧ SamE k (L2 ++ R2) S2 := by
          simp only [List.length_append]
          by_cases hb1 : 0 < L2.length
          · rw [bif_pos (by omega)]
            by_cases hb2 : 0 < R2.length
            · rw [bif_pos (by omega)]
              obtain ⟨S2, g1, g2, g3⟩ := ih (X ++ S1) L2 R2 Y (by omega) hb1 hb2 (by simp; omega) hL.right hR.right hokL2 hokR2
              rw [show (((X ++ S1).length : Nat) : Int) = (mid : Int) by simp; omega, show (((X ++ S1).length + L2.length : Nat) : Int) = ((X.length + (L1.length + L2.length) + R1.length : Nat) : Int) by simp; omega, show (((X ++ S1).length + L2.length + R2.length : Nat) : Int) = ((X.length + (L1.length + L2.length) + (R1.length + R2.length) : Nat) : Int) by simp; omega] at g1
              rw [show X ++ S1 ++ (L2 ++ R2 ++ Y) = X ++ S1 ++ L2 ++ R2 ++ Y by simp, g1]
              exact ⟨S2, by simp, g2, g3⟩
            · have : R2 = [] := List.eq_nil_of_length_eq_zero (by omega)
              subst this
              rw [bif_neg (by simp)]
              exact ⟨L2, by simp, hL.right, by simpa using SamE.refl k L2⟩
          · have : L2 = [] := List.eq_nil_of_length_eq_zero (by omega)
            subst this
            rw [bif_neg (by simp; omega)]
            exact ⟨R2, by simp, hR.right, SamE.refl _ _⟩
        obtain ⟨S2, hE2, hS2s, hS2e⟩ := ph2
        have fin : Srt k (S1 ++ S2) ∧ SamE k (L1 ++ L2 ++ (R1 ++ R2)) (S1 ++ S2) := by
          constructor
          · refine hS1s.append hS2s fun y hy z hz => ?_
            rcases List.mem_append.1 (hS1e.mem.1 hy) with h | h <;> rcases List.mem_append.1 (hS2e.mem.1 hz) with h' | h'
            · exact hL.cross y h z h'
            · exact F2 y h z h'
            · have := F1 y h z h'; omega
            · exact hR.cross y h z h'
          · have h1 : SamE k (L1 ++ (L2 ++ R1) ++ R2) (L1 ++ (R1 ++ L2) ++ R2) := ((SamE.refl k L1).append (SamE.swap fun y hy z hz => by have := F1 z hz y hy; omega)).append (SamE.refl k R2)
            have h2 := hS1e.append hS2e
            have h3 : SamE k (L1 ++ L2 ++ (R1 ++ R2)) (L1 ++ R1 ++ (L2 ++ R2)) := by simpa using h1
            exact h3.trans h2
        refine ⟨S1 ++ S2, ?_, fin.1, fin.2⟩
        have hsL : ((X.length + (L1 ++ L2).length : Nat) : Int) = ((X.length + L1.length + L2.length : Nat) : Int) := by simp; omega
        -- the list with its blocks in place
        have tail : ∀ (D : List (Option Nat)), D = X ++ L1 ++ R1 ++ (L2 ++ R2 ++ Y) →
            (bif decide ((X.length : Int) < (s : Int)) then
              joinB (β := ((List (Option Nat)) × Unit)) (γ := (Int × Unit × Int × Int × (List (Option Nat)) × (List D_bill_debt) × Unit)) (
                bif decide ((s : Int) < (mid : Int)) then
                  Option.bind (self (D, (X.length : Int), (s : Int), (mid : Int), (), ar, ())) fun r35 =>
                  some (Sum.inr (((X.length + (L1 ++ L2).length + (R1 ++ R2).length : Nat) : Int), (), (mid : Int), ((X.length + (L1 ++ L2).length + R1.length : Nat) : Int), r35.1, ar, ()))
                else
                  some (Sum.inr (((X.length + (L1 ++ L2).length + (R1 ++ R2).length : Nat) : Int), (), (mid : Int), ((X.length + (L1 ++ L2).length + R1.length : Nat) : Int), D, ar, ()))) fun v36 =>
              bif decide (v36.2.2.1 < v36.2.2.2.1) then
                bif decide (v36.2.2.2.1 < v36.1) then
                  Option.bind (self (v36.2.2.2.2.1, v36.2.2.1, v36.2.2.2.1, v36.1, v36.2.1, v36.2.2.2.2.2.1, ())) fun r37 =>
                  some (r37.1, ())
                else
                  some (v36.2.2.2.2.1, ())
              else
                some (v36.2.2.2.2.1, ())
            else
              bif decide ((mid : Int) < ((X.length + (L1 ++ L2).length + R1.length : Nat) : Int)) then
                bif decide (((X.length + (L1 ++ L2).length + R1.length : Nat) : Int) < ((X.length + (L1 ++ L2).length + (R1 ++ R2).length : Nat) : Int)) then
                  Option.bind (self (D, (mid : Int), ((X.length + (L1 ++ L2).length + R1.length : Nat) : Int), ((X.length + (L1 ++ L2).length + (R1 ++ R2).length : Nat) : Int), (), ar, ())) fun r38 =>
                  some (r38.1, ())
                else
                  some (D, ())
              else
                some (D, ())) = some (X ++ (S1 ++ S2) ++ Y, ()) := by
          intro D hD
          by_cases hb1 : X.length < s
          · rw [bif_pos (by omega)]
            by_cases hb2 : s < mid
            · rw [bif_pos (by omega), hD, hS1a hb1 hb2, Option.bind_some, joinB_inr]
              exact hE2
            · rw [bif_neg (by omega), joinB_inr, hD]
              have : X ++ L1 ++ R1 ++ (L2 ++ R2 ++ Y) = X ++ S1 ++ (L2 ++ R2 ++ Y) := by rw [hS1b (fun h => hb2 h.2)]; simp
              rw [this]
              exact hE2
          · rw [bif_neg (by omega), hD]
            have : X ++ L1 ++ R1 ++ (L2 ++ R2 ++ Y) = X ++ S1 ++ (L2 ++ R2 ++ Y) := by rw [hS1b (fun h => hb1 h.1)]; simp
            rw [this]
            exact hE2
        by_cases hsm : s < X.length + (L1 ++ L2).length
        · rw [bif_pos (by omega)]
          by_cases hme : 0 < R1.length
          · have hrot := rotate_eq (ar := ar) (X ++ L1) L2 R1 (R2 ++ Y) (by simp at hsm; omega) hme (by simp; omega)
            rw [show (((X ++ L1).length : Nat) : Int) = (s : Int) by simp; omega, show (((X ++ L1).length + L2.length : Nat) : Int) = ((X.length + (L1 ++ L2).length : Nat) : Int) by simp; omega, show (((X ++ L1).length + L2.length + R1.length : Nat) : Int) = ((X.length + (L1 ++ L2).length + R1.length : Nat) : Int) by simp; omega,
              show X ++ L1 ++ L2 ++ R1 ++ (R2 ++ Y) = X ++ (L1 ++ L2) ++ (R1 ++ R2) ++ Y by simp] at hrot
            rw [bif_pos (by omega), hrot, Option.bind_some, joinB_inr]
            exact tail _ (by simp)
          · have : R1 = [] := List.eq_nil_of_length_eq_zero (by omega)
            subst this
            rw [bif_neg (by simp), joinB_inr]
            exact tail _ (by simp)
        · rw [bif_neg (by omega)]
          have : L2 = [] := List.eq_nil_of_length_eq_zero (by simp at hsm; omega)
          subst this
          exact tail _ (by simp)
end

end Go.Md

namespace Go.Md
open Go.Dn

/-- Sorted in chunks. -/
def ChS {α : Type} (k : α → Int) (bs : Nat) (l : List α) : Prop := ∀ j : Nat, Srt k ((l.drop (j * bs)).take bs)
theorem ChS.nil {α : Type} (k : α → Int) (bs : Nat) : ChS k bs [] := fun _ => by simp [Srt]
theorem ChS.snoc {α : Type} {k : α → Int} {bs : Nat} {A S : List α} {j : Nat} (h : ChS k bs A) (hA : A.length = j * bs) (hS : Srt k S) (hl : S.length ≤ bs) : ChS k bs (A ++ S) := by
  intro i
  rcases Nat.lt_trichotomy i j with hij | hij | hij
  · have h1 : (i + 1) * bs ≤ j * bs := Nat.mul_le_mul_right _ hij
    rw [Nat.add_mul, Nat.one_mul] at h1
    rw [List.drop_append_of_le_length (by omega), List.take_append_of_le_length (by rw [List.length_drop]; omega)]
    exact h i
  · subst hij
    rw [← hA, List.drop_left, List.take_of_length_le hl]
    exact hS
  · have h1 : (j + 1) * bs ≤ i * bs := Nat.mul_le_mul_right _ hij
    rw [Nat.add_mul, Nat.one_mul] at h1
    rw [List.drop_of_length_le (by rw [List.length_append]; omega)]
    simp [Srt]
theorem ChS.drop {α : Type} {k : α → Int} {bs : Nat} {l : List α} (h : ChS k bs l) (i : Nat) : ChS k bs (l.drop (i * bs)) := by
  intro j
  rw [List.drop_drop, ← Nat.add_mul]
  exact h (i + j)
theorem Srt.take {α : Type} {k : α → Int} {l : List α} (h : Srt k l) (n : Nat) : Srt k (l.take n) := by
  rw [← List.take_append_drop n l] at h; exact h.left

section
variable {k : Option Nat → Int} {ar : List D_bill_debt} {ok : Option Nat → Prop}

theorem symMerge_eq (hc : CmpOk k ar ok) (X L R Y : List (Option Nat)) (h1 : 0 < L.length) (h2 : 0 < R.length) (hlen : (X ++ L ++ R ++ Y).length < 1000000000) (hL : Srt k L) (hR : Srt k R) (hokL : ∀ z ∈ L, ok z) (hokR : ∀ z ∈ R, ok z) :
    ∃ S, slices_symMergeCmpFunc_bill_debtP (X ++ L ++ R ++ Y) (X.length : Int) ((X.length + L.length : Nat) : Int) ((X.length + L.length + R.length : Nat) : Int) () ar = some (X ++ S ++ Y, ()) ∧ Srt k S ∧ SamE k (L ++ R) S := by
  unfold slices_symMergeCmpFunc_bill_debtP
  exact symMerge_rec hc _ X L R Y (by unfold slices_symMergeCmpFunc_bill_debtP_fuel; simp only [List.length_append]; omega) h1 h2 hlen hL hR hokL hokR

theorem stable_first (hc : CmpOk k ar ok) (N : Nat) (hN : N < 100000000) : ∀ (n : Nat) (A Z : List (Option Nat)) (j : Nat), A.length = j * 20 → A.length + Z.length = N → Z.length < n → ChS k 20 A → (∀ z ∈ A, ok z) → (∀ z ∈ Z, ok z) →
    ∃ A' Z' j', iter (X := slices_stableCmpFunc_bill_debtP_x2) (β := slices_stableCmpFunc_bill_debtP_r2) n ((N : Int), (), 20, (A.length : Int), ((A.length + 20 : Nat) : Int), A ++ Z, ar, ()) slices_stableCmpFunc_bill_debtP_b2 = some (Sum.inr ((N : Int), (), 20, (A'.length : Int), A' ++ Z', ar, ())) ∧ A'.length = j' * 20 ∧ Z'.length < 20 ∧ ChS k 20 A' ∧ SamE k (A ++ Z) (A' ++ Z') := by
  intro n
  induction n with
  | zero => intro A Z j _ _ h; omega
  | succ n ih =>
    intro A Z j hA hAZ hn hch hokA hokZ
    rw [iter_succ]
    generalize hag : (fun y => iter n y slices_stableCmpFunc_bill_debtP_b2) = again
    unfold slices_stableCmpFunc_bill_debtP_b2
    dsimp only
    by_cases hb : 20 ≤ Z.length
    · rw [bif_pos (by omega)]
      obtain ⟨S, Y, rfl, hS⟩ := split_at (l := Z) (n := 20) hb
      simp only [List.length_append] at hAZ hn
      obtain ⟨S', g1, g2, g3⟩ := insertion_eq hc A S Y (by simp; omega) (fun z hz => hokZ z (by simp [hz]))
      rw [hS] at g1
      rw [show A ++ (S ++ Y) = A ++ S ++ Y by simp, g1, Option.bind_some]
      dsimp only
      have hS' : S'.length = 20 := by rw [g3.length, hS]
      have e1 : w64 (((A.length + 20 : Nat) : Int) + 20) = (((A ++ S').length + 20 : Nat) : Int) := by rw [w64_id (by omega) (by omega)]; simp; omega
      rw [e1, show ((A.length + 20 : Nat) : Int) = (((A ++ S').length : Nat) : Int) by simp; omega, ← hag]
      obtain ⟨A', Z', j', h1, h2, h3, h4, h5⟩ := ih (A ++ S') Y (j + 1) (by simp; omega) (by simp; omega) (by omega) (hch.snoc hA g2 (by omega)) (fun z hz => by
        rcases List.mem_append.1 hz with h | h
        · exact hokA z h
        · exact hokZ z (by simp [g3.mem.1 h])) (fun z hz => hokZ z (by simp [hz]))
      refine ⟨A', Z', j', h1, h2, h3, h4, ?_⟩
      have : SamE k (A ++ S ++ Y) (A ++ S' ++ Y) := ((SamE.refl k A).append g3).append (SamE.refl k Y)
      exact this.trans h5
    · rw [bif_neg (by omega)]
      exact ⟨A, Z, j, rfl, hA, by omega, hch, SamE.refl _ _⟩

theorem stable_pass (hc : CmpOk k ar ok) (N bs : Nat) (hN : N < 100000000) (hbs : 0 < bs) (hbN : bs < N) : ∀ (n : Nat) (A Z : List (Option Nat)) (j : Nat), A.length = j * (2 * bs) → A.length + Z.length = N → Z.length < n → ChS k (2 * bs) A → ChS k bs Z → (∀ z ∈ A, ok z) → (∀ z ∈ Z, ok z) →
    ∃ A' Z' j', iter (X := slices_stableCmpFunc_bill_debtP_x9) (β := slices_stableCmpFunc_bill_debtP_r9) n ((N : Int), (), (bs : Int), (A.length : Int), ((A.length + 2 * bs : Nat) : Int), A ++ Z, ar, ()) slices_stableCmpFunc_bill_debtP_b9 = some (Sum.inr ((N : Int), (), (bs : Int), (A'.length : Int), A' ++ Z', ar, ())) ∧ A'.length = j' * (2 * bs) ∧ Z'.length < 2 * bs ∧ ChS k (2 * bs) A' ∧ ChS k bs Z' ∧ SamE k (A ++ Z) (A' ++ Z') := by
  intro n
  induction n with
  | zero => intro A Z j _ _ h; omega
  | succ n ih =>
    intro A Z j hA hAZ hn hch hcz hokA hokZ
    rw [iter_succ]
    generalize hag : (fun y => iter n y slices_stableCmpFunc_bill_debtP_b9) = again
    unfold slices_stableCmpFunc_bill_debtP_b9
    dsimp only
    by_cases hb : 2 * bs ≤ Z.length
    · rw [bif_pos (by omega)]
      obtain ⟨L, Z1, rfl, hL⟩ := split_at (l := Z) (n := bs) (by omega)
      obtain ⟨R, Y, rfl, hR⟩ := split_at (l := Z1) (n := bs) (by simp at hb; omega)
      simp only [List.length_append] at hAZ hn hb
      have sL : Srt k L := by
        have := hcz 0
        rw [Nat.zero_mul, List.drop_zero, ← hL, List.take_left] at this
        exact this
      have sR : Srt k R := by
        have := hcz 1
        rw [Nat.one_mul] at this
        conv at this => arg 2; rw [show bs = L.length by omega, List.drop_left, show L.length = R.length by omega, List.take_left]
        exact this
      have cY : ChS k bs Y := by
        have := hcz.drop 2
        rw [show L ++ (R ++ Y) = (L ++ R) ++ Y by simp, show 2 * bs = (L ++ R).length by simp; omega, List.drop_left] at this
        exact this
      obtain ⟨S, g1, g2, g3⟩ := symMerge_eq hc A L R Y (by omega) (by omega) (by simp; omega) sL sR (fun z hz => hokZ z (by simp [hz])) (fun z hz => hokZ z (by simp [hz]))
      have e0 : w64 ((A.length : Int) + (bs : Int)) = ((A.length + L.length : Nat) : Int) := by rw [w64_id (by omega) (by omega)]; omega
      rw [e0, show ((A.length + 2 * bs : Nat) : Int) = ((A.length + L.length + R.length : Nat) : Int) by omega, show A ++ (L ++ (R ++ Y)) = A ++ L ++ R ++ Y by simp, g1, Option.bind_some]
      dsimp only
      have hSl : S.length = 2 * bs := by rw [g3.length]; simp; omega
      have e1 : w64 (((A.length + L.length + R.length : Nat) : Int) + w64 (2 * (bs : Int))) = (((A ++ S).length + 2 * bs : Nat) : Int) := by
        rw [w64_id (n := 2 * (bs : Int)) (by omega) (by omega), w64_id (by omega) (by omega)]; simp; omega
      rw [e1, show ((A.length + L.length + R.length : Nat) : Int) = (((A ++ S).length : Nat) : Int) by simp; omega, ← hag]
      obtain ⟨A', Z', j', h1, h2, h3, h4, h5, h6⟩ := ih (A ++ S) Y (j + 1) (by rw [List.length_append, hA, hSl, Nat.add_mul, Nat.one_mul]) (by simp; omega) (by omega) (hch.snoc hA g2 (by omega)) cY (fun z hz => by
        rcases List.mem_append.1 hz with h | h
        · exact hokA z h
        · rcases List.mem_append.1 (g3.mem.1 h) with h | h <;> exact hokZ z (by simp [h])) (fun z hz => hokZ z (by simp [hz]))
      refine ⟨A', Z', j', h1, h2, h3, h4, h5, ?_⟩
      have : SamE k (A ++ (L ++ R) ++ Y) (A ++ S ++ Y) := ((SamE.refl k A).append g3).append (SamE.refl k Y)
      have h7 := this.trans h6
      simpa using h7
    · rw [bif_neg (by omega)]
      exact ⟨A, Z, j, rfl, hA, by omega, hch, hcz, SamE.refl _ _⟩

theorem stable_last (hc : CmpOk k ar ok) (N : Nat) (hN : N < 100000000) : ∀ (n bs : Nat) (l : List (Option Nat)), l.length = N → 0 < bs → N < bs + n ∧ 0 < n → bs < 400000000 → ChS k bs l → (∀ z ∈ l, ok z) →
    ∃ l', iter (X := slices_stableCmpFunc_bill_debtP_x7) (β := slices_stableCmpFunc_bill_debtP_r7) n ((N : Int), (), (bs : Int), l, ar, ()) slices_stableCmpFunc_bill_debtP_b7 = some (Sum.inr (l', ar, ())) ∧ Srt k l' ∧ SamE k l l' := by
  intro n
  induction n with
  | zero =>
    intro bs l hl hbs hn hb2 hch hok
    exact absurd hn (by omega)
  | succ n ih =>
    intro bs l hl hbs hn hb2 hch hok
    rw [iter_succ]
    generalize hag : (fun y => iter n y slices_stableCmpFunc_bill_debtP_b7) = again
    unfold slices_stableCmpFunc_bill_debtP_b7
    dsimp only
    by_cases hb : bs < N
    · rw [bif_pos (by omega)]
      have e0 : w64 (2 * (bs : Int)) = (((([] : List (Option Nat)).length) + 2 * bs : Nat) : Int) := by rw [w64_id (by omega) (by omega)]; simp
      rw [e0, show (0 : Int) = ((([] : List (Option Nat)).length : Nat) : Int) from rfl]
      obtain ⟨A, Z, j, h1, h2, h3, h4, h5, h6⟩ := stable_pass hc N bs hN hbs hb (Int.natAbs (N : Int) + (Int.natAbs (bs : Int) + (Int.natAbs ((([] : List (Option Nat)).length : Nat) : Int) + (Int.natAbs (((([] : List (Option Nat)).length) + 2 * bs : Nat) : Int) + (List.length l + 2))))) [] l 0 (by simp) (by simpa using hl) (by omega) (ChS.nil _ _) hch (by simp) hok
      rw [List.nil_append] at h1 h6
      rw [h1, joinB_inr]
      dsimp only
      have hAZ : A.length + Z.length = N := by have := h6.length; simp at this; omega
      have hokAZ : ∀ z ∈ A ++ Z, ok z := fun z hz => hok z (h6.mem.1 hz)
      have e1 : w64 ((A.length : Int) + (bs : Int)) = ((A.length + bs : Nat) : Int) := by rw [w64_id (by omega) (by omega)]; omega
      have e2 : w64 ((bs : Int) * 2) = ((2 * bs : Nat) : Int) := by rw [w64_id (by omega) (by omega)]; omega
      rw [e1, e2]
      by_cases hlast : A.length + bs < N
      · rw [bif_pos (by omega)]
        obtain ⟨L, R, rfl, hL⟩ := split_at (l := Z) (n := bs) (by omega)
        simp only [List.length_append] at hAZ h3
        have sL : Srt k L := by
          have := h5 0
          rw [Nat.zero_mul, List.drop_zero, ← hL, List.take_left] at this
          exact this
        have sR : Srt k R := by
          have := h5 1
          rw [Nat.one_mul] at this
          conv at this => arg 2; rw [show List.drop bs (L ++ R) = R by rw [← hL]; exact List.drop_left, List.take_of_length_le (by omega)]
          exact this
        obtain ⟨S, g1, g2, g3⟩ := symMerge_eq hc A L R [] (by omega) (by omega) (by simp; omega) sL sR (fun z hz => hokAZ z (by simp [hz])) (fun z hz => hokAZ z (by simp [hz]))
        simp only [List.append_nil] at g1
        rw [show ((A.length + bs : Nat) : Int) = ((A.length + L.length : Nat) : Int) by omega, show ((N : Nat) : Int) = ((A.length + L.length + R.length : Nat) : Int) by omega, show A ++ (L ++ R) = A ++ L ++ R by simp, g1, Option.bind_some, ← hag]
        have hsam : SamE k l (A ++ S) := h6.trans (by simpa using (SamE.refl k A).append g3)
        obtain ⟨l', q1, q2, q3⟩ := ih (2 * bs) (A ++ S) (by rw [hsam.length]; exact hl) (by omega) ⟨by omega, by omega⟩ (by omega) (h4.snoc h2 g2 (by rw [g3.length]; simp; omega)) (fun z hz => hok z (hsam.mem.1 hz))
        rw [show ((A.length + L.length + R.length : Nat) : Int) = ((N : Nat) : Int) by omega]
        exact ⟨l', q1, q2, hsam.trans q3⟩
      · rw [bif_neg (by omega), ← hag]
        have sZ : Srt k Z := by
          have := h5 0
          rw [Nat.zero_mul, List.drop_zero, List.take_of_length_le (by omega)] at this
          exact this
        obtain ⟨l', q1, q2, q3⟩ := ih (2 * bs) (A ++ Z) (by simp; omega) (by omega) ⟨by omega, by omega⟩ (by omega) (h4.snoc h2 sZ (by omega)) hokAZ
        exact ⟨l', q1, q2, h6.trans q3⟩
    · rw [bif_neg (by omega)]
      refine ⟨l, rfl, ?_, SamE.refl _ _⟩
      have := hch 0
      rw [Nat.zero_mul, List.drop_zero, List.take_of_length_le (by omega)] at this
      exact this

theorem sortStable_eq (hc : CmpOk k ar ok) (l : List (Option Nat)) (hl : l.length < 100000000) (hok : ∀ z ∈ l, ok z) : ∃ l', slices_SortStableFunc_bill_debtP l () ar = some (l', ()) ∧ Srt k l' ∧ SamE k l l' := by
  unfold slices_SortStableFunc_bill_debtP slices_stableCmpFunc_bill_debtP
  obtain ⟨A, Z, j, h1, h2, h3, h4, h5⟩ := stable_first hc l.length hl (Int.natAbs (l.length : Int) + (Int.natAbs (20 : Int) + (Int.natAbs (0 : Int) + (Int.natAbs (20 : Int) + (List.length l + 2))))) [] l 0 (by simp) (by simp) (by omega) (ChS.nil _ _) (by simp) hok
  simp only [List.length_nil, List.nil_append] at h1 h5
  rw [show ((0 + 20 : Nat) : Int) = 20 from rfl, show ((0 : Nat) : Int) = 0 from rfl] at h1
  rw [h1, joinB_inr]
  dsimp only
  have hAZ : A.length + Z.length = l.length := by have := h5.length; simp at this; omega
  obtain ⟨Z', g1, g2, g3⟩ := insertion_eq hc A Z [] (by simp; omega) (fun z hz => hok z (h5.mem.1 (by simp [hz])))
  simp only [List.append_nil] at g1
  rw [show ((A.length + Z.length : Nat) : Int) = (l.length : Int) by omega] at g1
  rw [g1, Option.bind_some]
  dsimp only
  have hsam : SamE k l (A ++ Z') := h5.trans ((SamE.refl k A).append g3)
  obtain ⟨l', q1, q2, q3⟩ := stable_last hc l.length hl (Int.natAbs (l.length : Int) + (Int.natAbs (20 : Int) + (List.length (A ++ Z') + 2))) 20 (A ++ Z') hsam.length (by omega) ⟨by omega, by omega⟩ (by omega) (h4.snoc h2 g2 (by rw [g3.length]; omega)) (fun z hz => hok z (hsam.mem.1 hz))
  rw [show ((20 : Nat) : Int) = 20 from rfl] at q1
  rw [q1, joinB_inr]
  exact ⟨l', rfl, q2, hsam.trans q3⟩
end

end Go.Md

namespace Go.Md
open Go.Dn

/-- The first fault of a list. -/
def scanF {α : Type} (g : Nat → α → Int) : Nat → List α → Int
  | _, [] => 0
  | i, y :: r => if g i y = 0 then scanF g (i + 1) r else g i y
theorem scanF_zero {α : Type} {g : Nat → α → Int} : ∀ {l : List α} {i : Nat}, scanF g i l = 0 → ∀ j y, l[j]? = some y → g (i + j) y = 0
  | [], _, _, _, _, h => by simp at h
  | y :: r, i, h, j, z, hz => by
    simp only [scanF] at h
    by_cases hg : g i y = 0
    · rw [if_pos hg] at h
      cases j with
      | zero => simp at hz; subst hz; exact hg
      | succ j => have := scanF_zero h j z (by simpa using hz); rw [show i + (j + 1) = i + 1 + j by omega]; exact this
    · rw [if_neg hg] at h; exact absurd h hg
theorem iter_scan {X α : Type} {γ : Type} {f : X → (X → Option ((Int × Unit) ⊕ γ)) → Option ((Int × Unit) ⊕ γ)} (mk : Nat → X) (l : List α) (g : Nat → α → Int) (u : γ)
    (hstep : ∀ i y again, l[i]? = some y → f (mk i) again = if g i y = 0 then again (mk (i + 1)) else some (Sum.inl (g i y, ()))) (hend : ∀ again, f (mk l.length) again = some (Sum.inr u)) :
    ∀ (r : List α) (i n : Nat), l.drop i = r → i ≤ l.length → r.length < n → iter n (mk i) f = if scanF g i r = 0 then some (Sum.inr u) else some (Sum.inl (scanF g i r, ()))
  | _, _, 0, _, _, hn => absurd hn (Nat.not_lt_zero _)
  | [], i, n + 1, hd, hi, _ => by
    have : i = l.length := by
      have := congrArg List.length hd
      simp at this; omega
    subst this
    rw [iter_succ, hend]; rfl
  | y :: r, i, n + 1, hd, hi, hn => by
    have hy : l[i]? = some y := by
      have := congrArg (·[0]?) hd
      simpa [List.getElem?_drop] using this
    have hr : l.drop (i + 1) = r := by
      have := congrArg List.tail hd
      simpa [List.tail_drop] using this
    have hi' : i < l.length := (List.getElem?_eq_some_iff.1 hy).1
    rw [iter_succ, hstep i y _ hy]
    by_cases hg : g i y = 0
    · have e : scanF g i (y :: r) = scanF g (i + 1) r := by simp [scanF, hg]
      rw [if_pos hg, e]
      exact iter_scan mk l g u hstep hend r (i + 1) n hr hi' (by simp at hn; omega)
    · have e : scanF g i (y :: r) = g i y := by simp [scanF, hg]
      rw [if_neg hg, e, if_neg hg]

theorem kit_Outside_eq (a b c : Int) : kit_Outside a b c = some (decide (a < b ∨ c < a), ()) := by
  unfold kit_Outside
  by_cases h : a < b
  · rw [bif_pos h]; simp [h]
  · rw [bif_neg h]; simp [h]
/-- What kit.IsName says. -/
def isNm (s : List UInt8) : Bool := ((kit_IsName s).map (·.1)).getD false
theorem kit_IsName_eq (s : List UInt8) : kit_IsName s = some (isNm s, ()) := by
  have : ∃ b, kit_IsName s = some (b, ()) := by
    unfold kit_IsName
    by_cases h1 : (s.length : Int) < 1
    · rw [bif_pos h1]; exact ⟨_, rfl⟩
    · rw [bif_neg h1]
      by_cases h2 : (s.length : Int) > 40
      · rw [bif_pos h2]; exact ⟨_, rfl⟩
      · rw [bif_neg h2]
        have hs : sidx s 0 = some (s[0]'(by omega)) := by simp [sidx]
        rw [hs]
        simp only [Option.bind_some]
        have ht : strings_Trim s [97, 98, 99, 100, 101, 102, 103, 104, 105, 106, 107, 108, 109, 110, 111, 112, 113, 114, 115, 116, 117, 118, 119, 120, 121, 122, 48, 49, 50, 51, 52, 53, 54, 55, 56, 57, 45] = some (Lib.trimS s [97, 98, 99, 100, 101, 102, 103, 104, 105, 106, 107, 108, 109, 110, 111, 112, 113, 114, 115, 116, 117, 118, 119, 120, 121, 122, 48, 49, 50, 51, 52, 53, 54, 55, 56, 57, 45], ()) := by
          unfold strings_Trim
          rw [show (decide (s.length ≤ 9223372036854775807)) = true by simp; omega]
          rfl
        rw [ht]
        simp only [Option.bind_some]
        generalize (decide ((((s[0]'(by omega)).toNat : Int)) < 97)) = b1
        generalize (decide ((((s[0]'(by omega)).toNat : Int)) > 122)) = b2
        cases b1 <;> cases b2 <;> exact ⟨_, rfl⟩
  obtain ⟨b, hb⟩ := this
  unfold isNm
  rw [hb]; rfl

theorem amount_CheckDecimal_eq (d : D_api_Decimal) : amount_CheckDecimal d = some (if -1000000000000000 ≤ d.1 ∧ d.1 ≤ 1000000000000000 ∧ 0 ≤ d.2 ∧ d.2 ≤ 9 then 0 else 1, ()) := by
  unfold amount_CheckDecimal
  rw [kit_Outside_eq, Option.bind_some, kit_Outside_eq]
  simp only [Option.bind_some]
  by_cases h1 : d.1 < -1000000000000000 ∨ 1000000000000000 < d.1
  · rw [bif_pos h1, if_neg (by omega)]
  · rw [bif_neg h1]
    by_cases h2 : d.2 < 0 ∨ 9 < d.2
    · rw [bif_pos h2, if_neg (by omega)]
    · rw [bif_neg h2, if_pos (by omega)]

theorem pow10_pos (n : Nat) : (0 : Int) < 10 ^ n := pow_pos' (by omega) n
/-- Money that is right. -/
def MonOk (d : D_api_Decimal) : Prop := 0 < d.1 ∧ 0 ≤ d.2 ∧ d.2 ≤ 4 ∧ d.1 ≤ 1000000000 * 10 ^ d.2.toNat
instance (d : D_api_Decimal) : Decidable (MonOk d) := by unfold MonOk; exact inferInstance
/-- Debts that are right. -/
structure DebtOk (d : D_api_Debt) : Prop where
  day0 : 1 ≤ d.2.1
  day1 : d.2.1 ≤ 3652059
  mon : MonOk d.2.2.1
  days0 : 0 ≤ d.2.2.2.1
  days1 : d.2.2.2.1 ≤ 10000
  with0 : 0 ≤ d.2.2.2.2.1
  with1 : d.2.2.2.2.1 ≤ d.2.2.2.1
  disc0 : 0 ≤ d.2.2.2.2.2
  disc1 : d.2.2.2.2.2 ≤ 1000
structure PayOk (p : D_api_Payment) : Prop where
  day0 : 1 ≤ p.1
  day1 : p.1 ≤ 3652059
  mon : MonOk p.2.1
  names : p.2.2.length ≤ 100
end Go.Md

namespace Go.Md
open Go.Dn

/-- Units with four places. -/
def cents (d : D_api_Decimal) : Int := d.1 * 10 ^ (4 - d.2).toNat
theorem MonOk.cents {d : D_api_Decimal} (h : MonOk d) : 0 < cents d ∧ cents d ≤ 10000000000000 := by
  obtain ⟨h1, h2, h3, h4⟩ := h
  unfold Md.cents
  have hp := pow10_pos (4 - d.2).toNat
  refine ⟨Int.mul_pos h1 hp, ?_⟩
  have a1 : d.1 * 10 ^ (4 - d.2).toNat ≤ 1000000000 * 10 ^ d.2.toNat * 10 ^ (4 - d.2).toNat := Int.mul_le_mul_of_nonneg_right h4 (by omega)
  rw [Int.mul_assoc, ← Int.pow_add, show d.2.toNat + (4 - d.2).toNat = 4 by omega] at a1
  omega
abbrev Bd := D_bill_debt
def owes (x : Bd) : Int := x.2.1
def paid (x : Bd) : Int := x.2.2.1
def taken (x : Bd) : Int := x.2.2.2.1
def done (x : Bd) : Int := x.2.2.2.2
/-- A debt in the arena. -/
structure BdOk (x : Bd) : Prop where
  d : DebtOk x.1
  owes0 : 0 ≤ owes x
  paid0 : 0 ≤ paid x
  taken0 : 0 ≤ taken x
  sum : owes x + paid x + taken x = cents x.1.2.2.1
  none : done x = 0 → taken x = 0
  done0 : done x = 0 ∨ x.1.2.1 ≤ done x
  iff : owes x = 0 ↔ done x ≠ 0
theorem BdOk.le {x : Bd} (h : BdOk x) : owes x ≤ 10000000000000 ∧ paid x ≤ 10000000000000 ∧ taken x ≤ 10000000000000 := by
  have := h.d.mon.cents; have := h.sum; have := h.owes0; have := h.paid0; have := h.taken0; omega

section
variable {ar : List Bd} {h : Nat} {x : Bd}

theorem set_get {α : Type} {l : List α} {i : Nat} {x y : α} (h : l[i]? = some x) : (l.set i y)[i]? = some y := List.getElem?_set_self (List.getElem?_eq_some_iff.1 h).1

end

end Go.Md

namespace Go.Md
open Go.Dn

/-- The arena: the debts as they came, each right. -/
structure ArOk (ds : List D_api_Debt) (ar : List Bd) : Prop where
  ds : ar.map (·.1) = ds
  ok : ∀ x ∈ ar, BdOk x
theorem ArOk.len {ds : List D_api_Debt} {ar : List Bd} (h : ArOk ds ar) : ar.length = ds.length := by rw [← h.ds]; simp
theorem ArOk.set {ds : List D_api_Debt} {ar : List Bd} (h : ArOk ds ar) {i : Nat} {x y : Bd} (hx : ar[i]? = some x) (hy : BdOk y) (he : y.1 = x.1) : ArOk ds (ar.set i y) := by
  refine ⟨?_, fun z hz => ?_⟩
  · rw [List.map_set, he, ← h.ds]
    apply List.ext_getElem?
    intro j
    by_cases hj : i = j
    · subst hj
      rw [List.getElem?_set_self (by simp; exact (List.getElem?_eq_some_iff.1 hx).1), List.getElem?_map, hx]; rfl
    · rw [List.getElem?_set_ne hj]
  · rcases List.mem_or_eq_of_mem_set hz with hz | rfl
    · exact h.ok z hz
    · exact hy
theorem ArOk.get {ds : List D_api_Debt} {ar : List Bd} (h : ArOk ds ar) {i : Nat} {x : Bd} (hx : ar[i]? = some x) : BdOk x := h.ok x (List.mem_of_getElem? hx)

def sumPaid (ar : List Bd) : Int := (ar.map paid).sum
/-- A state of a payment. -/
structure StOk (ds : List D_api_Debt) (L T : Int) (s : Int × List Bd) : Prop where
  ar : ArOk ds s.2
  l0 : 0 ≤ s.1
  l1 : s.1 ≤ L
  tot : s.1 + sumPaid s.2 = T

end Go.Md

namespace Go.Md
open Go.Dn

/-- As few places as a value needs. -/
def few : Nat → Int → Int × Nat
  | 0, z => (z, 0)
  | p + 1, z => if z % 10 = 0 then few p (z / 10) else (z, p + 1)
theorem few_val : ∀ (p : Nat) (z : Int), (few p z).2 ≤ p ∧ (few p z).1 * 10 ^ (p - (few p z).2) = z ∧ (few p z).1.natAbs ≤ z.natAbs
  | 0, z => by simp [few]
  | p + 1, z => by
    unfold few
    split
    · rename_i h
      obtain ⟨h1, h2, h3⟩ := few_val p (z / 10)
      refine ⟨by omega, ?_, by omega⟩
      rw [show p + 1 - (few p (z / 10)).2 = (p - (few p (z / 10)).2) + 1 by omega, Int.pow_succ, ← Int.mul_assoc, h2]
      omega
    · simp
theorem amount_Made_eq (z : Int) (p : Int) : amount_Made (W z) p = some (if z.natAbs ≤ 1000000000000000 then ((z, p), 0, ()) else ((0, 0), 1, ())) := by
  unfold amount_Made
  rw [whole_Int_Int_eq z 1000000000000000 (by omega) (by omega), Option.bind_some]
  by_cases h : (z.natAbs : Int) ≤ 1000000000000000
  · rw [if_pos h, if_pos (by omega)]; rfl
  · rw [if_neg h, if_neg (by omega)]; rfl

theorem amount_Fewest_eq (z : Int) (hz : z.natAbs < 4294967296 ^ 99) (p : Nat) (hp : p ≤ 1000) : amount_Fewest (W z) (p : Int) = some (if (few p z).1.natAbs ≤ 1000000000000000 then (((few p z).1, ((few p z).2 : Int)), 0, ()) else ((0, 0), 1, ())) := by
  unfold amount_Fewest
  rw [whole_Of_eq 10 (by omega) (by omega), Option.bind_some]
  dsimp only
  have loop : ∀ (n : Nat) (z : Int) (p : Nat), z.natAbs < 4294967296 ^ 99 → p ≤ 1000 → p < n → iter (X := amount_Fewest_x2) (β := amount_Fewest_r2) n ((p : Int), (W z).1, (W z).2, 0, 0, (W 10).1, (W 10).2, ()) amount_Fewest_b2 = some (Sum.inr (((few p z).2 : Int), (W (few p z).1).1, (W (few p z).1).2, 0, 0, ())) := by
    intro n
    induction n with
    | zero => intro z p _ _ h; omega
    | succ n ih =>
      intro z p hz hp hn
      rw [iter_succ]
      generalize hag : (fun y => iter n y amount_Fewest_b2) = again
      unfold amount_Fewest_b2
      dsimp only
      cases p with
      | zero => rw [bif_neg (by omega)]; rfl
      | succ p =>
        have e10 : (10 : Int).natAbs = 10 := rfl
        rw [bif_pos (by omega)]
        change (Option.bind (whole_Int_By (W z) (W 10)) _) = _
        rw [whole_Int_By_eq z 10 hz (by rw [e10]; exact Nat.lt_of_lt_of_le (by omega) (Nat.pow_le_pow_right (n := 4294967296) (by omega) (show 1 ≤ 99 by omega))) (by omega), Option.bind_some]
        dsimp only
        rw [whole_Int_Sign_eq, Option.bind_some]
        dsimp only
        rw [e10]
        by_cases hm : z % 10 = 0
        · have hm2 : z.natAbs % 10 = 0 := by omega
          rw [hm2, show ((((0 : Nat) : Int).sign) != 0) = false from rfl, cond_false]
          change (Option.bind (whole_Int_Sign (W z)) _) = _
          rw [whole_Int_Sign_eq, Option.bind_some]
          dsimp only
          have hf : few (p + 1) z = few p (z / 10) := by simp [few, hm]
          rw [hf]
          have hz' : (z / 10).natAbs < 4294967296 ^ 99 := Nat.lt_of_le_of_lt (by omega) hz
          by_cases hneg : z < 0
          · rw [bif_pos (by rw [Int.sign_eq_neg_one_of_neg hneg]; omega), whole_Int_Minus_eq _ (by simp only [Int.natAbs_natCast]; exact Nat.lt_of_le_of_lt (Nat.div_le_self _ _) hz), Option.bind_some]
            dsimp only
            rw [show -((z.natAbs / 10 : Nat) : Int) = z / 10 by omega, w64_id (by omega) (by omega), show ((p + 1 : Nat) : Int) - 1 = (p : Int) by omega, ← hag]
            exact ih (z / 10) p hz' (by omega) (by omega)
          · rw [bif_neg (by
              rcases (show z = 0 ∨ 0 < z by omega) with h | h
              · subst h; decide
              · rw [Int.sign_eq_one_of_pos h]; omega), show ((z.natAbs / 10 : Nat) : Int) = z / 10 by omega, w64_id (by omega) (by omega), show ((p + 1 : Nat) : Int) - 1 = (p : Int) by omega, ← hag]
            exact ih (z / 10) p hz' (by omega) (by omega)
        · have hm2 : 0 < z.natAbs % 10 := by omega
          have : (((z.natAbs % 10 : Nat) : Int).sign != 0) = true := by
            rw [Int.sign_eq_one_of_pos (by omega)]; rfl
          rw [this, cond_true]
          have hf : few (p + 1) z = (z, p + 1) := by simp [few, hm]
          rw [hf]
  have := loop (Int.natAbs (p : Int) + (List.length (W z).2 + (Int.natAbs (0 : Int) + (Int.natAbs (0 : Int) + (List.length (W 10).2 + 2))))) z p hz hp (by omega)
  rw [this, joinB_inr]
  dsimp only
  change (Option.bind (amount_Made (W (few p z).1) ((few p z).2 : Int)) _) = _
  rw [amount_Made_eq, Option.bind_some]

/-- A decimal that is one. -/
def DecOk (d : D_api_Decimal) : Prop := d.1.natAbs ≤ 1000000000000000 ∧ 0 ≤ d.2 ∧ d.2 ≤ 9
theorem MonOk.dec {d : D_api_Decimal} (h : MonOk d) : DecOk d := by
  obtain ⟨h1, h2, h3, h4⟩ := h
  have hq : (10 : Int) ^ d.2.toNat ≤ 10000 := by
    have := Nat.pow_le_pow_right (n := 10) (by omega) (show d.2.toNat ≤ 4 by omega)
    have h2 := Int.ofNat_le.2 this
    simpa using h2
  exact ⟨by omega, h2, by omega⟩

theorem len6 {z : Int} (h : z.natAbs < 1000000000000000000000000000000000000000000000000000000000000) : (dg6 z.natAbs).length ≤ 10 := dg6_len (k := 10) (by simpa using h)

theorem r1_Power_eq (n : Nat) (hn : n ≤ 40) : r1_Power (n : Int) = some (N (10 ^ n), ()) := by
  unfold r1_Power
  rw [r1_Of_eq 1 (by omega) (by omega), Option.bind_some]
  dsimp only
  have hb : ∀ i : Nat, i ≤ 41 → (dg6 ((10 : Int) ^ i).natAbs).length ≤ 10 := by
    intro i hi
    refine len6 ?_
    have h1 : ((10 : Int) ^ i).natAbs = 10 ^ i := by rw [Int.natAbs_pow]; rfl
    have h2 := Nat.pow_le_pow_right (n := 10) (by omega) hi
    omega
  have loop : iter (X := r1_Power_x3) (β := r1_Power_r3) (Int.natAbs (n : Int) + (Int.natAbs (0 : Int) + (List.length ([] : List Int) + (List.length (N 1).2 + 2)))) ((n : Int), 0, false, [], (N 1).1, (N 1).2, ()) r1_Power_b3 = some (Sum.inr (false, [], (N (10 ^ n)).1, (N (10 ^ n)).2, ())) := by
    refine iter_post (Inv := fun i x => x = ((n : Int), (i : Int), false, [], (N (10 ^ i)).1, (N (10 ^ i)).2, ())) n (fun r => r = some (Sum.inr (false, [], (N (10 ^ n)).1, (N (10 ^ n)).2, ()))) ?_ ?_ _ 0 _ (by simp) (by omega) (by omega)
    · rintro i _ again hi rfl ih
      unfold r1_Power_b3
      dsimp only
      rw [bif_pos (by omega), r1_Of_eq 10 (by omega) (by omega), Option.bind_some]
      change (Option.bind (r1_TimesOf (N (10 ^ i)) (N 10)) _) = _
      have h10 : (dg6 (10 : Int).natAbs).length ≤ 10 := len6 (by decide)
      rw [r1_TimesOf_eq _ _ (by have := hb i (by omega); omega) (by omega), Option.bind_some]
      dsimp only
      rw [w64_id (by omega) (by omega)]
      exact ih _ (by rw [Int.pow_succ]; rfl)
    · rintro _ again rfl
      unfold r1_Power_b3
      dsimp only
      rw [bif_neg (by omega)]
  rw [loop, joinB_inr]

end Go.Md

namespace Go.Md
open Go.Dn

end Go.Md

namespace Go.Md
open Go.Dn

end Go.Md

namespace Go.Md
open Go.Dn

end Go.Md

namespace Go.Md
open Go.Dn

/-- Not done by a day. -/
def LaterQ (D : Int) (S : Nat → Prop) (ar : List Bd) : Prop := ∀ i x, S i → ar[i]? = some x → done x = 0 ∨ D < done x
theorem LaterQ.set {D : Int} {S : Nat → Prop} {ar : List Bd} {h : Nat} {x y : Bd} (hq : LaterQ D S ar) (hx : ar[h]? = some x) (hy : (done x = 0 ∨ D < done x) → (done y = 0 ∨ D < done y)) : LaterQ D S (ar.set h y) := by
  intro i z hi hz
  by_cases e : h = i
  · subst e
    rw [set_get hx] at hz
    cases hz
    exact hy (hq h x hi hx)
  · rw [List.getElem?_set_ne e] at hz
    exact hq i z hi hz
end Go.Md

namespace Go.Md
open Go.Dn

set_option maxRecDepth 100000 in
instance (d : D_api_Decimal) : Decidable (DecOk d) := by unfold DecOk; infer_instance

end Go.Md
