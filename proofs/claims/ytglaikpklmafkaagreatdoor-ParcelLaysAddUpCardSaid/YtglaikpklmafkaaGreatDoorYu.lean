/-
  Plain facts: masses and weights; sorting gives a permutation; the plain law ParcelLaysAddUp is true of all data. No condition.
-/
import Derived.Test.YtglaikpklmafkaaGreatDoorYt
import Derived.Test.YtglaikpklmafkaaGreatDoorYn
import Derived.Test.YtglaikpklmafkaaGreatDoorYs
import Derived.Test.YtglaikpklmafkaaGreatDoorYq
set_option linter.all false
namespace Go.Md
open Go.Dn

end Go.Md

namespace Go.Md
open Go.Dn

/-- A right quantity. -/
structure QOk (d : D_api_Decimal) : Prop where
  dec : DecOk d
  pl : d.2 ≤ 3
/-- Right parcels. -/
structure PaOk (p : D_api_Parcel) : Prop where
  t : QOk p.2.2.1
  n : p.2.2.2.length ≤ 100
  c : ∀ c ∈ p.2.2.2, QOk c.2.2.2

end Go.Md

namespace Go.Md
open Go.Dn

/-- The parcels with given numbers. -/
def pick (l : List D_api_Parcel) (L : List Nat) : List D_api_Parcel := L.filterMap fun i => l[i]?

end Go.Md

namespace Go.Md
open Go.Dn

end Go.Md

set_option linter.all false
namespace Go.Md.SI
open Go.Dn Go.Md

section
variable {k : Int → Int} {ar : List D_api_State} {ok : Int → Prop}

/-- The comparison compares keys. -/
def CmpOk (k : Int → Int) (ar : List D_api_State) (ok : Int → Prop) : Prop := ∀ a b, ok a → ok b → ∃ c, parcel_Laid_1 a b ar = some (c, ()) ∧ (c < 0 ↔ k a < k b)

theorem ins_inner (hc : CmpOk k ar ok) (a : Nat) (bI : Int) (iI : Int) (X : List Int) (hX : X.length = a) : ∀ (n : Nat) (P1 : List Int) (x : Int) (B : List Int), P1.length < n → (X ++ P1 ++ x :: B).length < 1000000000 → ok x → (∀ y ∈ P1, ok y) →
    ∃ P2 P3, P1 = P2 ++ P3 ∧ (∀ y ∈ P3, k x < k y) ∧ (∀ y, P2.getLast? = some y → k y ≤ k x) ∧
    iter (X := slices_insertionSortCmpFunc_int_x4) (β := slices_insertionSortCmpFunc_int_r4) n ((a : Int), bI, ar, iI, ((a + P1.length : Nat) : Int), X ++ P1 ++ x :: B, ()) slices_insertionSortCmpFunc_int_b4 = some (Sum.inr ((a : Int), bI, ar, iI, X ++ P2 ++ x :: (P3 ++ B), ())) := by
  intro n
  induction n with
  | zero => intro P1 x B h; omega
  | succ n ih =>
    intro P1 x B hn hlen hx hP
    rw [iter_succ]
    generalize hag : (fun y => iter n y slices_insertionSortCmpFunc_int_b4) = again
    unfold slices_insertionSortCmpFunc_int_b4
    dsimp only
    rcases List.eq_nil_or_concat P1 with rfl | ⟨P, y, rfl⟩
    · rw [bif_neg (by simp)]
      exact ⟨[], [], rfl, by simp, by simp, by simp⟩
    · rw [List.concat_eq_append] at *
      simp only [List.length_append, List.length_cons, List.length_nil] at hlen hn ⊢
      have e1 : w64 (((a + (P.length + 1) : Nat) : Int) - 1) = (((X ++ P).length : Nat) : Int) := by rw [w64_id (by omega) (by omega)]; simp [hX]; omega
      have e2 : (((a + (P.length + 1) : Nat) : Int)) = (((X ++ P).length + 1 : Nat) : Int) := by simp [hX]; omega
      have el : X ++ (P ++ [y]) ++ x :: B = (X ++ P) ++ y :: x :: B := by simp
      obtain ⟨c, hcc, hlt⟩ := hc x y hx (hP y (by simp))
      rw [bif_pos (by omega), e1, e2, el]
      simp only [Int.toNat_natCast, get_at, get_at1, Option.bind_some, hcc]
      rw [chk_pos (by simp only [Bool.and_eq_true, decide_eq_true_eq, List.length_append, List.length_cons, List.length_set, List.length_nil]; omega), chk_pos (by simp only [Bool.and_eq_true, decide_eq_true_eq, List.length_append, List.length_cons, List.length_set, List.length_nil]; omega)]
      by_cases hk : k x < k y
      · rw [bif_pos (hlt.2 hk), chk_pos (by simp only [Bool.and_eq_true, decide_eq_true_eq, List.length_append, List.length_cons, List.length_set, List.length_nil]; omega), chk_pos (by simp only [Bool.and_eq_true, decide_eq_true_eq, List.length_append, List.length_cons, List.length_set, List.length_nil]; omega), chk_pos (by simp only [Bool.and_eq_true, decide_eq_true_eq, List.length_append, List.length_cons, List.length_set, List.length_nil]; omega),
          chk_pos (by simp only [Bool.and_eq_true, decide_eq_true_eq, List.length_append, List.length_cons, List.length_set, List.length_nil]; omega)]
        have hg : (((X ++ P) ++ y :: x :: B).set ((X ++ P).length + 1) y)[(X ++ P).length]? = some y := by rw [List.getElem?_set_ne (by omega), get_at]
        rw [hg, Option.bind_some, swap_adj, ← hag]
        obtain ⟨P2, P3, h1, h2, h3, h4⟩ := ih P x (y :: B) (by omega) (by simp; omega) hx (fun z hz => hP z (by simp [hz]))
        refine ⟨P2, P3 ++ [y], by rw [h1]; simp, ?_, h3, ?_⟩
        · intro z hz
          rcases List.mem_append.1 hz with hz | hz
          · exact h2 z hz
          · rw [List.mem_singleton.1 hz]; exact hk
        · have e3 : (((X ++ P).length : Nat) : Int) = ((a + P.length : Nat) : Int) := by simp [hX]
          rw [e3]
          show iter n _ _ = _
          rw [h4]; simp
      · rw [bif_neg (fun h => hk (hlt.1 h))]
        refine ⟨P ++ [y], [], by simp, by simp, fun z hz => ?_, by simp⟩
        simp at hz
        subst hz; omega

theorem insertion_eq (hc : CmpOk k ar ok) (X S Y : List Int) (hlen : (X ++ S ++ Y).length < 1000000000) (hok : ∀ y ∈ S, ok y) :
    ∃ S', slices_insertionSortCmpFunc_int (X ++ S ++ Y) (X.length : Int) ((X.length + S.length : Nat) : Int) ar = some (X ++ S' ++ Y, ()) ∧ Srt k S' ∧ SamE k S S' := by
  simp only [List.length_append] at hlen
  have loop : ∀ (n : Nat) (Q P : List Int) (l : List Int), Q.length < n → l = X ++ P ++ Q ++ Y → P.length + Q.length = S.length → Srt k P → (∀ y ∈ P, ok y) → (∀ y ∈ Q, ok y) →
      ∃ S', iter (X := slices_insertionSortCmpFunc_int_x1) (β := slices_insertionSortCmpFunc_int_r1) n ((X.length : Int), ((X.length + S.length : Nat) : Int), ar, ((X.length + P.length : Nat) : Int), l, ()) slices_insertionSortCmpFunc_int_b1 = some (Sum.inr (X ++ S' ++ Y, ())) ∧ Srt k S' ∧ SamE k (P ++ Q) S' := by
    intro n
    induction n with
    | zero => intro Q P l h; omega
    | succ n ih =>
      intro Q P l hn hl hPQ hs hokP hokQ
      rw [iter_succ]
      generalize hag : (fun y => iter n y slices_insertionSortCmpFunc_int_b1) = again
      unfold slices_insertionSortCmpFunc_int_b1
      dsimp only
      cases Q with
      | nil =>
        rw [bif_neg (by simp at hPQ; omega)]
        exact ⟨P, by rw [hl]; simp, hs, by simpa using SamE.refl k P⟩
      | cons x Q =>
        simp only [List.length_cons] at hn hPQ
        rw [bif_pos (by omega)]
        have hl' : l = X ++ P ++ x :: (Q ++ Y) := by rw [hl]; simp
        obtain ⟨P2, P3, h1, h2, h3, h4⟩ := ins_inner hc X.length ((X.length + S.length : Nat) : Int) ((X.length + P.length : Nat) : Int) X rfl
          (Int.natAbs (X.length : Int) + (Int.natAbs ((X.length + S.length : Nat) : Int) + (Int.natAbs ((X.length + P.length : Nat) : Int) + (Int.natAbs ((X.length + P.length : Nat) : Int) + (List.length l + 2))))) P x (Q ++ Y) (by omega) (by simp; omega) (hokQ x (by simp)) hokP
        rw [← hl'] at h4
        rw [h4, joinB_inr]
        dsimp only
        have e1 : w64 (((X.length + P.length : Nat) : Int) + 1) = ((X.length + (P2 ++ x :: P3).length : Nat) : Int) := by
          rw [w64_id (by omega) (by omega), h1]; simp; omega
        rw [e1, ← hag]
        rw [h1] at hs hokP
        obtain ⟨hs', hsam⟩ := ins_step hs h2 h3
        obtain ⟨S', g1, g2, g3⟩ := ih Q (P2 ++ x :: P3) (X ++ P2 ++ x :: (P3 ++ (Q ++ Y))) (by omega) (by simp) (by rw [h1] at hPQ; simp at hPQ ⊢; omega) hs' (fun y hy => by
            rcases hsam.mem.1 hy |> List.mem_append.1 with h | h
            · exact hokP y h
            · rw [List.mem_singleton.1 h]; exact hokQ x (by simp)) (fun y hy => hokQ y (by simp [hy]))
        refine ⟨S', g1, g2, ?_⟩
        have : SamE k (P ++ x :: Q) (P2 ++ x :: P3 ++ Q) := by
          rw [h1]
          have := hsam.append (SamE.refl k Q)
          simpa using this
        exact this.trans g3
  unfold slices_insertionSortCmpFunc_int
  cases S with
  | nil =>
    -- an empty range
    have e1 : w64 ((X.length : Int) + 1) = ((X.length + 1 : Nat) : Int) := by rw [w64_id (by omega) (by omega)]; omega
    rw [e1]
    obtain ⟨n, hn⟩ : ∃ n, (Int.natAbs (X.length : Int) + (Int.natAbs ((X.length + ([] : List Int).length : Nat) : Int) + (Int.natAbs ((X.length + 1 : Nat) : Int) + (List.length (X ++ [] ++ Y) + 2)))) = n + 1 := ⟨_, rfl⟩
    rw [hn, iter_succ]
    unfold slices_insertionSortCmpFunc_int_b1
    dsimp only
    rw [bif_neg (by simp; omega)]
    exact ⟨[], rfl, List.Pairwise.nil, SamE.refl _ _⟩
  | cons x S =>
    have e1 : w64 ((X.length : Int) + 1) = ((X.length + [x].length : Nat) : Int) := by rw [w64_id (by omega) (by omega)]; simp
    rw [e1]
    obtain ⟨S', g1, g2, g3⟩ := loop (Int.natAbs (X.length : Int) + (Int.natAbs ((X.length + (x :: S).length : Nat) : Int) + (Int.natAbs ((X.length + [x].length : Nat) : Int) + (List.length (X ++ (x :: S) ++ Y) + 2)))) S [x] (X ++ (x :: S) ++ Y) (by simp; omega) (by simp) (by simp; omega) (List.pairwise_singleton _ _) (fun y hy => hok y (by simp at hy; simp [hy])) (fun y hy => hok y (by simp [hy]))
    rw [g1, joinB_inr]
    exact ⟨S', rfl, g2, by simpa using g3⟩
/-- Two blocks of one length change places. -/
theorem swapRange_eq (X M Y : List Int) : ∀ (P Q : List Int), P.length = Q.length → (X ++ P ++ M ++ Q ++ Y).length < 1000000000 →
    slices_swapRangeCmpFunc_int (X ++ P ++ M ++ Q ++ Y) (X.length : Int) ((X.length + P.length + M.length : Nat) : Int) (P.length : Int) ar = some (X ++ Q ++ M ++ P ++ Y, ()) := by
  intro P Q hPQ hlen
  simp only [List.length_append] at hlen
  have loop : ∀ (n : Nat) (P1 P2 Q1 Q2 : List Int) (l : List Int), P2.length < n → P1.length + P2.length = P.length → P1.length = Q1.length → P2.length = Q2.length → l = X ++ P1 ++ P2 ++ M ++ Q1 ++ Q2 ++ Y →
      iter (X := slices_swapRangeCmpFunc_int_x1) (β := slices_swapRangeCmpFunc_int_r1) n ((X.length : Int), ((X.length + P.length + M.length : Nat) : Int), (P.length : Int), (P1.length : Int), l, ()) slices_swapRangeCmpFunc_int_b1 = some (Sum.inr (X ++ P1 ++ Q2 ++ M ++ Q1 ++ P2 ++ Y, ())) := by
    intro n
    induction n with
    | zero => intro P1 P2 Q1 Q2 l h; omega
    | succ n ih =>
      intro P1 P2 Q1 Q2 l hn h1 h2 h3 hl
      rw [iter_succ]
      generalize hag : (fun y => iter n y slices_swapRangeCmpFunc_int_b1) = again
      unfold slices_swapRangeCmpFunc_int_b1
      dsimp only
      cases P2 with
      | nil =>
        have : Q2 = [] := List.eq_nil_of_length_eq_zero (by simpa using h3.symm)
        subst this
        rw [bif_neg (by simp at h1; omega), hl]
      | cons p P2 =>
        cases Q2 with
        | nil => simp at h3
        | cons q Q2 =>
          simp only [List.length_cons] at hn h1 h3
          have ll : l.length = X.length + P.length + M.length + Q.length + Y.length := by rw [hl]; simp; omega
          have e1 : w64 (((X.length + P.length + M.length : Nat) : Int) + (P1.length : Int)) = (((X ++ P1 ++ p :: P2 ++ M ++ Q1).length : Nat) : Int) := by rw [w64_id (by omega) (by omega)]; simp; omega
          have e2 : w64 ((X.length : Int) + (P1.length : Int)) = (((X ++ P1).length : Nat) : Int) := by rw [w64_id (by omega) (by omega)]; simp
          have l1 : l = (X ++ P1 ++ p :: P2 ++ M ++ Q1) ++ q :: (Q2 ++ Y) := by rw [hl]; simp
          have l2 : l = (X ++ P1) ++ p :: (P2 ++ M ++ Q1 ++ q :: (Q2 ++ Y)) := by rw [hl]; simp
          have g1 : l[(X ++ P1 ++ p :: P2 ++ M ++ Q1).length]? = some q := by rw [l1]; exact get_at _ _ _
          have g2 : l[(X ++ P1).length]? = some p := by rw [l2]; exact get_at _ _ _
          have g3 : l.set (X ++ P1).length q = (X ++ P1 ++ q :: P2 ++ M ++ Q1) ++ q :: (Q2 ++ Y) := by
            rw [l2, set_mid]; simp
          have hlq : (X ++ P1 ++ p :: P2 ++ M ++ Q1).length = (X ++ P1 ++ q :: P2 ++ M ++ Q1).length := by simp
          have g4 : (l.set (X ++ P1).length q)[(X ++ P1 ++ p :: P2 ++ M ++ Q1).length]? = some q := by rw [g3, hlq]; exact get_at _ _ _
          have g5 : (l.set (X ++ P1).length q).set (X ++ P1 ++ p :: P2 ++ M ++ Q1).length p = X ++ (P1 ++ [q]) ++ P2 ++ M ++ (Q1 ++ [p]) ++ Q2 ++ Y := by rw [g3, hlq, set_mid]; simp
          rw [bif_pos (by omega), e1, e2]
          simp only [Int.toNat_natCast, g1, g2, g4, g5, Option.bind_some, List.length_set, ll]
          have lq : (X ++ P1 ++ p :: P2 ++ M ++ Q1).length < X.length + P.length + M.length + Q.length + Y.length := by simp; omega
          have lp : (X ++ P1).length < X.length + P.length + M.length + Q.length + Y.length := by simp; omega
          rw [chk_pos (by simp only [Bool.and_eq_true, decide_eq_true_eq]; omega), chk_pos (by simp only [Bool.and_eq_true, decide_eq_true_eq]; omega), chk_pos (by simp only [Bool.and_eq_true, decide_eq_true_eq]; omega), chk_pos (by simp only [Bool.and_eq_true, decide_eq_true_eq]; omega)]
          have e3 : w64 ((P1.length : Int) + 1) = (((P1 ++ [q]).length : Nat) : Int) := by rw [w64_id (by omega) (by omega)]; simp
          rw [e3, ← hag]
          show iter n _ _ = _
          rw [ih (P1 ++ [q]) P2 (Q1 ++ [p]) Q2 _ (by omega) (by simp; omega) (by simp; omega) (by omega) rfl]
          simp
  unfold slices_swapRangeCmpFunc_int
  rw [show (0 : Int) = ((([] : List Int).length : Nat) : Int) from rfl, loop _ [] P [] Q (X ++ P ++ M ++ Q ++ Y) (by simp; omega) (by simp) rfl hPQ (by simp), joinB_inr]
  simp

theorem rotate_loop (m : Nat) : ∀ (n : Nat) (X U V Y : List Int), U.length + V.length < n → 0 < U.length → 0 < V.length → X.length + U.length = m → (X ++ U ++ V ++ Y).length < 1000000000 →
    ∃ (X' U' V' Y' : List Int), iter (X := slices_rotateCmpFunc_int_x2) (β := slices_rotateCmpFunc_int_r2) n ((m : Int), ar, (U.length : Int), (V.length : Int), X ++ U ++ V ++ Y, ()) slices_rotateCmpFunc_int_b2 = some (Sum.inr ((m : Int), ar, (U'.length : Int), X' ++ U' ++ V' ++ Y', ())) ∧ U'.length = V'.length ∧ X'.length + U'.length = m ∧ X' ++ V' ++ U' ++ Y' = X ++ V ++ U ++ Y ∧ (X' ++ U' ++ V' ++ Y').length < 1000000000 := by
  intro n
  induction n with
  | zero => intro X U V Y h; omega
  | succ n ih =>
    intro X U V Y hn hU hV hm hlen
    rw [iter_succ]
    generalize hag : (fun y => iter n y slices_rotateCmpFunc_int_b2) = again
    unfold slices_rotateCmpFunc_int_b2
    dsimp only
    by_cases he : U.length = V.length
    · have hb : ((U.length : Int) != (V.length : Int)) = false := by simp [he]
      rw [hb, cond_false]
      exact ⟨X, U, V, Y, rfl, he, hm, rfl, hlen⟩
    · have hb : ((U.length : Int) != (V.length : Int)) = true := by simp; omega
      rw [hb, cond_true]
      simp only [List.length_append] at hlen
      have e1 : w64 ((m : Int) - (U.length : Int)) = (X.length : Int) := by rw [w64_id (by omega) (by omega)]; omega
      rw [e1]
      by_cases hgt : V.length < U.length
      · rw [bif_pos (by omega)]
        obtain ⟨U1, U2, rfl, hU1⟩ := split_at (l := U) (n := V.length) (by omega)
        simp only [List.length_append] at *
        have hsw := swapRange_eq (ar := ar) X U2 Y U1 V hU1 (by simp; omega)
        rw [show ((X.length + U1.length + U2.length : Nat) : Int) = (m : Int) by omega, hU1] at hsw
        rw [show X ++ (U1 ++ U2) ++ V ++ Y = X ++ U1 ++ U2 ++ V ++ Y by simp, hsw, Option.bind_some]
        have e2 : w64 (((U1.length + U2.length : Nat) : Int) - (V.length : Int)) = (U2.length : Int) := by rw [w64_id (by omega) (by omega)]; omega
        rw [e2, ← hag]
        obtain ⟨X', U', V', Y', h1, h2, h3, h4, h5⟩ := ih (X ++ V) U2 U1 Y (by omega) (by omega) (by omega) (by simp; omega) (by simp; omega)
        refine ⟨X', U', V', Y', ?_, h2, h3, by rw [h4]; simp, h5⟩
        rw [← hU1]
        exact h1
      · rw [bif_neg (by omega)]
        obtain ⟨V1, V2, rfl, hV1⟩ := split_at (l := V) (n := V.length - U.length) (by omega)
        simp only [List.length_append] at *
        have e3 : w64 (w64 ((m : Int) + ((V1.length + V2.length : Nat) : Int)) - (U.length : Int)) = ((X.length + U.length + V1.length : Nat) : Int) := by
          rw [w64_id (n := (m : Int) + ((V1.length + V2.length : Nat) : Int)) (by omega) (by omega), w64_id (by omega) (by omega)]; omega
        have hsw := swapRange_eq (ar := ar) X V1 Y U V2 (by omega) (by simp; omega)
        rw [e3, show X ++ U ++ (V1 ++ V2) ++ Y = X ++ U ++ V1 ++ V2 ++ Y by simp, hsw, Option.bind_some]
        have e2 : w64 (((V1.length + V2.length : Nat) : Int) - (U.length : Int)) = (V1.length : Int) := by rw [w64_id (by omega) (by omega)]; omega
        rw [e2, ← hag]
        obtain ⟨X', U', V', Y', h1, h2, h3, h4, h5⟩ := ih X V2 V1 (U ++ Y) (by omega) (by omega) (by omega) (by omega) (by simp; omega)
        refine ⟨X', U', V', Y', ?_, h2, h3, by rw [h4]; simp, h5⟩
        rw [show ((U.length : Nat) : Int) = (V2.length : Int) by omega, show X ++ V2 ++ V1 ++ U ++ Y = X ++ V2 ++ V1 ++ (U ++ Y) by simp]
        exact h1

/-- Two blocks change places. -/
theorem rotate_eq (X U V Y : List Int) (hU : 0 < U.length) (hV : 0 < V.length) (hlen : (X ++ U ++ V ++ Y).length < 1000000000) :
    slices_rotateCmpFunc_int (X ++ U ++ V ++ Y) (X.length : Int) ((X.length + U.length : Nat) : Int) ((X.length + U.length + V.length : Nat) : Int) ar = some (X ++ V ++ U ++ Y, ()) := by
  unfold slices_rotateCmpFunc_int
  simp only [List.length_append] at hlen
  have e1 : w64 (((X.length + U.length : Nat) : Int) - (X.length : Int)) = (U.length : Int) := by rw [w64_id (by omega) (by omega)]; omega
  have e2 : w64 (((X.length + U.length + V.length : Nat) : Int) - ((X.length + U.length : Nat) : Int)) = (V.length : Int) := by rw [w64_id (by omega) (by omega)]; omega
  rw [e1, e2]
  obtain ⟨X', U', V', Y', h1, h2, h3, h4, h5⟩ := rotate_loop (ar := ar) (X.length + U.length) (Int.natAbs ((X.length + U.length : Nat) : Int) + (Int.natAbs (U.length : Int) + (Int.natAbs (V.length : Int) + (List.length (X ++ U ++ V ++ Y) + 2)))) X U V Y (by omega) hU hV rfl (by simp; omega)
  rw [h1, joinB_inr]
  dsimp only
  simp only [List.length_append] at h5
  have e3 : w64 (((X.length + U.length : Nat) : Int) - (U'.length : Int)) = (X'.length : Int) := by rw [w64_id (by omega) (by omega)]; omega
  have hsw := swapRange_eq (ar := ar) X' [] Y' U' V' h2 (by simp; omega)
  simp only [List.append_nil, List.length_nil, Nat.add_zero] at hsw
  rw [e3, show ((X.length + U.length : Nat) : Int) = ((X'.length + U'.length : Nat) : Int) by omega, hsw, Option.bind_some, h4]

/-- An element moves up. -/
theorem move_up (i : Nat) : ∀ (n : Nat) (A V Y : List Int) (x : Int), V.length < n → A.length + 1 + V.length = i → (A ++ x :: V ++ Y).length < 1000000000 →
    iter (X := slices_symMergeCmpFunc_int_x9) (β := slices_symMergeCmpFunc_int_r9) n ((i : Int), (A.length : Int), A ++ x :: V ++ Y, ()) slices_symMergeCmpFunc_int_b9 = some (Sum.inr (A ++ V ++ x :: Y, ())) := by
  intro n
  induction n with
  | zero => intro A V Y x h; omega
  | succ n ih =>
    intro A V Y x hn hi hlen
    rw [iter_succ]
    generalize hag : (fun y => iter n y slices_symMergeCmpFunc_int_b9) = again
    unfold slices_symMergeCmpFunc_int_b9
    dsimp only
    simp only [List.length_append, List.length_cons] at hlen
    have e0 : w64 ((i : Int) - 1) = (i : Int) - 1 := w64_id (by omega) (by omega)
    rw [e0]
    cases V with
    | nil => rw [bif_neg (by simp at hi; omega)]; simp
    | cons v V =>
      simp only [List.length_cons] at hn hi hlen
      have e1 : w64 ((A.length : Int) + 1) = ((A.length + 1 : Nat) : Int) := by rw [w64_id (by omega) (by omega)]; omega
      have el : A ++ x :: (v :: V) ++ Y = A ++ x :: v :: (V ++ Y) := by simp
      have hg : ((A ++ x :: v :: (V ++ Y)).set A.length v)[A.length + 1]? = some v := by rw [List.getElem?_set_ne (by omega), get_at1]
      rw [bif_pos (by omega), e1, el]
      simp only [Int.toNat_natCast, get_at, get_at1, Option.bind_some, hg, swap_adj', List.length_set]
      rw [chk_pos (by simp only [Bool.and_eq_true, decide_eq_true_eq, List.length_append, List.length_cons]; omega), chk_pos (by simp only [Bool.and_eq_true, decide_eq_true_eq, List.length_append, List.length_cons]; omega), chk_pos (by simp only [Bool.and_eq_true, decide_eq_true_eq, List.length_append, List.length_cons]; omega), chk_pos (by simp only [Bool.and_eq_true, decide_eq_true_eq, List.length_append, List.length_cons]; omega), ← hag]
      have := ih (A ++ [v]) V Y x (by omega) (by simp; omega) (by simp; omega)
      simp only [List.length_append, List.length_cons, List.length_nil, Nat.zero_add] at this
      show iter n _ _ = _
      rw [show A ++ v :: x :: (V ++ Y) = A ++ [v] ++ x :: V ++ Y by simp, this]
      simp

/-- An element moves down. -/
theorem move_down (A : List Int) : ∀ (n : Nat) (U Y : List Int) (y : Int), U.length < n → (A ++ U ++ y :: Y).length < 1000000000 →
    iter (X := slices_symMergeCmpFunc_int_x21) (β := slices_symMergeCmpFunc_int_r21) n ((A.length : Int), ((A.length + U.length : Nat) : Int), A ++ U ++ y :: Y, ()) slices_symMergeCmpFunc_int_b21 = some (Sum.inr (A ++ y :: U ++ Y, ())) := by
  intro n
  induction n with
  | zero => intro U Y y h; omega
  | succ n ih =>
    intro U Y y hn hlen
    rw [iter_succ]
    generalize hag : (fun y => iter n y slices_symMergeCmpFunc_int_b21) = again
    unfold slices_symMergeCmpFunc_int_b21
    dsimp only
    simp only [List.length_append, List.length_cons] at hlen
    rcases List.eq_nil_or_concat U with rfl | ⟨V, u, rfl⟩
    · rw [bif_neg (by simp)]; simp
    · rw [List.concat_eq_append] at *
      simp only [List.length_append, List.length_cons, List.length_nil] at hn hlen ⊢
      have e1 : w64 (((A.length + (V.length + (0 + 1)) : Nat) : Int) - 1) = (((A ++ V).length : Nat) : Int) := by rw [w64_id (by omega) (by omega)]; simp; omega
      have e2 : ((A.length + (V.length + (0 + 1)) : Nat) : Int) = (((A ++ V).length + 1 : Nat) : Int) := by simp; omega
      have el : A ++ (V ++ [u]) ++ y :: Y = (A ++ V) ++ u :: y :: Y := by simp
      have hg : (((A ++ V) ++ u :: y :: Y).set ((A ++ V).length + 1) u)[(A ++ V).length]? = some u := by rw [List.getElem?_set_ne (by omega), get_at]
      rw [bif_pos (by omega), e1, e2, el]
      simp only [Int.toNat_natCast, get_at, get_at1, Option.bind_some, hg, swap_adj, List.length_set]
      rw [chk_pos (by simp only [Bool.and_eq_true, decide_eq_true_eq, List.length_append, List.length_cons]; omega), chk_pos (by simp only [Bool.and_eq_true, decide_eq_true_eq, List.length_append, List.length_cons]; omega), chk_pos (by simp only [Bool.and_eq_true, decide_eq_true_eq, List.length_append, List.length_cons]; omega), chk_pos (by simp only [Bool.and_eq_true, decide_eq_true_eq, List.length_append, List.length_cons]; omega), ← hag]
      have := ih V (u :: Y) y (by omega) (by simp; omega)
      show iter n _ _ = _
      rw [show (((A ++ V).length : Nat) : Int) = ((A.length + V.length : Nat) : Int) by simp, this]
      simp

/-- One element before a sorted block. -/
theorem merge_one_left (hc : CmpOk k ar ok) (X R Y : List Int) (x : Int) (hlen : (X ++ [x] ++ R ++ Y).length < 1000000000) (hR : Srt k R) (hx : ok x) (hok : ∀ y ∈ R, ok y) (n : Nat) (hn : R.length < n) :
    ∃ R1 R2, R = R1 ++ R2 ∧ (∀ y ∈ R1, k y < k x) ∧ (∀ y ∈ R2, k x ≤ k y) ∧ iter (X := slices_symMergeCmpFunc_int_x3) (β := slices_symMergeCmpFunc_int_r3) n ((X.length : Int), ar, ((X.length + 1 : Nat) : Int), ((X.length + 1 + R.length : Nat) : Int), X ++ [x] ++ R ++ Y, ()) slices_symMergeCmpFunc_int_b3 = some (Sum.inr ((X.length : Int), ((X.length + 1 + R1.length : Nat) : Int), X ++ [x] ++ R ++ Y, ())) := by
  simp only [List.length_append, List.length_cons, List.length_nil] at hlen
  have hx0 : (X ++ [x] ++ R ++ Y)[X.length]? = some x := by simp
  have hRt : ∀ i (h : i < R.length), (X ++ [x] ++ R ++ Y)[X.length + 1 + i]? = some R[i] := fun i h => get_R X [x] R Y h
  obtain ⟨r, h1, h2, h3, h4, h5⟩ := bsearch (f := slices_symMergeCmpFunc_int_b3) (fun i j => ((X.length : Int), ar, (i : Int), (j : Int), X ++ [x] ++ R ++ Y, ())) (fun i => some (Sum.inr ((X.length : Int), (i : Int), X ++ [x] ++ R ++ Y, ())))
    (fun t => k ((R[t - (X.length + 1)]?).getD 0) < k x) (X.length + 1) (X.length + 1 + R.length) (by
      intro i j again hi hij hj
      unfold slices_symMergeCmpFunc_int_b3
      dsimp only
      have hh : (i + j) / 2 - (X.length + 1) < R.length := by omega
      have hg := hRt _ hh
      rw [show X.length + 1 + ((i + j) / 2 - (X.length + 1)) = (i + j) / 2 by omega] at hg
      rw [bif_pos (by omega), half_eq i j (by omega)]
      simp only [Int.toNat_natCast, hg, hx0, Option.bind_some]
      obtain ⟨c, hcc, hlt⟩ := hc R[(i + j) / 2 - (X.length + 1)] x (hok _ (List.getElem_mem _)) hx
      rw [hcc, chk_pos (by simp only [Bool.and_eq_true, decide_eq_true_eq, List.length_append, List.length_cons]; omega), chk_pos (by simp only [Bool.and_eq_true, decide_eq_true_eq, List.length_append, List.length_cons]; omega), Option.bind_some, List.getElem?_eq_getElem hh]
      dsimp only [Option.getD]
      by_cases hk : k R[(i + j) / 2 - (X.length + 1)] < k x
      · rw [bif_pos (hlt.2 hk), if_pos hk, w64_id (by omega) (by omega)]; rfl
      · rw [bif_neg (fun h => hk (hlt.1 h)), if_neg hk])
    (by
      intro i again _ _
      unfold slices_symMergeCmpFunc_int_b3
      dsimp only
      rw [bif_neg (by omega)])
    (by
      intro s t hs hst ht hP
      rw [List.getElem?_eq_getElem (by omega)] at hP ⊢
      have := hR.get (i := s - (X.length + 1)) (j := t - (X.length + 1)) (by omega) (by omega)
      simp only [Option.getD_some] at hP ⊢
      omega)
    n (X.length + 1) (X.length + 1 + R.length) (by omega) (Nat.le_refl _) (by omega) (Nat.le_refl _) (fun t h1 h2 => by omega) (fun t h1 h2 => by omega)
  obtain ⟨R1, R2, rfl, hR1⟩ := split_at (l := R) (n := r - (X.length + 1)) (by omega)
  refine ⟨R1, R2, rfl, ?_, ?_, ?_⟩
  · intro y hy
    obtain ⟨i, hi, rfl⟩ := List.mem_iff_getElem.1 hy
    have := h4 (X.length + 1 + i) (by omega) (by omega)
    rw [show X.length + 1 + i - (X.length + 1) = i by omega, List.getElem?_append_left hi, List.getElem?_eq_getElem hi] at this
    exact this
  · intro y hy
    obtain ⟨i, hi, rfl⟩ := List.mem_iff_getElem.1 hy
    have := h5 (X.length + 1 + (R1.length + i)) (by omega) (by simp; omega)
    rw [show X.length + 1 + (R1.length + i) - (X.length + 1) = R1.length + i by omega, List.getElem?_append_right (by omega), show R1.length + i - R1.length = i by omega, List.getElem?_eq_getElem hi] at this
    simp only [Option.getD_some] at this
    omega
  · rw [h1, show X.length + 1 + R1.length = r by omega]

/-- One element behind a sorted block. -/
theorem merge_one_right (hc : CmpOk k ar ok) (X L Y : List Int) (y : Int) (hlen : (X ++ L ++ [y] ++ Y).length < 1000000000) (hL : Srt k L) (hy : ok y) (hok : ∀ z ∈ L, ok z) (n : Nat) (hn : L.length < n) :
    ∃ L1 L2, L = L1 ++ L2 ∧ (∀ z ∈ L1, k z ≤ k y) ∧ (∀ z ∈ L2, k y < k z) ∧ iter (X := slices_symMergeCmpFunc_int_x15) (β := slices_symMergeCmpFunc_int_r15) n (((X.length + L.length : Nat) : Int), ar, (X.length : Int), ((X.length + L.length : Nat) : Int), X ++ L ++ [y] ++ Y, ()) slices_symMergeCmpFunc_int_b15 = some (Sum.inr (((X.length + L.length : Nat) : Int), ((X.length + L1.length : Nat) : Int), X ++ L ++ [y] ++ Y, ())) := by
  simp only [List.length_append, List.length_cons, List.length_nil] at hlen
  have hy0 : (X ++ L ++ [y] ++ Y)[X.length + L.length]? = some y := by
    have := get_R X L [y] Y (i := 0) (by simp)
    simpa using this
  have hLt : ∀ i (h : i < L.length), (X ++ L ++ [y] ++ Y)[X.length + i]? = some L[i] := fun i h => get_L X L [y] Y h
  obtain ⟨r, h1, h2, h3, h4, h5⟩ := bsearch (f := slices_symMergeCmpFunc_int_b15) (fun i j => (((X.length + L.length : Nat) : Int), ar, (i : Int), (j : Int), X ++ L ++ [y] ++ Y, ())) (fun i => some (Sum.inr (((X.length + L.length : Nat) : Int), (i : Int), X ++ L ++ [y] ++ Y, ())))
    (fun t => ¬ k y < k ((L[t - X.length]?).getD 0)) X.length (X.length + L.length) (by
      intro i j again hi hij hj
      unfold slices_symMergeCmpFunc_int_b15
      dsimp only
      have hh : (i + j) / 2 - X.length < L.length := by omega
      have hg := hLt _ hh
      rw [show X.length + ((i + j) / 2 - X.length) = (i + j) / 2 by omega] at hg
      rw [bif_pos (by omega), half_eq i j (by omega)]
      simp only [Int.toNat_natCast, hg, hy0, Option.bind_some]
      obtain ⟨c, hcc, hlt⟩ := hc y L[(i + j) / 2 - X.length] hy (hok _ (List.getElem_mem _))
      rw [hcc, chk_pos (by simp only [Bool.and_eq_true, decide_eq_true_eq, List.length_append, List.length_cons]; omega), chk_pos (by simp only [Bool.and_eq_true, decide_eq_true_eq, List.length_append, List.length_cons]; omega), Option.bind_some, List.getElem?_eq_getElem hh]
      dsimp only [Option.getD]
      by_cases hk : k y < k L[(i + j) / 2 - X.length]
      · rw [decide_eq_true (hlt.2 hk), Bool.not_true, cond_false, if_neg (fun h => h hk)]
      · rw [decide_eq_false (fun h => hk (hlt.1 h)), Bool.not_false, cond_true, if_pos hk, w64_id (by omega) (by omega)]; rfl)
    (by
      intro i again _ _
      unfold slices_symMergeCmpFunc_int_b15
      dsimp only
      rw [bif_neg (by omega)])
    (by
      intro s t hs hst ht hP
      rw [List.getElem?_eq_getElem (by omega)] at hP ⊢
      have := hL.get (i := s - X.length) (j := t - X.length) (by omega) (by omega)
      simp only [Option.getD_some] at hP ⊢
      omega)
    n X.length (X.length + L.length) (by omega) (Nat.le_refl _) (by omega) (Nat.le_refl _) (fun t h1 h2 => by omega) (fun t h1 h2 => by omega)
  obtain ⟨L1, L2, rfl, hL1⟩ := split_at (l := L) (n := r - X.length) (by omega)
  refine ⟨L1, L2, rfl, ?_, ?_, ?_⟩
  · intro z hz
    obtain ⟨i, hi, rfl⟩ := List.mem_iff_getElem.1 hz
    have := h4 (X.length + i) (by omega) (by omega)
    rw [show X.length + i - X.length = i by omega, List.getElem?_append_left hi, List.getElem?_eq_getElem hi] at this
    simp only [Option.getD_some] at this
    omega
  · intro z hz
    obtain ⟨i, hi, rfl⟩ := List.mem_iff_getElem.1 hz
    have := h5 (X.length + (L1.length + i)) (by omega) (by simp; omega)
    rw [show X.length + (L1.length + i) - X.length = L1.length + i by omega, List.getElem?_append_right (by omega), show L1.length + i - L1.length = i by omega, List.getElem?_eq_getElem hi] at this
    simp only [Option.getD_some] at this
    omega
  · rw [h1, show X.length + L1.length = r by omega]

/-- The place where the halves part. -/
theorem merge_search (hc : CmpOk k ar ok) (X L R Y : List Int) (hlen : (X ++ L ++ R ++ Y).length < 1000000000) (hL : Srt k L) (hR : Srt k R) (hokL : ∀ z ∈ L, ok z) (hokR : ∀ z ∈ R, ok z) (mid lo hi : Nat) (hmid : mid = (X.length + (X.length + L.length + R.length)) / 2)
    (hcase : (mid < X.length + L.length ∧ lo + R.length = mid ∧ hi = mid ∧ X.length ≤ lo) ∨ (X.length + L.length ≤ mid ∧ lo = X.length ∧ hi = X.length + L.length)) (n : Nat) (hn : hi < n) :
    ∃ s : Nat, iter (X := slices_symMergeCmpFunc_int_x33) (β := slices_symMergeCmpFunc_int_r33) n ((X.length : Int), ((X.length + L.length : Nat) : Int), ((X.length + L.length + R.length : Nat) : Int), ar, (mid : Int), ((mid + (X.length + L.length) : Nat) : Int), (lo : Int), (hi : Int), ((mid + (X.length + L.length) : Nat) : Int) - 1, X ++ L ++ R ++ Y, ()) slices_symMergeCmpFunc_int_b33 = some (Sum.inr ((X.length : Int), ((X.length + L.length : Nat) : Int), ((X.length + L.length + R.length : Nat) : Int), ar, (mid : Int), ((mid + (X.length + L.length) : Nat) : Int), (s : Int), X ++ L ++ R ++ Y, ())) ∧
      lo ≤ s ∧ s ≤ hi ∧ (∀ i j (_ : i < L.length) (_ : j < R.length), X.length + i + 1 = s → j + s = mid → k L[i] ≤ k R[j]) ∧ (∀ i j (_ : i < L.length) (_ : j < R.length), X.length + i = s → j + 1 + s = mid → k R[j] < k L[i]) := by
  simp only [List.length_append] at hlen
  have hLt : ∀ i (h : i < L.length), (X ++ L ++ R ++ Y)[X.length + i]? = some L[i] := fun i h => get_L X L R Y h
  have hRt : ∀ i (h : i < R.length), (X ++ L ++ R ++ Y)[X.length + L.length + i]? = some R[i] := fun i h => get_R X L R Y h
  obtain ⟨r, h1, h2, h3, h4, h5⟩ := bsearch (f := slices_symMergeCmpFunc_int_b33) (fun i j => ((X.length : Int), ((X.length + L.length : Nat) : Int), ((X.length + L.length + R.length : Nat) : Int), ar, (mid : Int), ((mid + (X.length + L.length) : Nat) : Int), (i : Int), (j : Int), ((mid + (X.length + L.length) : Nat) : Int) - 1, X ++ L ++ R ++ Y, ()))
    (fun s => some (Sum.inr ((X.length : Int), ((X.length + L.length : Nat) : Int), ((X.length + L.length + R.length : Nat) : Int), ar, (mid : Int), ((mid + (X.length + L.length) : Nat) : Int), (s : Int), X ++ L ++ R ++ Y, ())))
    (fun t => ¬ k ((R[mid - 1 - t]?).getD 0) < k ((L[t - X.length]?).getD 0)) lo hi (by
      intro i j again hi1 hij hj
      unfold slices_symMergeCmpFunc_int_b33
      dsimp only
      generalize hh0 : (i + j) / 2 = h
      have hhL : h - X.length < L.length := by omega
      have hhR : mid - 1 - h < R.length := by omega
      have hg := hLt _ hhL
      rw [show X.length + (h - X.length) = h by omega] at hg
      have hg2 := hRt _ hhR
      rw [bif_pos (by omega), half_eq i j (by omega), hh0]
      have e1 : w64 (((mid + (X.length + L.length) : Nat) : Int) - 1 - (h : Int)) = ((X.length + L.length + (mid - 1 - h) : Nat) : Int) := by rw [w64_id (by omega) (by omega)]; omega
      rw [e1]
      simp only [Int.toNat_natCast, hg, hg2, Option.bind_some]
      obtain ⟨c, hcc, hlt⟩ := hc R[mid - 1 - h] L[h - X.length] (hokR _ (List.getElem_mem _)) (hokL _ (List.getElem_mem _))
      rw [hcc, chk_pos (by simp only [Bool.and_eq_true, decide_eq_true_eq, List.length_append]; omega), chk_pos (by simp only [Bool.and_eq_true, decide_eq_true_eq, List.length_append]; omega), Option.bind_some, List.getElem?_eq_getElem hhL, List.getElem?_eq_getElem hhR]
      dsimp only [Option.getD]
      by_cases hk : k R[mid - 1 - h] < k L[h - X.length]
      · rw [decide_eq_true (hlt.2 hk), Bool.not_true, cond_false, if_neg (fun h => h hk)]
      · rw [decide_eq_false (fun h => hk (hlt.1 h)), Bool.not_false, cond_true, if_pos hk, w64_id (by omega) (by omega)]; rfl)
    (by
      intro i again _ _
      unfold slices_symMergeCmpFunc_int_b33
      dsimp only
      rw [bif_neg (by omega)])
    (by
      intro s t hs hst ht hP
      rw [List.getElem?_eq_getElem (show t - X.length < L.length by omega), List.getElem?_eq_getElem (show mid - 1 - t < R.length by omega)] at hP
      rw [List.getElem?_eq_getElem (show s - X.length < L.length by omega), List.getElem?_eq_getElem (show mid - 1 - s < R.length by omega)]
      have a1 := hL.get (i := s - X.length) (j := t - X.length) (by omega) (by omega)
      have a2 := hR.get (i := mid - 1 - t) (j := mid - 1 - s) (by omega) (by omega)
      simp only [Option.getD_some] at hP ⊢
      omega)
    n lo hi (by omega) (Nat.le_refl _) (by omega) (Nat.le_refl _) (fun t h1 h2 => by omega) (fun t h1 h2 => by omega)
  refine ⟨r, h1, h2, h3, ?_, ?_⟩
  · intro i j hi' hj' e1 e2
    have := h4 (X.length + i) (by omega) (by omega)
    rw [show X.length + i - X.length = i by omega, show mid - 1 - (X.length + i) = j by omega, List.getElem?_eq_getElem hi', List.getElem?_eq_getElem hj'] at this
    simp only [Option.getD_some] at this
    omega
  · intro i j hi' hj' e1 e2
    have := h5 (X.length + i) (by omega) (by omega)
    rw [show X.length + i - X.length = i by omega, show mid - 1 - (X.length + i) = j by omega, List.getElem?_eq_getElem hi', List.getElem?_eq_getElem hj'] at this
    simp only [Option.getD_some] at this
    omega

def symF (self : ((List Int) × Int × Int × Int × (List D_api_State) × Unit) → Option ((List Int) × Unit)) (x : (List Int) × Int × Int × Int × (List D_api_State) × Unit) := slices_symMergeCmpFunc_int_F self x.1 x.2.1 x.2.2.1 x.2.2.2.1 x.2.2.2.2.1

set_option maxHeartbeats 4000000 in
theorem symMerge_rec (hc : CmpOk k ar ok) : ∀ (n : Nat) (X L R Y : List Int), L.length + R.length < n + 2 → 0 < L.length → 0 < R.length → (X ++ L ++ R ++ Y).length < 1000000000 → Srt k L → Srt k R → (∀ z ∈ L, ok z) → (∀ z ∈ R, ok z) →
    ∃ S, recM symF n (X ++ L ++ R ++ Y, (X.length : Int), ((X.length + L.length : Nat) : Int), ((X.length + L.length + R.length : Nat) : Int), ar, ()) = some (X ++ S ++ Y, ()) ∧ Srt k S ∧ SamE k (L ++ R) S := by
  intro n
  induction n with
  | zero => intro X L R Y h h1 h2; omega
  | succ n ih =>
    intro X L R Y hn hL0 hR0 hlen hL hR hokL hokR
    have hlen' := hlen
    simp only [List.length_append] at hlen
    show ∃ S, symF (recM symF n) _ = _ ∧ _
    generalize hself : recM symF n = self at ih
    unfold symF slices_symMergeCmpFunc_int_F
    dsimp only
    have e1 : w64 (((X.length + L.length : Nat) : Int) - (X.length : Int)) = (L.length : Int) := by rw [w64_id (by omega) (by omega)]; omega
    have e2 : w64 (((X.length + L.length + R.length : Nat) : Int) - ((X.length + L.length : Nat) : Int)) = (R.length : Int) := by rw [w64_id (by omega) (by omega)]; omega
    rw [e1, e2]
    by_cases hL1 : L.length = 1
    · obtain ⟨x, rfl⟩ : ∃ x, L = [x] := List.length_eq_one_iff.1 hL1
      rw [show ((([x].length : Nat) : Int) == 1) = true by simp, cond_true]
      obtain ⟨R1, R2, rfl, h1, h2, h3⟩ := merge_one_left hc X R Y x hlen' hR (hokL x (by simp)) hokR (Int.natAbs (X.length : Int) + (Int.natAbs ((X.length + [x].length : Nat) : Int) + (Int.natAbs ((X.length + [x].length + R.length : Nat) : Int) + (List.length (X ++ [x] ++ R ++ Y) + 2)))) (by simp; omega)
      simp only [List.length_cons, List.length_nil, Nat.zero_add] at h3 ⊢
      rw [h3, joinB_inr]
      dsimp only
      have hmv := move_up (X.length + 1 + R1.length) (Int.natAbs ((X.length + 1 + R1.length : Nat) : Int) + (Int.natAbs (X.length : Int) + (List.length (X ++ [x] ++ (R1 ++ R2) ++ Y) + 2))) X R1 (R2 ++ Y) x (by simp; omega) rfl (by simp at hlen ⊢; omega)
      rw [show X ++ x :: R1 ++ (R2 ++ Y) = X ++ [x] ++ (R1 ++ R2) ++ Y by simp] at hmv
      rw [hmv, joinB_inr]
      refine ⟨R1 ++ x :: R2, by simp, ?_, ?_⟩
      · exact hR.left.append (List.pairwise_cons.2 ⟨h2, hR.right⟩) (fun y hy z hz => by
          rcases List.mem_cons.1 hz with rfl | hz
          · have := h1 y hy; omega
          · exact hR.cross y hy z hz)
      · have := (SamE.swap (k := k) (u := [x]) (v := R1) (fun y hy z hz => by rw [List.mem_singleton.1 hy]; have := h1 z hz; omega)).append (SamE.refl k R2)
        simpa using this
    · rw [show (((L.length : Nat) : Int) == 1) = false by simp; omega, cond_false]
      by_cases hR1 : R.length = 1
      · obtain ⟨y, rfl⟩ : ∃ x, R = [x] := List.length_eq_one_iff.1 hR1
        rw [show ((([y].length : Nat) : Int) == 1) = true by simp, cond_true]
        obtain ⟨L1, L2, rfl, h1, h2, h3⟩ := merge_one_right hc X L Y y hlen' hL (hokR y (by simp)) hokL (Int.natAbs ((X.length + L.length : Nat) : Int) + (Int.natAbs (X.length : Int) + (Int.natAbs ((X.length + L.length : Nat) : Int) + (List.length (X ++ L ++ [y] ++ Y) + 2)))) (by omega)
        rw [h3, joinB_inr]
        dsimp only
        have hmv := move_down (X ++ L1) (Int.natAbs ((X.length + L1.length : Nat) : Int) + (Int.natAbs ((X.length + (L1 ++ L2).length : Nat) : Int) + (List.length (X ++ (L1 ++ L2) ++ [y] ++ Y) + 2))) L2 Y y (by simp; omega) (by simp at hlen ⊢; omega)
        rw [show X ++ L1 ++ L2 ++ y :: Y = X ++ (L1 ++ L2) ++ [y] ++ Y by simp, show (((X ++ L1).length : Nat) : Int) = ((X.length + L1.length : Nat) : Int) by simp, show (((X ++ L1).length + L2.length : Nat) : Int) = ((X.length + (L1 ++ L2).length : Nat) : Int) by simp; omega] at hmv
        rw [hmv, joinB_inr]
        refine ⟨L1 ++ y :: L2, by simp, ?_, ?_⟩
        · exact hL.left.append (List.pairwise_cons.2 ⟨fun z hz => by have := h2 z hz; omega, hL.right⟩) (fun z hz w hw => by
            rcases List.mem_cons.1 hw with rfl | hw
            · exact h1 z hz
            · exact hL.cross z hz w hw)
        · have := (SamE.refl k L1).append (SamE.swap (k := k) (u := L2) (v := [y]) (fun z hz w hw => by rw [List.mem_singleton.1 hw]; have := h2 z hz; omega))
          simpa using this
      · rw [show (((R.length : Nat) : Int) == 1) = false by simp; omega, cond_false]
        have eh := half_eq X.length (X.length + L.length + R.length) (by omega)
        rw [eh]
        generalize hmid : (X.length + (X.length + L.length + R.length)) / 2 = mid
        have e3 : w64 ((mid : Int) + ((X.length + L.length : Nat) : Int)) = ((mid + (X.length + L.length) : Nat) : Int) := by rw [w64_id (by omega) (by omega)]; omega
        rw [e3]
        -- where to look
        obtain ⟨lo, hi, hcase, hv⟩ : ∃ lo hi : Nat, ((mid < X.length + L.length ∧ lo + R.length = mid ∧ hi = mid ∧ X.length ≤ lo) ∨ (X.length + L.length ≤ mid ∧ lo = X.length ∧ hi = X.length + L.length)) ∧
            (bif decide (((X.length + L.length : Nat) : Int) > (mid : Int)) then
              (some (Sum.inr ((X.length : Int), ((X.length + L.length : Nat) : Int), ((X.length + L.length + R.length : Nat) : Int), ar, (mid : Int), ((mid + (X.length + L.length) : Nat) : Int), w64 (((mid + (X.length + L.length) : Nat) : Int) - ((X.length + L.length + R.length : Nat) : Int)), (mid : Int), X ++ L ++ R ++ Y, ())) : Option (((List Int) × Unit) ⊕ (Int × Int × Int × (List D_api_State) × Int × Int × Int × Int × (List Int) × Unit)))
            else some (Sum.inr ((X.length : Int), ((X.length + L.length : Nat) : Int), ((X.length + L.length + R.length : Nat) : Int), ar, (mid : Int), ((mid + (X.length + L.length) : Nat) : Int), (X.length : Int), ((X.length + L.length : Nat) : Int), X ++ L ++ R ++ Y, ()))) = some (Sum.inr ((X.length : Int), ((X.length + L.length : Nat) : Int), ((X.length + L.length + R.length : Nat) : Int), ar, (mid : Int), ((mid + (X.length + L.length) : Nat) : Int), (lo : Int), (hi : Int), X ++ L ++ R ++ Y, ())) := by
          by_cases hm : mid < X.length + L.length
          · refine ⟨mid - R.length, mid, .inl ⟨hm, by omega, rfl, by omega⟩, ?_⟩
            rw [bif_pos (by omega), w64_id (by omega) (by omega), show ((mid + (X.length + L.length) : Nat) : Int) - ((X.length + L.length + R.length : Nat) : Int) = ((mid - R.length : Nat) : Int) by omega]
          · refine ⟨X.length, X.length + L.length, .inr ⟨by omega, rfl, rfl⟩, ?_⟩
            rw [bif_neg (by omega)]
        rw [hv, joinB_inr]
        dsimp only
        have e4 : w64 (((mid + (X.length + L.length) : Nat) : Int) - 1) = ((mid + (X.length + L.length) : Nat) : Int) - 1 := w64_id (by omega) (by omega)
        rw [e4]
        obtain ⟨s, h1, h2, h3, hF2, hF1⟩ := merge_search hc X L R Y hlen' hL hR hokL hokR mid lo hi hmid.symm hcase (Int.natAbs (X.length : Int) + (Int.natAbs ((X.length + L.length : Nat) : Int) + (Int.natAbs ((X.length + L.length + R.length : Nat) : Int) + (Int.natAbs (mid : Int) + (Int.natAbs ((mid + (X.length + L.length) : Nat) : Int) + (Int.natAbs (lo : Int) + (Int.natAbs (hi : Int) + (Int.natAbs (((mid + (X.length + L.length) : Nat) : Int) - 1) + (List.length (X ++ L ++ R ++ Y) + 2))))))))) (by omega)
        rw [h1, joinB_inr]
        dsimp only
        clear h1 hv
        -- the four parts
        obtain ⟨L1, L2, rfl, hL1l⟩ := split_at (l := L) (n := s - X.length) (by omega)
        obtain ⟨R1, R2, rfl, hR1l⟩ := split_at (l := R) (n := mid - s) (by simp only [List.length_append] at *; omega)
        simp only [List.length_append] at hn hlen hL1 hR1 hmid hcase e1 e2 e3 e4 eh hL0 hR0
        have F1 : ∀ y ∈ R1, ∀ z ∈ L2, k y < k z := by
          intro y hy z hz
          have hr0 : 0 < R1.length := List.length_pos_of_mem hy
          have hl0 : 0 < L2.length := List.length_pos_of_mem hz
          have := hF1 L1.length (R1.length - 1) (by simp; omega) (by simp; omega) (by omega) (by omega)
          rw [List.getElem_append_left (show R1.length - 1 < R1.length by omega), List.getElem_append_right (by omega)] at this
          obtain ⟨i, hi', rfl⟩ := List.mem_iff_getElem.1 hy
          obtain ⟨j, hj', rfl⟩ := List.mem_iff_getElem.1 hz
          have a1 := hR.left.get (i := i) (j := R1.length - 1) (by omega) (by omega)
          have a2 := hL.right.get (i := L1.length - L1.length) (j := j) (by omega) hj'
          omega
        have F2 : ∀ y ∈ L1, ∀ z ∈ R2, k y ≤ k z := by
          intro y hy z hz
          have hr0 : 0 < L1.length := List.length_pos_of_mem hy
          have hl0 : 0 < R2.length := List.length_pos_of_mem hz
          have := hF2 (L1.length - 1) R1.length (by simp; omega) (by simp; omega) (by omega) (by omega)
          rw [List.getElem_append_left (show L1.length - 1 < L1.length by omega), List.getElem_append_right (by omega)] at this
          obtain ⟨i, hi', rfl⟩ := List.mem_iff_getElem.1 hy
          obtain ⟨j, hj', rfl⟩ := List.mem_iff_getElem.1 hz
          have a1 := hL.left.get (i := i) (j := L1.length - 1) (by omega) (by omega)
          have a2 := hR.right.get (i := R1.length - R1.length) (j := j) (by omega) hj'
          omega
        have e5 : w64 (((mid + (X.length + (L1 ++ L2).length) : Nat) : Int) - (s : Int)) = ((X.length + (L1 ++ L2).length + R1.length : Nat) : Int) := by
          rw [w64_id (by simp; omega) (by simp; omega)]; simp only [List.length_append]; omega
        rw [e5]
        have hokL1 : ∀ z ∈ L1, ok z := fun z hz => hokL z (by simp [hz])
        have hokL2 : ∀ z ∈ L2, ok z := fun z hz => hokL z (by simp [hz])
        have hokR1 : ∀ z ∈ R1, ok z := fun z hz => hokR z (by simp [hz])
        have hokR2 : ∀ z ∈ R2, ok z := fun z hz => hokR z (by simp [hz])
        -- the first half
        have ph1 : ∃ S1, (X.length < s → s < mid → self (X ++ L1 ++ R1 ++ (L2 ++ R2 ++ Y), (X.length : Int), (s : Int), (mid : Int), ar, ()) = some (X ++ S1 ++ (L2 ++ R2 ++ Y), ())) ∧ (¬(X.length < s ∧ s < mid) → S1 = L1 ++ R1) ∧ Srt k S1 ∧ SamE k (L1 ++ R1) S1 := by
          by_cases hb : X.length < s ∧ s < mid
          · obtain ⟨S1, g1, g2, g3⟩ := ih X L1 R1 (L2 ++ R2 ++ Y) (by omega) (by omega) (by omega) (by simp; omega) hL.left hR.left hokL1 hokR1
            rw [show ((X.length + L1.length : Nat) : Int) = (s : Int) by omega, show ((X.length + L1.length + R1.length : Nat) : Int) = (mid : Int) by omega] at g1
            exact ⟨S1, fun _ _ => g1, fun h => absurd hb h, g2, g3⟩
          · refine ⟨L1 ++ R1, fun h1 h2 => absurd ⟨h1, h2⟩ hb, fun _ => rfl, ?_, SamE.refl _ _⟩
            rcases (show L1.length = 0 ∨ R1.length = 0 by omega) with h | h
            · rw [List.eq_nil_of_length_eq_zero h]; exact hR.left
            · rw [List.eq_nil_of_length_eq_zero h, List.append_nil]; exact hL.left
        obtain ⟨S1, hS1a, hS1b, hS1s, hS1e⟩ := ph1
        have hS1l : S1.length = L1.length + R1.length := by rw [hS1e.length]; simp
        -- the second half
        have ph2 : ∃ S2, (bif decide ((mid : Int) < ((X.length + (L1 ++ L2).length + R1.length : Nat) : Int)) then
              bif decide (((X.length + (L1 ++ L2).length + R1.length : Nat) : Int) < ((X.length + (L1 ++ L2).length + (R1 ++ R2).length : Nat) : Int)) then
                Option.bind (self (X ++ S1 ++ (L2 ++ R2 ++ Y), (mid : Int), ((X.length + (L1 ++ L2).length + R1.length : Nat) : Int), ((X.length + (L1 ++ L2).length + (R1 ++ R2).length : Nat) : Int), ar, ())) fun r38 => some (r38.1, ())
              else some (X ++ S1 ++ (L2 ++ R2 ++ Y), ())
            else some (X ++ S1 ++ (L2 ++ R2 ++ Y), ())) = some (X ++ (S1 ++ S2) ++ Y, ()) ∧ Srt k S2 ∧ SamE k (L2 ++ R2) S2 := by
          simp only [List.length_append]
          by_cases hb1 : 0 < L2.length
          · rw [bif_pos (by omega)]
            by_cases hb2 : 0 < R2.length
            · rw [bif_pos (by omega)]
              obtain ⟨S2, g1, g2, g3⟩ := ih (X ++ S1) L2 R2 Y (by omega) hb1 hb2 (by simp; omega) hL.right hR.right hokL2 hokR2
              rw [show (((X ++ S1).length : Nat) : Int) = (mid : Int) by simp; omega, show (((X ++ S1).length + L2.length : Nat) : Int) = ((X.length + (L1.length + L2.length) + R1.length : Nat) : Int) by simp; omega, show (((X ++ S1).length + L2.length + R2.length : Nat) : Int) = ((X.length + (L1.length + L2.length) + (R1.length + R2.length) : Nat) : Int) by simp; omega] at g1
              rw [show X ++ S1 ++ (L2 ++ R2 ++ Y) = X ++ S1 ++ L2 ++ R2 ++ Y by simp, g1]
              exact ⟨S2, by simp, g2, g3⟩
            · have : R2 = [] := List.eq_nil_of_length_eq_zero (by omega)
              subst this
              rw [bif_neg (by simp)]
              exact ⟨L2, by simp, hL.right, by simpa using SamE.refl k L2⟩
          · have : L2 = [] := List.eq_nil_of_length_eq_zero (by omega)
            subst this
            rw [bif_neg (by simp; omega)]
            exact ⟨R2, by simp, hR.right, SamE.refl _ _⟩
        obtain ⟨S2, hE2, hS2s, hS2e⟩ := ph2
        have fin : Srt k (S1 ++ S2) ∧ SamE k (L1 ++ L2 ++ (R1 ++ R2)) (S1 ++ S2) := by
          constructor
          · refine hS1s.append hS2s fun y hy z hz => ?_
            rcases List.mem_append.1 (hS1e.mem.1 hy) with h | h <;> rcases List.mem_append.1 (hS2e.mem.1 hz) with h' | h'
            · exact hL.cross y h z h'
            · exact F2 y h z h'
            · have := F1 y h z h'; omega
            · exact hR.cross y h z h'
          · have h1 : SamE k (L1 ++ (L2 ++ R1) ++ R2) (L1 ++ (R1 ++ L2) ++ R2) := ((SamE.refl k L1).append (SamE.swap fun y hy z hz => by have := F1 z hz y hy; omega)).append (SamE.refl k R2)
            have h2 := hS1e.append hS2e
            have h3 : SamE k (L1 ++ L2 ++ (R1 ++ R2)) (L1 ++ R1 ++ (L2 ++ R2)) := by simpa using h1
            exact h3.trans h2
        refine ⟨S1 ++ S2, ?_, fin.1, fin.2⟩
        have hsL : ((X.length + (L1 ++ L2).length : Nat) : Int) = ((X.length + L1.length + L2.length : Nat) : Int) := by simp; omega
        -- the list with its blocks in place
        have tail : ∀ (D : List Int), D = X ++ L1 ++ R1 ++ (L2 ++ R2 ++ Y) →
            (bif decide ((X.length : Int) < (s : Int)) then
              joinB (β := ((List Int) × Unit)) (γ := (Int × (List D_api_State) × Int × Int × (List Int) × Unit)) (
                bif decide ((s : Int) < (mid : Int)) then
                  Option.bind (self (D, (X.length : Int), (s : Int), (mid : Int), ar, ())) fun r35 =>
                  some (Sum.inr (((X.length + (L1 ++ L2).length + (R1 ++ R2).length : Nat) : Int), ar, (mid : Int), ((X.length + (L1 ++ L2).length + R1.length : Nat) : Int), r35.1, ()))
                else
                  some (Sum.inr (((X.length + (L1 ++ L2).length + (R1 ++ R2).length : Nat) : Int), ar, (mid : Int), ((X.length + (L1 ++ L2).length + R1.length : Nat) : Int), D, ()))) fun v36 =>
              bif decide (v36.2.2.1 < v36.2.2.2.1) then
                bif decide (v36.2.2.2.1 < v36.1) then
                  Option.bind (self (v36.2.2.2.2.1, v36.2.2.1, v36.2.2.2.1, v36.1, v36.2.1, ())) fun r37 =>
                  some (r37.1, ())
                else
                  some (v36.2.2.2.2.1, ())
              else
                some (v36.2.2.2.2.1, ())
            else
              bif decide ((mid : Int) < ((X.length + (L1 ++ L2).length + R1.length : Nat) : Int)) then
                bif decide (((X.length + (L1 ++ L2).length + R1.length : Nat) : Int) < ((X.length + (L1 ++ L2).length + (R1 ++ R2).length : Nat) : Int)) then
                  Option.bind (self (D, (mid : Int), ((X.length + (L1 ++ L2).length + R1.length : Nat) : Int), ((X.length + (L1 ++ L2).length + (R1 ++ R2).length : Nat) : Int), ar, ())) fun r38 =>
                  some (r38.1, ())
                else
                  some (D, ())
              else
                some (D, ())) = some (X ++ (S1 ++ S2) ++ Y, ()) := by
          intro D hD
          by_cases hb1 : X.length < s
          · rw [bif_pos (by omega)]
            by_cases hb2 : s < mid
            · rw [bif_pos (by omega), hD, hS1a hb1 hb2, Option.bind_some, joinB_inr]
              exact hE2
            · rw [bif_neg (by omega), joinB_inr, hD]
              have : X ++ L1 ++ R1 ++ (L2 ++ R2 ++ Y) = X ++ S1 ++ (L2 ++ R2 ++ Y) := by rw [hS1b (fun h => hb2 h.2)]; simp
              rw [this]
              exact hE2
          · rw [bif_neg (by omega), hD]
            have : X ++ L1 ++ R1 ++ (L2 ++ R2 ++ Y) = X ++ S1 ++ (L2 ++ R2 ++ Y) := by rw [hS1b (fun h => hb1 h.1)]; simp
            rw [this]
            exact hE2
        by_cases hsm : s < X.length + (L1 ++ L2).length
        · rw [bif_pos (by omega)]
          by_cases hme : 0 < R1.length
          · have hrot := rotate_eq (ar := ar) (X ++ L1) L2 R1 (R2 ++ Y) (by simp at hsm; omega) hme (by simp; omega)
            rw [show (((X ++ L1).length : Nat) : Int) = (s : Int) by simp; omega, show (((X ++ L1).length + L2.length : Nat) : Int) = ((X.length + (L1 ++ L2).length : Nat) : Int) by simp; omega, show (((X ++ L1).length + L2.length + R1.length : Nat) : Int) = ((X.length + (L1 ++ L2).length + R1.length : Nat) : Int) by simp; omega,
              show X ++ L1 ++ L2 ++ R1 ++ (R2 ++ Y) = X ++ (L1 ++ L2) ++ (R1 ++ R2) ++ Y by simp] at hrot
            rw [bif_pos (by omega), hrot, Option.bind_some, joinB_inr]
            exact tail _ (by simp)
          · have : R1 = [] := List.eq_nil_of_length_eq_zero (by omega)
            subst this
            rw [bif_neg (by simp), joinB_inr]
            exact tail _ (by simp)
        · rw [bif_neg (by omega)]
          have : L2 = [] := List.eq_nil_of_length_eq_zero (by simp at hsm; omega)
          subst this
          exact tail _ (by simp)
theorem symMerge_eq (hc : CmpOk k ar ok) (X L R Y : List Int) (h1 : 0 < L.length) (h2 : 0 < R.length) (hlen : (X ++ L ++ R ++ Y).length < 1000000000) (hL : Srt k L) (hR : Srt k R) (hokL : ∀ z ∈ L, ok z) (hokR : ∀ z ∈ R, ok z) :
    ∃ S, slices_symMergeCmpFunc_int (X ++ L ++ R ++ Y) (X.length : Int) ((X.length + L.length : Nat) : Int) ((X.length + L.length + R.length : Nat) : Int) ar = some (X ++ S ++ Y, ()) ∧ Srt k S ∧ SamE k (L ++ R) S := by
  unfold slices_symMergeCmpFunc_int
  exact symMerge_rec hc _ X L R Y (by unfold slices_symMergeCmpFunc_int_fuel; simp only [List.length_append]; omega) h1 h2 hlen hL hR hokL hokR

theorem stable_first (hc : CmpOk k ar ok) (N : Nat) (hN : N < 100000000) : ∀ (n : Nat) (A Z : List Int) (j : Nat), A.length = j * 20 → A.length + Z.length = N → Z.length < n → ChS k 20 A → (∀ z ∈ A, ok z) → (∀ z ∈ Z, ok z) →
    ∃ A' Z' j', iter (X := slices_stableCmpFunc_int_x2) (β := slices_stableCmpFunc_int_r2) n ((N : Int), ar, 20, (A.length : Int), ((A.length + 20 : Nat) : Int), A ++ Z, ()) slices_stableCmpFunc_int_b2 = some (Sum.inr ((N : Int), ar, 20, (A'.length : Int), A' ++ Z', ())) ∧ A'.length = j' * 20 ∧ Z'.length < 20 ∧ ChS k 20 A' ∧ SamE k (A ++ Z) (A' ++ Z') := by
  intro n
  induction n with
  | zero => intro A Z j _ _ h; omega
  | succ n ih =>
    intro A Z j hA hAZ hn hch hokA hokZ
    rw [iter_succ]
    generalize hag : (fun y => iter n y slices_stableCmpFunc_int_b2) = again
    unfold slices_stableCmpFunc_int_b2
    dsimp only
    by_cases hb : 20 ≤ Z.length
    · rw [bif_pos (by omega)]
      obtain ⟨S, Y, rfl, hS⟩ := split_at (l := Z) (n := 20) hb
      simp only [List.length_append] at hAZ hn
      obtain ⟨S', g1, g2, g3⟩ := insertion_eq hc A S Y (by simp; omega) (fun z hz => hokZ z (by simp [hz]))
      rw [hS] at g1
      rw [show A ++ (S ++ Y) = A ++ S ++ Y by simp, g1, Option.bind_some]
      dsimp only
      have hS' : S'.length = 20 := by rw [g3.length, hS]
      have e1 : w64 (((A.length + 20 : Nat) : Int) + 20) = (((A ++ S').length + 20 : Nat) : Int) := by rw [w64_id (by omega) (by omega)]; simp; omega
      rw [e1, show ((A.length + 20 : Nat) : Int) = (((A ++ S').length : Nat) : Int) by simp; omega, ← hag]
      obtain ⟨A', Z', j', h1, h2, h3, h4, h5⟩ := ih (A ++ S') Y (j + 1) (by simp; omega) (by simp; omega) (by omega) (hch.snoc hA g2 (by omega)) (fun z hz => by
        rcases List.mem_append.1 hz with h | h
        · exact hokA z h
        · exact hokZ z (by simp [g3.mem.1 h])) (fun z hz => hokZ z (by simp [hz]))
      refine ⟨A', Z', j', h1, h2, h3, h4, ?_⟩
      have : SamE k (A ++ S ++ Y) (A ++ S' ++ Y) := ((SamE.refl k A).append g3).append (SamE.refl k Y)
      exact this.trans h5
    · rw [bif_neg (by omega)]
      exact ⟨A, Z, j, rfl, hA, by omega, hch, SamE.refl _ _⟩

theorem stable_pass (hc : CmpOk k ar ok) (N bs : Nat) (hN : N < 100000000) (hbs : 0 < bs) (hbN : bs < N) : ∀ (n : Nat) (A Z : List Int) (j : Nat), A.length = j * (2 * bs) → A.length + Z.length = N → Z.length < n → ChS k (2 * bs) A → ChS k bs Z → (∀ z ∈ A, ok z) → (∀ z ∈ Z, ok z) →
    ∃ A' Z' j', iter (X := slices_stableCmpFunc_int_x9) (β := slices_stableCmpFunc_int_r9) n ((N : Int), ar, (bs : Int), (A.length : Int), ((A.length + 2 * bs : Nat) : Int), A ++ Z, ()) slices_stableCmpFunc_int_b9 = some (Sum.inr ((N : Int), ar, (bs : Int), (A'.length : Int), A' ++ Z', ())) ∧ A'.length = j' * (2 * bs) ∧ Z'.length < 2 * bs ∧ ChS k (2 * bs) A' ∧ ChS k bs Z' ∧ SamE k (A ++ Z) (A' ++ Z') := by
  intro n
  induction n with
  | zero => intro A Z j _ _ h; omega
  | succ n ih =>
    intro A Z j hA hAZ hn hch hcz hokA hokZ
    rw [iter_succ]
    generalize hag : (fun y => iter n y slices_stableCmpFunc_int_b9) = again
    unfold slices_stableCmpFunc_int_b9
    dsimp only
    by_cases hb : 2 * bs ≤ Z.length
    · rw [bif_pos (by omega)]
      obtain ⟨L, Z1, rfl, hL⟩ := split_at (l := Z) (n := bs) (by omega)
      obtain ⟨R, Y, rfl, hR⟩ := split_at (l := Z1) (n := bs) (by simp at hb; omega)
      simp only [List.length_append] at hAZ hn hb
      have sL : Srt k L := by
        have := hcz 0
        rw [Nat.zero_mul, List.drop_zero, ← hL, List.take_left] at this
        exact this
      have sR : Srt k R := by
        have := hcz 1
        rw [Nat.one_mul] at this
        conv at this => arg 2; rw [show bs = L.length by omega, List.drop_left, show L.length = R.length by omega, List.take_left]
        exact this
      have cY : ChS k bs Y := by
        have := hcz.drop 2
        rw [show L ++ (R ++ Y) = (L ++ R) ++ Y by simp, show 2 * bs = (L ++ R).length by simp; omega, List.drop_left] at this
        exact this
      obtain ⟨S, g1, g2, g3⟩ := symMerge_eq hc A L R Y (by omega) (by omega) (by simp; omega) sL sR (fun z hz => hokZ z (by simp [hz])) (fun z hz => hokZ z (by simp [hz]))
      have e0 : w64 ((A.length : Int) + (bs : Int)) = ((A.length + L.length : Nat) : Int) := by rw [w64_id (by omega) (by omega)]; omega
      rw [e0, show ((A.length + 2 * bs : Nat) : Int) = ((A.length + L.length + R.length : Nat) : Int) by omega, show A ++ (L ++ (R ++ Y)) = A ++ L ++ R ++ Y by simp, g1, Option.bind_some]
      dsimp only
      have hSl : S.length = 2 * bs := by rw [g3.length]; simp; omega
      have e1 : w64 (((A.length + L.length + R.length : Nat) : Int) + w64 (2 * (bs : Int))) = (((A ++ S).length + 2 * bs : Nat) : Int) := by
        rw [w64_id (n := 2 * (bs : Int)) (by omega) (by omega), w64_id (by omega) (by omega)]; simp; omega
      rw [e1, show ((A.length + L.length + R.length : Nat) : Int) = (((A ++ S).length : Nat) : Int) by simp; omega, ← hag]
      obtain ⟨A', Z', j', h1, h2, h3, h4, h5, h6⟩ := ih (A ++ S) Y (j + 1) (by rw [List.length_append, hA, hSl, Nat.add_mul, Nat.one_mul]) (by simp; omega) (by omega) (hch.snoc hA g2 (by omega)) cY (fun z hz => by
        rcases List.mem_append.1 hz with h | h
        · exact hokA z h
        · rcases List.mem_append.1 (g3.mem.1 h) with h | h <;> exact hokZ z (by simp [h])) (fun z hz => hokZ z (by simp [hz]))
      refine ⟨A', Z', j', h1, h2, h3, h4, h5, ?_⟩
      have : SamE k (A ++ (L ++ R) ++ Y) (A ++ S ++ Y) := ((SamE.refl k A).append g3).append (SamE.refl k Y)
      have h7 := this.trans h6
      simpa using h7
    · rw [bif_neg (by omega)]
      exact ⟨A, Z, j, rfl, hA, by omega, hch, hcz, SamE.refl _ _⟩

theorem stable_last (hc : CmpOk k ar ok) (N : Nat) (hN : N < 100000000) : ∀ (n bs : Nat) (l : List Int), l.length = N → 0 < bs → N < bs + n ∧ 0 < n → bs < 400000000 → ChS k bs l → (∀ z ∈ l, ok z) →
    ∃ l', iter (X := slices_stableCmpFunc_int_x7) (β := slices_stableCmpFunc_int_r7) n ((N : Int), ar, (bs : Int), l, ()) slices_stableCmpFunc_int_b7 = some (Sum.inr (l', ())) ∧ Srt k l' ∧ SamE k l l' := by
  intro n
  induction n with
  | zero =>
    intro bs l hl hbs hn hb2 hch hok
    exact absurd hn (by omega)
  | succ n ih =>
    intro bs l hl hbs hn hb2 hch hok
    rw [iter_succ]
    generalize hag : (fun y => iter n y slices_stableCmpFunc_int_b7) = again
    unfold slices_stableCmpFunc_int_b7
    dsimp only
    by_cases hb : bs < N
    · rw [bif_pos (by omega)]
      have e0 : w64 (2 * (bs : Int)) = (((([] : List Int).length) + 2 * bs : Nat) : Int) := by rw [w64_id (by omega) (by omega)]; simp
      rw [e0, show (0 : Int) = ((([] : List Int).length : Nat) : Int) from rfl]
      obtain ⟨A, Z, j, h1, h2, h3, h4, h5, h6⟩ := stable_pass hc N bs hN hbs hb (Int.natAbs (N : Int) + (Int.natAbs (bs : Int) + (Int.natAbs ((([] : List Int).length : Nat) : Int) + (Int.natAbs (((([] : List Int).length) + 2 * bs : Nat) : Int) + (List.length l + 2))))) [] l 0 (by simp) (by simpa using hl) (by omega) (ChS.nil _ _) hch (by simp) hok
      rw [List.nil_append] at h1 h6
      rw [h1, joinB_inr]
      dsimp only
      have hAZ : A.length + Z.length = N := by have := h6.length; simp at this; omega
      have hokAZ : ∀ z ∈ A ++ Z, ok z := fun z hz => hok z (h6.mem.1 hz)
      have e1 : w64 ((A.length : Int) + (bs : Int)) = ((A.length + bs : Nat) : Int) := by rw [w64_id (by omega) (by omega)]; omega
      have e2 : w64 ((bs : Int) * 2) = ((2 * bs : Nat) : Int) := by rw [w64_id (by omega) (by omega)]; omega
      rw [e1, e2]
      by_cases hlast : A.length + bs < N
      · rw [bif_pos (by omega)]
        obtain ⟨L, R, rfl, hL⟩ := split_at (l := Z) (n := bs) (by omega)
        simp only [List.length_append] at hAZ h3
        have sL : Srt k L := by
          have := h5 0
          rw [Nat.zero_mul, List.drop_zero, ← hL, List.take_left] at this
          exact this
        have sR : Srt k R := by
          have := h5 1
          rw [Nat.one_mul] at this
          conv at this => arg 2; rw [show List.drop bs (L ++ R) = R by rw [← hL]; exact List.drop_left, List.take_of_length_le (by omega)]
          exact this
        obtain ⟨S, g1, g2, g3⟩ := symMerge_eq hc A L R [] (by omega) (by omega) (by simp; omega) sL sR (fun z hz => hokAZ z (by simp [hz])) (fun z hz => hokAZ z (by simp [hz]))
        simp only [List.append_nil] at g1
        rw [show ((A.length + bs : Nat) : Int) = ((A.length + L.length : Nat) : Int) by omega, show ((N : Nat) : Int) = ((A.length + L.length + R.length : Nat) : Int) by omega, show A ++ (L ++ R) = A ++ L ++ R by simp, g1, Option.bind_some, ← hag]
        have hsam : SamE k l (A ++ S) := h6.trans (by simpa using (SamE.refl k A).append g3)
        obtain ⟨l', q1, q2, q3⟩ := ih (2 * bs) (A ++ S) (by rw [hsam.length]; exact hl) (by omega) ⟨by omega, by omega⟩ (by omega) (h4.snoc h2 g2 (by rw [g3.length]; simp; omega)) (fun z hz => hok z (hsam.mem.1 hz))
        rw [show ((A.length + L.length + R.length : Nat) : Int) = ((N : Nat) : Int) by omega]
        exact ⟨l', q1, q2, hsam.trans q3⟩
      · rw [bif_neg (by omega), ← hag]
        have sZ : Srt k Z := by
          have := h5 0
          rw [Nat.zero_mul, List.drop_zero, List.take_of_length_le (by omega)] at this
          exact this
        obtain ⟨l', q1, q2, q3⟩ := ih (2 * bs) (A ++ Z) (by simp; omega) (by omega) ⟨by omega, by omega⟩ (by omega) (h4.snoc h2 sZ (by omega)) hokAZ
        exact ⟨l', q1, q2, h6.trans q3⟩
    · rw [bif_neg (by omega)]
      refine ⟨l, rfl, ?_, SamE.refl _ _⟩
      have := hch 0
      rw [Nat.zero_mul, List.drop_zero, List.take_of_length_le (by omega)] at this
      exact this

theorem sortStable_eq (hc : CmpOk k ar ok) (l : List Int) (hl : l.length < 100000000) (hok : ∀ z ∈ l, ok z) : ∃ l', slices_SortStableFunc_int l ar = some (l', ()) ∧ Srt k l' ∧ SamE k l l' := by
  unfold slices_SortStableFunc_int slices_stableCmpFunc_int
  obtain ⟨A, Z, j, h1, h2, h3, h4, h5⟩ := stable_first hc l.length hl (Int.natAbs (l.length : Int) + (Int.natAbs (20 : Int) + (Int.natAbs (0 : Int) + (Int.natAbs (20 : Int) + (List.length l + 2))))) [] l 0 (by simp) (by simp) (by omega) (ChS.nil _ _) (by simp) hok
  simp only [List.length_nil, List.nil_append] at h1 h5
  rw [show ((0 + 20 : Nat) : Int) = 20 from rfl, show ((0 : Nat) : Int) = 0 from rfl] at h1
  rw [h1, joinB_inr]
  dsimp only
  have hAZ : A.length + Z.length = l.length := by have := h5.length; simp at this; omega
  obtain ⟨Z', g1, g2, g3⟩ := insertion_eq hc A Z [] (by simp; omega) (fun z hz => hok z (h5.mem.1 (by simp [hz])))
  simp only [List.append_nil] at g1
  rw [show ((A.length + Z.length : Nat) : Int) = (l.length : Int) by omega] at g1
  rw [g1, Option.bind_some]
  dsimp only
  have hsam : SamE k l (A ++ Z') := h5.trans ((SamE.refl k A).append g3)
  obtain ⟨l', q1, q2, q3⟩ := stable_last hc l.length hl (Int.natAbs (l.length : Int) + (Int.natAbs (20 : Int) + (List.length (A ++ Z') + 2))) 20 (A ++ Z') hsam.length (by omega) ⟨by omega, by omega⟩ (by omega) (h4.snoc h2 g2 (by rw [g3.length]; omega)) (fun z hz => hok z (hsam.mem.1 hz))
  rw [show ((20 : Nat) : Int) = 20 from rfl] at q1
  rw [q1, joinB_inr]
  exact ⟨l', rfl, q2, hsam.trans q3⟩
end

end Go.Md.SI

set_option linter.all false
namespace Go.Md.SP
open Go.Dn Go.Md

structure SamE (k : Int → Int) (l l' : List Int) : Prop where
  perm : l.Perm l'
section
variable {k : Int → Int} {ar : List D_api_State} {ok : Int → Prop}
theorem SamE.refl (k : Int → Int) (l : List Int) : SamE k l l := ⟨List.Perm.refl _⟩
theorem SamE.trans {a b c : List Int} (h : SamE k a b) (g : SamE k b c) : SamE k a c := ⟨h.perm.trans g.perm⟩
theorem SamE.append {a b c d : List Int} (h : SamE k a b) (g : SamE k c d) : SamE k (a ++ c) (b ++ d) := ⟨h.perm.append g.perm⟩
theorem SamE.mem {a b : List Int} (h : SamE k a b) {x : Int} : x ∈ b ↔ x ∈ a := h.perm.mem_iff.symm
theorem SamE.length {a b : List Int} (h : SamE k a b) : b.length = a.length := h.perm.length_eq.symm
theorem SamE.swap {u v : List Int} : SamE k (u ++ v) (v ++ u) := ⟨List.perm_append_comm⟩
def Srt (_ : Int → Int) (_ : List Int) : Prop := True
theorem Srt.left {a b : List Int} (_ : Srt k (a ++ b)) : Srt k a := trivial
theorem Srt.right {a b : List Int} (_ : Srt k (a ++ b)) : Srt k b := trivial
def ChS (_ : Int → Int) (_ : Nat) (_ : List Int) : Prop := True
theorem ChS.nil (k : Int → Int) (n : Nat) : ChS k n [] := trivial
theorem ins_step {P2 P3 : List Int} {x : Int} : Srt k (P2 ++ x :: P3) ∧ SamE k (P2 ++ P3 ++ [x]) (P2 ++ x :: P3) := by
  refine ⟨trivial, ?_⟩
  rw [List.append_assoc]
  exact (SamE.refl k P2).append (by simpa using SamE.swap (k := k) (u := P3) (v := [x]))
theorem bsearchW {X β : Type} {f : X → (X → Option β) → Option β} (mk : Nat → Nat → X) (fin : Nat → Option β) (lo hi : Nat)
    (hstep : ∀ i j again, lo ≤ i → i < j → j ≤ hi → f (mk i j) again = again (mk ((i + j) / 2 + 1) j) ∨ f (mk i j) again = again (mk i ((i + j) / 2)))
    (hend : ∀ i again, lo ≤ i → i ≤ hi → f (mk i i) again = fin i) :
    ∀ n i j, j - i < n → lo ≤ i → i ≤ j → j ≤ hi → ∃ r, iter n (mk i j) f = fin r ∧ lo ≤ r ∧ r ≤ hi
  | 0, i, j, hn, _, _, _ => by omega
  | n + 1, i, j, hn, h1, h2, h3 => by
    rw [iter_succ]
    by_cases hij : i = j
    · subst hij
      exact ⟨i, hend i _ h1 h3, h1, h3⟩
    · rcases hstep i j (fun y => iter n y f) h1 (by omega) h3 with h | h <;> rw [h]
      · exact bsearchW mk fin lo hi hstep hend n _ _ (by omega) (by omega) (by omega) h3
      · exact bsearchW mk fin lo hi hstep hend n _ _ (by omega) h1 (by omega) (by omega)

/-- The comparison answers. -/
def CmpOk (_k : Int → Int) (ar : List D_api_State) (ok : Int → Prop) : Prop := ∀ a b, ok a → ok b → ∃ c, parcel_Laid_1 a b ar = some (c, ())

theorem ins_inner (hc : CmpOk k ar ok) (a : Nat) (bI : Int) (iI : Int) (X : List Int) (hX : X.length = a) : ∀ (n : Nat) (P1 : List Int) (x : Int) (B : List Int), P1.length < n → (X ++ P1 ++ x :: B).length < 1000000000 → ok x → (∀ y ∈ P1, ok y) →
    ∃ P2 P3, P1 = P2 ++ P3 ∧
    iter (X := slices_insertionSortCmpFunc_int_x4) (β := slices_insertionSortCmpFunc_int_r4) n ((a : Int), bI, ar, iI, ((a + P1.length : Nat) : Int), X ++ P1 ++ x :: B, ()) slices_insertionSortCmpFunc_int_b4 = some (Sum.inr ((a : Int), bI, ar, iI, X ++ P2 ++ x :: (P3 ++ B), ())) := by
  intro n
  induction n with
  | zero => intro P1 x B h; omega
  | succ n ih =>
    intro P1 x B hn hlen hx hP
    rw [iter_succ]
    generalize hag : (fun y => iter n y slices_insertionSortCmpFunc_int_b4) = again
    unfold slices_insertionSortCmpFunc_int_b4
    dsimp only
    rcases List.eq_nil_or_concat P1 with rfl | ⟨P, y, rfl⟩
    · rw [bif_neg (by simp)]
      exact ⟨[], [], rfl, by simp⟩
    · rw [List.concat_eq_append] at *
      simp only [List.length_append, List.length_cons, List.length_nil] at hlen hn ⊢
      have e1 : w64 (((a + (P.length + 1) : Nat) : Int) - 1) = (((X ++ P).length : Nat) : Int) := by rw [w64_id (by omega) (by omega)]; simp [hX]; omega
      have e2 : (((a + (P.length + 1) : Nat) : Int)) = (((X ++ P).length + 1 : Nat) : Int) := by simp [hX]; omega
      have el : X ++ (P ++ [y]) ++ x :: B = (X ++ P) ++ y :: x :: B := by simp
      obtain ⟨c, hcc⟩ := hc x y hx (hP y (by simp))
      rw [bif_pos (by omega), e1, e2, el]
      simp only [Int.toNat_natCast, get_at, get_at1, Option.bind_some, hcc]
      rw [chk_pos (by simp only [Bool.and_eq_true, decide_eq_true_eq, List.length_append, List.length_cons, List.length_set, List.length_nil]; omega), chk_pos (by simp only [Bool.and_eq_true, decide_eq_true_eq, List.length_append, List.length_cons, List.length_set, List.length_nil]; omega)]
      by_cases hk : c < 0
      · rw [bif_pos hk, chk_pos (by simp only [Bool.and_eq_true, decide_eq_true_eq, List.length_append, List.length_cons, List.length_set, List.length_nil]; omega), chk_pos (by simp only [Bool.and_eq_true, decide_eq_true_eq, List.length_append, List.length_cons, List.length_set, List.length_nil]; omega), chk_pos (by simp only [Bool.and_eq_true, decide_eq_true_eq, List.length_append, List.length_cons, List.length_set, List.length_nil]; omega),
          chk_pos (by simp only [Bool.and_eq_true, decide_eq_true_eq, List.length_append, List.length_cons, List.length_set, List.length_nil]; omega)]
        have hg : (((X ++ P) ++ y :: x :: B).set ((X ++ P).length + 1) y)[(X ++ P).length]? = some y := by rw [List.getElem?_set_ne (by omega), get_at]
        rw [hg, Option.bind_some, swap_adj, ← hag]
        obtain ⟨P2, P3, h1, h4⟩ := ih P x (y :: B) (by omega) (by simp; omega) hx (fun z hz => hP z (by simp [hz]))
        refine ⟨P2, P3 ++ [y], by rw [h1]; simp, ?_⟩
        · have e3 : (((X ++ P).length : Nat) : Int) = ((a + P.length : Nat) : Int) := by simp [hX]
          rw [e3]
          show iter n _ _ = _
          rw [h4]; simp
      · rw [bif_neg hk]
        exact ⟨P ++ [y], [], by simp, by simp⟩

theorem insertion_eq (hc : CmpOk k ar ok) (X S Y : List Int) (hlen : (X ++ S ++ Y).length < 1000000000) (hok : ∀ y ∈ S, ok y) :
    ∃ S', slices_insertionSortCmpFunc_int (X ++ S ++ Y) (X.length : Int) ((X.length + S.length : Nat) : Int) ar = some (X ++ S' ++ Y, ()) ∧ Srt k S' ∧ SamE k S S' := by
  simp only [List.length_append] at hlen
  have loop : ∀ (n : Nat) (Q P : List Int) (l : List Int), Q.length < n → l = X ++ P ++ Q ++ Y → P.length + Q.length = S.length → Srt k P → (∀ y ∈ P, ok y) → (∀ y ∈ Q, ok y) →
      ∃ S', iter (X := slices_insertionSortCmpFunc_int_x1) (β := slices_insertionSortCmpFunc_int_r1) n ((X.length : Int), ((X.length + S.length : Nat) : Int), ar, ((X.length + P.length : Nat) : Int), l, ()) slices_insertionSortCmpFunc_int_b1 = some (Sum.inr (X ++ S' ++ Y, ())) ∧ Srt k S' ∧ SamE k (P ++ Q) S' := by
    intro n
    induction n with
    | zero => intro Q P l h; omega
    | succ n ih =>
      intro Q P l hn hl hPQ hs hokP hokQ
      rw [iter_succ]
      generalize hag : (fun y => iter n y slices_insertionSortCmpFunc_int_b1) = again
      unfold slices_insertionSortCmpFunc_int_b1
      dsimp only
      cases Q with
      | nil =>
        rw [bif_neg (by simp at hPQ; omega)]
        exact ⟨P, by rw [hl]; simp, hs, by simpa using SamE.refl k P⟩
      | cons x Q =>
        simp only [List.length_cons] at hn hPQ
        rw [bif_pos (by omega)]
        have hl' : l = X ++ P ++ x :: (Q ++ Y) := by rw [hl]; simp
        obtain ⟨P2, P3, h1, h4⟩ := ins_inner hc X.length ((X.length + S.length : Nat) : Int) ((X.length + P.length : Nat) : Int) X rfl
          (Int.natAbs (X.length : Int) + (Int.natAbs ((X.length + S.length : Nat) : Int) + (Int.natAbs ((X.length + P.length : Nat) : Int) + (Int.natAbs ((X.length + P.length : Nat) : Int) + (List.length l + 2))))) P x (Q ++ Y) (by omega) (by simp; omega) (hokQ x (by simp)) hokP
        rw [← hl'] at h4
        rw [h4, joinB_inr]
        dsimp only
        have e1 : w64 (((X.length + P.length : Nat) : Int) + 1) = ((X.length + (P2 ++ x :: P3).length : Nat) : Int) := by
          rw [w64_id (by omega) (by omega), h1]; simp; omega
        rw [e1, ← hag]
        rw [h1] at hs hokP
        obtain ⟨hs', hsam⟩ := ins_step (k := k) (P2 := P2) (P3 := P3) (x := x)
        obtain ⟨S', g1, g2, g3⟩ := ih Q (P2 ++ x :: P3) (X ++ P2 ++ x :: (P3 ++ (Q ++ Y))) (by omega) (by simp) (by rw [h1] at hPQ; simp at hPQ ⊢; omega) hs' (fun y hy => by
            rcases hsam.mem.1 hy |> List.mem_append.1 with h | h
            · exact hokP y h
            · rw [List.mem_singleton.1 h]; exact hokQ x (by simp)) (fun y hy => hokQ y (by simp [hy]))
        refine ⟨S', g1, g2, ?_⟩
        have : SamE k (P ++ x :: Q) (P2 ++ x :: P3 ++ Q) := by
          rw [h1]
          have := hsam.append (SamE.refl k Q)
          simpa using this
        exact this.trans g3
  unfold slices_insertionSortCmpFunc_int
  cases S with
  | nil =>
    -- an empty range
    have e1 : w64 ((X.length : Int) + 1) = ((X.length + 1 : Nat) : Int) := by rw [w64_id (by omega) (by omega)]; omega
    rw [e1]
    obtain ⟨n, hn⟩ : ∃ n, (Int.natAbs (X.length : Int) + (Int.natAbs ((X.length + ([] : List Int).length : Nat) : Int) + (Int.natAbs ((X.length + 1 : Nat) : Int) + (List.length (X ++ [] ++ Y) + 2)))) = n + 1 := ⟨_, rfl⟩
    rw [hn, iter_succ]
    unfold slices_insertionSortCmpFunc_int_b1
    dsimp only
    rw [bif_neg (by simp; omega)]
    exact ⟨[], rfl, trivial, SamE.refl _ _⟩
  | cons x S =>
    have e1 : w64 ((X.length : Int) + 1) = ((X.length + [x].length : Nat) : Int) := by rw [w64_id (by omega) (by omega)]; simp
    rw [e1]
    obtain ⟨S', g1, g2, g3⟩ := loop (Int.natAbs (X.length : Int) + (Int.natAbs ((X.length + (x :: S).length : Nat) : Int) + (Int.natAbs ((X.length + [x].length : Nat) : Int) + (List.length (X ++ (x :: S) ++ Y) + 2)))) S [x] (X ++ (x :: S) ++ Y) (by simp; omega) (by simp) (by simp; omega) trivial (fun y hy => hok y (by simp at hy; simp [hy])) (fun y hy => hok y (by simp [hy]))
    rw [g1, joinB_inr]
    exact ⟨S', rfl, g2, by simpa using g3⟩
/-- Two blocks of one length change places. -/
theorem swapRange_eq (X M Y : List Int) : ∀ (P Q : List Int), P.length = Q.length → (X ++ P ++ M ++ Q ++ Y).length < 1000000000 →
    slices_swapRangeCmpFunc_int (X ++ P ++ M ++ Q ++ Y) (X.length : Int) ((X.length + P.length + M.length : Nat) : Int) (P.length : Int) ar = some (X ++ Q ++ M ++ P ++ Y, ()) := by
  intro P Q hPQ hlen
  simp only [List.length_append] at hlen
  have loop : ∀ (n : Nat) (P1 P2 Q1 Q2 : List Int) (l : List Int), P2.length < n → P1.length + P2.length = P.length → P1.length = Q1.length → P2.length = Q2.length → l = X ++ P1 ++ P2 ++ M ++ Q1 ++ Q2 ++ Y →
      iter (X := slices_swapRangeCmpFunc_int_x1) (β := slices_swapRangeCmpFunc_int_r1) n ((X.length : Int), ((X.length + P.length + M.length : Nat) : Int), (P.length : Int), (P1.length : Int), l, ()) slices_swapRangeCmpFunc_int_b1 = some (Sum.inr (X ++ P1 ++ Q2 ++ M ++ Q1 ++ P2 ++ Y, ())) := by
    intro n
    induction n with
    | zero => intro P1 P2 Q1 Q2 l h; omega
    | succ n ih =>
      intro P1 P2 Q1 Q2 l hn h1 h2 h3 hl
      rw [iter_succ]
      generalize hag : (fun y => iter n y slices_swapRangeCmpFunc_int_b1) = again
      unfold slices_swapRangeCmpFunc_int_b1
      dsimp only
      cases P2 with
      | nil =>
        have : Q2 = [] := List.eq_nil_of_length_eq_zero (by simpa using h3.symm)
        subst this
        rw [bif_neg (by simp at h1; omega), hl]
      | cons p P2 =>
        cases Q2 with
        | nil => simp at h3
        | cons q Q2 =>
          simp only [List.length_cons] at hn h1 h3
          have ll : l.length = X.length + P.length + M.length + Q.length + Y.length := by rw [hl]; simp; omega
          have e1 : w64 (((X.length + P.length + M.length : Nat) : Int) + (P1.length : Int)) = (((X ++ P1 ++ p :: P2 ++ M ++ Q1).length : Nat) : Int) := by rw [w64_id (by omega) (by omega)]; simp; omega
          have e2 : w64 ((X.length : Int) + (P1.length : Int)) = (((X ++ P1).length : Nat) : Int) := by rw [w64_id (by omega) (by omega)]; simp
          have l1 : l = (X ++ P1 ++ p :: P2 ++ M ++ Q1) ++ q :: (Q2 ++ Y) := by rw [hl]; simp
          have l2 : l = (X ++ P1) ++ p :: (P2 ++ M ++ Q1 ++ q :: (Q2 ++ Y)) := by rw [hl]; simp
          have g1 : l[(X ++ P1 ++ p :: P2 ++ M ++ Q1).length]? = some q := by rw [l1]; exact get_at _ _ _
          have g2 : l[(X ++ P1).length]? = some p := by rw [l2]; exact get_at _ _ _
          have g3 : l.set (X ++ P1).length q = (X ++ P1 ++ q :: P2 ++ M ++ Q1) ++ q :: (Q2 ++ Y) := by
            rw [l2, set_mid]; simp
          have hlq : (X ++ P1 ++ p :: P2 ++ M ++ Q1).length = (X ++ P1 ++ q :: P2 ++ M ++ Q1).length := by simp
          have g4 : (l.set (X ++ P1).length q)[(X ++ P1 ++ p :: P2 ++ M ++ Q1).length]? = some q := by rw [g3, hlq]; exact get_at _ _ _
          have g5 : (l.set (X ++ P1).length q).set (X ++ P1 ++ p :: P2 ++ M ++ Q1).length p = X ++ (P1 ++ [q]) ++ P2 ++ M ++ (Q1 ++ [p]) ++ Q2 ++ Y := by rw [g3, hlq, set_mid]; simp
          rw [bif_pos (by omega), e1, e2]
          simp only [Int.toNat_natCast, g1, g2, g4, g5, Option.bind_some, List.length_set, ll]
          have lq : (X ++ P1 ++ p :: P2 ++ M ++ Q1).length < X.length + P.length + M.length + Q.length + Y.length := by simp; omega
          have lp : (X ++ P1).length < X.length + P.length + M.length + Q.length + Y.length := by simp; omega
          rw [chk_pos (by simp only [Bool.and_eq_true, decide_eq_true_eq]; omega), chk_pos (by simp only [Bool.and_eq_true, decide_eq_true_eq]; omega), chk_pos (by simp only [Bool.and_eq_true, decide_eq_true_eq]; omega), chk_pos (by simp only [Bool.and_eq_true, decide_eq_true_eq]; omega)]
          have e3 : w64 ((P1.length : Int) + 1) = (((P1 ++ [q]).length : Nat) : Int) := by rw [w64_id (by omega) (by omega)]; simp
          rw [e3, ← hag]
          show iter n _ _ = _
          rw [ih (P1 ++ [q]) P2 (Q1 ++ [p]) Q2 _ (by omega) (by simp; omega) (by simp; omega) (by omega) rfl]
          simp
  unfold slices_swapRangeCmpFunc_int
  rw [show (0 : Int) = ((([] : List Int).length : Nat) : Int) from rfl, loop _ [] P [] Q (X ++ P ++ M ++ Q ++ Y) (by simp; omega) (by simp) rfl hPQ (by simp), joinB_inr]
  simp

theorem rotate_loop (m : Nat) : ∀ (n : Nat) (X U V Y : List Int), U.length + V.length < n → 0 < U.length → 0 < V.length → X.length + U.length = m → (X ++ U ++ V ++ Y).length < 1000000000 →
    ∃ (X' U' V' Y' : List Int), iter (X := slices_rotateCmpFunc_int_x2) (β := slices_rotateCmpFunc_int_r2) n ((m : Int), ar, (U.length : Int), (V.length : Int), X ++ U ++ V ++ Y, ()) slices_rotateCmpFunc_int_b2 = some (Sum.inr ((m : Int), ar, (U'.length : Int), X' ++ U' ++ V' ++ Y', ())) ∧ U'.length = V'.length ∧ X'.length + U'.length = m ∧ X' ++ V' ++ U' ++ Y' = X ++ V ++ U ++ Y ∧ (X' ++ U' ++ V' ++ Y').length < 1000000000 := by
  intro n
  induction n with
  | zero => intro X U V Y h; omega
  | succ n ih =>
    intro X U V Y hn hU hV hm hlen
    rw [iter_succ]
    generalize hag : (fun y => iter n y slices_rotateCmpFunc_int_b2) = again
    unfold slices_rotateCmpFunc_int_b2
    dsimp only
    by_cases he : U.length = V.length
    · have hb : ((U.length : Int) != (V.length : Int)) = false := by simp [he]
      rw [hb, cond_false]
      exact ⟨X, U, V, Y, rfl, he, hm, rfl, hlen⟩
    · have hb : ((U.length : Int) != (V.length : Int)) = true := by simp; omega
      rw [hb, cond_true]
      simp only [List.length_append] at hlen
      have e1 : w64 ((m : Int) - (U.length : Int)) = (X.length : Int) := by rw [w64_id (by omega) (by omega)]; omega
      rw [e1]
      by_cases hgt : V.length < U.length
      · rw [bif_pos (by omega)]
        obtain ⟨U1, U2, rfl, hU1⟩ := split_at (l := U) (n := V.length) (by omega)
        simp only [List.length_append] at *
        have hsw := swapRange_eq (ar := ar) X U2 Y U1 V hU1 (by simp; omega)
        rw [show ((X.length + U1.length + U2.length : Nat) : Int) = (m : Int) by omega, hU1] at hsw
        rw [show X ++ (U1 ++ U2) ++ V ++ Y = X ++ U1 ++ U2 ++ V ++ Y by simp, hsw, Option.bind_some]
        have e2 : w64 (((U1.length + U2.length : Nat) : Int) - (V.length : Int)) = (U2.length : Int) := by rw [w64_id (by omega) (by omega)]; omega
        rw [e2, ← hag]
        obtain ⟨X', U', V', Y', h1, h2, h3, h4, h5⟩ := ih (X ++ V) U2 U1 Y (by omega) (by omega) (by omega) (by simp; omega) (by simp; omega)
        refine ⟨X', U', V', Y', ?_, h2, h3, by rw [h4]; simp, h5⟩
        rw [← hU1]
        exact h1
      · rw [bif_neg (by omega)]
        obtain ⟨V1, V2, rfl, hV1⟩ := split_at (l := V) (n := V.length - U.length) (by omega)
        simp only [List.length_append] at *
        have e3 : w64 (w64 ((m : Int) + ((V1.length + V2.length : Nat) : Int)) - (U.length : Int)) = ((X.length + U.length + V1.length : Nat) : Int) := by
          rw [w64_id (n := (m : Int) + ((V1.length + V2.length : Nat) : Int)) (by omega) (by omega), w64_id (by omega) (by omega)]; omega
        have hsw := swapRange_eq (ar := ar) X V1 Y U V2 (by omega) (by simp; omega)
        rw [e3, show X ++ U ++ (V1 ++ V2) ++ Y = X ++ U ++ V1 ++ V2 ++ Y by simp, hsw, Option.bind_some]
        have e2 : w64 (((V1.length + V2.length : Nat) : Int) - (U.length : Int)) = (V1.length : Int) := by rw [w64_id (by omega) (by omega)]; omega
        rw [e2, ← hag]
        obtain ⟨X', U', V', Y', h1, h2, h3, h4, h5⟩ := ih X V2 V1 (U ++ Y) (by omega) (by omega) (by omega) (by omega) (by simp; omega)
        refine ⟨X', U', V', Y', ?_, h2, h3, by rw [h4]; simp, h5⟩
        rw [show ((U.length : Nat) : Int) = (V2.length : Int) by omega, show X ++ V2 ++ V1 ++ U ++ Y = X ++ V2 ++ V1 ++ (U ++ Y) by simp]
        exact h1

/-- Two blocks change places. -/
theorem rotate_eq (X U V Y : List Int) (hU : 0 < U.length) (hV : 0 < V.length) (hlen : (X ++ U ++ V ++ Y).length < 1000000000) :
    slices_rotateCmpFunc_int (X ++ U ++ V ++ Y) (X.length : Int) ((X.length + U.length : Nat) : Int) ((X.length + U.length + V.length : Nat) : Int) ar = some (X ++ V ++ U ++ Y, ()) := by
  unfold slices_rotateCmpFunc_int
  simp only [List.length_append] at hlen
  have e1 : w64 (((X.length + U.length : Nat) : Int) - (X.length : Int)) = (U.length : Int) := by rw [w64_id (by omega) (by omega)]; omega
  have e2 : w64 (((X.length + U.length + V.length : Nat) : Int) - ((X.length + U.length : Nat) : Int)) = (V.length : Int) := by rw [w64_id (by omega) (by omega)]; omega
  rw [e1, e2]
  obtain ⟨X', U', V', Y', h1, h2, h3, h4, h5⟩ := rotate_loop (ar := ar) (X.length + U.length) (Int.natAbs ((X.length + U.length : Nat) : Int) + (Int.natAbs (U.length : Int) + (Int.natAbs (V.length : Int) + (List.length (X ++ U ++ V ++ Y) + 2)))) X U V Y (by omega) hU hV rfl (by simp; omega)
  rw [h1, joinB_inr]
  dsimp only
  simp only [List.length_append] at h5
  have e3 : w64 (((X.length + U.length : Nat) : Int) - (U'.length : Int)) = (X'.length : Int) := by rw [w64_id (by omega) (by omega)]; omega
  have hsw := swapRange_eq (ar := ar) X' [] Y' U' V' h2 (by simp; omega)
  simp only [List.append_nil, List.length_nil, Nat.add_zero] at hsw
  rw [e3, show ((X.length + U.length : Nat) : Int) = ((X'.length + U'.length : Nat) : Int) by omega, hsw, Option.bind_some, h4]

/-- An element moves up. -/
theorem move_up (i : Nat) : ∀ (n : Nat) (A V Y : List Int) (x : Int), V.length < n → A.length + 1 + V.length = i → (A ++ x :: V ++ Y).length < 1000000000 →
    iter (X := slices_symMergeCmpFunc_int_x9) (β := slices_symMergeCmpFunc_int_r9) n ((i : Int), (A.length : Int), A ++ x :: V ++ Y, ()) slices_symMergeCmpFunc_int_b9 = some (Sum.inr (A ++ V ++ x :: Y, ())) := by
  intro n
  induction n with
  | zero => intro A V Y x h; omega
  | succ n ih =>
    intro A V Y x hn hi hlen
    rw [iter_succ]
    generalize hag : (fun y => iter n y slices_symMergeCmpFunc_int_b9) = again
    unfold slices_symMergeCmpFunc_int_b9
    dsimp only
    simp only [List.length_append, List.length_cons] at hlen
    have e0 : w64 ((i : Int) - 1) = (i : Int) - 1 := w64_id (by omega) (by omega)
    rw [e0]
    cases V with
    | nil => rw [bif_neg (by simp at hi; omega)]; simp
    | cons v V =>
      simp only [List.length_cons] at hn hi hlen
      have e1 : w64 ((A.length : Int) + 1) = ((A.length + 1 : Nat) : Int) := by rw [w64_id (by omega) (by omega)]; omega
      have el : A ++ x :: (v :: V) ++ Y = A ++ x :: v :: (V ++ Y) := by simp
      have hg : ((A ++ x :: v :: (V ++ Y)).set A.length v)[A.length + 1]? = some v := by rw [List.getElem?_set_ne (by omega), get_at1]
      rw [bif_pos (by omega), e1, el]
      simp only [Int.toNat_natCast, get_at, get_at1, Option.bind_some, hg, swap_adj', List.length_set]
      rw [chk_pos (by simp only [Bool.and_eq_true, decide_eq_true_eq, List.length_append, List.length_cons]; omega), chk_pos (by simp only [Bool.and_eq_true, decide_eq_true_eq, List.length_append, List.length_cons]; omega), chk_pos (by simp only [Bool.and_eq_true, decide_eq_true_eq, List.length_append, List.length_cons]; omega), chk_pos (by simp only [Bool.and_eq_true, decide_eq_true_eq, List.length_append, List.length_cons]; omega), ← hag]
      have := ih (A ++ [v]) V Y x (by omega) (by simp; omega) (by simp; omega)
      simp only [List.length_append, List.length_cons, List.length_nil, Nat.zero_add] at this
      show iter n _ _ = _
      rw [show A ++ v :: x :: (V ++ Y) = A ++ [v] ++ x :: V ++ Y by simp, this]
      simp

/-- An element moves down. -/
theorem move_down (A : List Int) : ∀ (n : Nat) (U Y : List Int) (y : Int), U.length < n → (A ++ U ++ y :: Y).length < 1000000000 →
    iter (X := slices_symMergeCmpFunc_int_x21) (β := slices_symMergeCmpFunc_int_r21) n ((A.length : Int), ((A.length + U.length : Nat) : Int), A ++ U ++ y :: Y, ()) slices_symMergeCmpFunc_int_b21 = some (Sum.inr (A ++ y :: U ++ Y, ())) := by
  intro n
  induction n with
  | zero => intro U Y y h; omega
  | succ n ih =>
    intro U Y y hn hlen
    rw [iter_succ]
    generalize hag : (fun y => iter n y slices_symMergeCmpFunc_int_b21) = again
    unfold slices_symMergeCmpFunc_int_b21
    dsimp only
    simp only [List.length_append, List.length_cons] at hlen
    rcases List.eq_nil_or_concat U with rfl | ⟨V, u, rfl⟩
    · rw [bif_neg (by simp)]; simp
    · rw [List.concat_eq_append] at *
      simp only [List.length_append, List.length_cons, List.length_nil] at hn hlen ⊢
      have e1 : w64 (((A.length + (V.length + (0 + 1)) : Nat) : Int) - 1) = (((A ++ V).length : Nat) : Int) := by rw [w64_id (by omega) (by omega)]; simp; omega
      have e2 : ((A.length + (V.length + (0 + 1)) : Nat) : Int) = (((A ++ V).length + 1 : Nat) : Int) := by simp; omega
      have el : A ++ (V ++ [u]) ++ y :: Y = (A ++ V) ++ u :: y :: Y := by simp
      have hg : (((A ++ V) ++ u :: y :: Y).set ((A ++ V).length + 1) u)[(A ++ V).length]? = some u := by rw [List.getElem?_set_ne (by omega), get_at]
      rw [bif_pos (by omega), e1, e2, el]
      simp only [Int.toNat_natCast, get_at, get_at1, Option.bind_some, hg, swap_adj, List.length_set]
      rw [chk_pos (by simp only [Bool.and_eq_true, decide_eq_true_eq, List.length_append, List.length_cons]; omega), chk_pos (by simp only [Bool.and_eq_true, decide_eq_true_eq, List.length_append, List.length_cons]; omega), chk_pos (by simp only [Bool.and_eq_true, decide_eq_true_eq, List.length_append, List.length_cons]; omega), chk_pos (by simp only [Bool.and_eq_true, decide_eq_true_eq, List.length_append, List.length_cons]; omega), ← hag]
      have := ih V (u :: Y) y (by omega) (by simp; omega)
      show iter n _ _ = _
      rw [show (((A ++ V).length : Nat) : Int) = ((A.length + V.length : Nat) : Int) by simp, this]
      simp

/-- One element before a sorted block. -/
theorem merge_one_left (hc : CmpOk k ar ok) (X R Y : List Int) (x : Int) (hlen : (X ++ [x] ++ R ++ Y).length < 1000000000) (hR : Srt k R) (hx : ok x) (hok : ∀ y ∈ R, ok y) (n : Nat) (hn : R.length < n) :
    ∃ R1 R2, R = R1 ++ R2 ∧ iter (X := slices_symMergeCmpFunc_int_x3) (β := slices_symMergeCmpFunc_int_r3) n ((X.length : Int), ar, ((X.length + 1 : Nat) : Int), ((X.length + 1 + R.length : Nat) : Int), X ++ [x] ++ R ++ Y, ()) slices_symMergeCmpFunc_int_b3 = some (Sum.inr ((X.length : Int), ((X.length + 1 + R1.length : Nat) : Int), X ++ [x] ++ R ++ Y, ())) := by
  simp only [List.length_append, List.length_cons, List.length_nil] at hlen
  have hx0 : (X ++ [x] ++ R ++ Y)[X.length]? = some x := by simp
  have hRt : ∀ i (h : i < R.length), (X ++ [x] ++ R ++ Y)[X.length + 1 + i]? = some R[i] := fun i h => get_R X [x] R Y h
  obtain ⟨r, h1, h2, h3⟩ := bsearchW (f := slices_symMergeCmpFunc_int_b3) (fun i j => ((X.length : Int), ar, (i : Int), (j : Int), X ++ [x] ++ R ++ Y, ())) (fun i => some (Sum.inr ((X.length : Int), (i : Int), X ++ [x] ++ R ++ Y, ())))
    (X.length + 1) (X.length + 1 + R.length) (by
      intro i j again hi hij hj
      unfold slices_symMergeCmpFunc_int_b3
      dsimp only
      have hh : (i + j) / 2 - (X.length + 1) < R.length := by omega
      have hg := hRt _ hh
      rw [show X.length + 1 + ((i + j) / 2 - (X.length + 1)) = (i + j) / 2 by omega] at hg
      rw [bif_pos (by omega), half_eq i j (by omega)]
      simp only [Int.toNat_natCast, hg, hx0, Option.bind_some]
      obtain ⟨c, hcc⟩ := hc R[(i + j) / 2 - (X.length + 1)] x (hok _ (List.getElem_mem _)) hx
      rw [hcc, chk_pos (by simp only [Bool.and_eq_true, decide_eq_true_eq, List.length_append, List.length_cons]; omega), chk_pos (by simp only [Bool.and_eq_true, decide_eq_true_eq, List.length_append, List.length_cons]; omega), Option.bind_some]
      dsimp only
      by_cases hk : c < 0
      · left; rw [bif_pos hk, w64_id (by omega) (by omega)]; rfl
      · right; rw [bif_neg hk])
    (by
      intro i again _ _
      unfold slices_symMergeCmpFunc_int_b3
      dsimp only
      rw [bif_neg (by omega)])
    n (X.length + 1) (X.length + 1 + R.length) (by omega) (Nat.le_refl _) (by omega) (Nat.le_refl _)
  obtain ⟨R1, R2, rfl, hR1⟩ := split_at (l := R) (n := r - (X.length + 1)) (by omega)
  refine ⟨R1, R2, rfl, ?_⟩
  rw [h1, show X.length + 1 + R1.length = r by omega]

/-- One element behind a sorted block. -/
theorem merge_one_right (hc : CmpOk k ar ok) (X L Y : List Int) (y : Int) (hlen : (X ++ L ++ [y] ++ Y).length < 1000000000) (hL : Srt k L) (hy : ok y) (hok : ∀ z ∈ L, ok z) (n : Nat) (hn : L.length < n) :
    ∃ L1 L2, L = L1 ++ L2 ∧ iter (X := slices_symMergeCmpFunc_int_x15) (β := slices_symMergeCmpFunc_int_r15) n (((X.length + L.length : Nat) : Int), ar, (X.length : Int), ((X.length + L.length : Nat) : Int), X ++ L ++ [y] ++ Y, ()) slices_symMergeCmpFunc_int_b15 = some (Sum.inr (((X.length + L.length : Nat) : Int), ((X.length + L1.length : Nat) : Int), X ++ L ++ [y] ++ Y, ())) := by
  simp only [List.length_append, List.length_cons, List.length_nil] at hlen
  have hy0 : (X ++ L ++ [y] ++ Y)[X.length + L.length]? = some y := by
    have := get_R X L [y] Y (i := 0) (by simp)
    simpa using this
  have hLt : ∀ i (h : i < L.length), (X ++ L ++ [y] ++ Y)[X.length + i]? = some L[i] := fun i h => get_L X L [y] Y h
  obtain ⟨r, h1, h2, h3⟩ := bsearchW (f := slices_symMergeCmpFunc_int_b15) (fun i j => (((X.length + L.length : Nat) : Int), ar, (i : Int), (j : Int), X ++ L ++ [y] ++ Y, ())) (fun i => some (Sum.inr (((X.length + L.length : Nat) : Int), (i : Int), X ++ L ++ [y] ++ Y, ())))
    X.length (X.length + L.length) (by
      intro i j again hi hij hj
      unfold slices_symMergeCmpFunc_int_b15
      dsimp only
      have hh : (i + j) / 2 - X.length < L.length := by omega
      have hg := hLt _ hh
      rw [show X.length + ((i + j) / 2 - X.length) = (i + j) / 2 by omega] at hg
      rw [bif_pos (by omega), half_eq i j (by omega)]
      simp only [Int.toNat_natCast, hg, hy0, Option.bind_some]
      obtain ⟨c, hcc⟩ := hc y L[(i + j) / 2 - X.length] hy (hok _ (List.getElem_mem _))
      rw [hcc, chk_pos (by simp only [Bool.and_eq_true, decide_eq_true_eq, List.length_append, List.length_cons]; omega), chk_pos (by simp only [Bool.and_eq_true, decide_eq_true_eq, List.length_append, List.length_cons]; omega), Option.bind_some]
      dsimp only
      by_cases hk : c < 0
      · right; rw [decide_eq_true hk, Bool.not_true, cond_false]
      · left; rw [decide_eq_false hk, Bool.not_false, cond_true, w64_id (by omega) (by omega)]; rfl)
    (by
      intro i again _ _
      unfold slices_symMergeCmpFunc_int_b15
      dsimp only
      rw [bif_neg (by omega)])
    n X.length (X.length + L.length) (by omega) (Nat.le_refl _) (by omega) (Nat.le_refl _)
  obtain ⟨L1, L2, rfl, hL1⟩ := split_at (l := L) (n := r - X.length) (by omega)
  refine ⟨L1, L2, rfl, ?_⟩
  rw [h1, show X.length + L1.length = r by omega]

/-- The place where the halves part. -/
theorem merge_search (hc : CmpOk k ar ok) (X L R Y : List Int) (hlen : (X ++ L ++ R ++ Y).length < 1000000000) (hL : Srt k L) (hR : Srt k R) (hokL : ∀ z ∈ L, ok z) (hokR : ∀ z ∈ R, ok z) (mid lo hi : Nat) (hmid : mid = (X.length + (X.length + L.length + R.length)) / 2)
    (hcase : (mid < X.length + L.length ∧ lo + R.length = mid ∧ hi = mid ∧ X.length ≤ lo) ∨ (X.length + L.length ≤ mid ∧ lo = X.length ∧ hi = X.length + L.length)) (n : Nat) (hn : hi < n) :
    ∃ s : Nat, iter (X := slices_symMergeCmpFunc_int_x33) (β := slices_symMergeCmpFunc_int_r33) n ((X.length : Int), ((X.length + L.length : Nat) : Int), ((X.length + L.length + R.length : Nat) : Int), ar, (mid : Int), ((mid + (X.length + L.length) : Nat) : Int), (lo : Int), (hi : Int), ((mid + (X.length + L.length) : Nat) : Int) - 1, X ++ L ++ R ++ Y, ()) slices_symMergeCmpFunc_int_b33 = some (Sum.inr ((X.length : Int), ((X.length + L.length : Nat) : Int), ((X.length + L.length + R.length : Nat) : Int), ar, (mid : Int), ((mid + (X.length + L.length) : Nat) : Int), (s : Int), X ++ L ++ R ++ Y, ())) ∧
      lo ≤ s ∧ s ≤ hi := by
  simp only [List.length_append] at hlen
  have hLt : ∀ i (h : i < L.length), (X ++ L ++ R ++ Y)[X.length + i]? = some L[i] := fun i h => get_L X L R Y h
  have hRt : ∀ i (h : i < R.length), (X ++ L ++ R ++ Y)[X.length + L.length + i]? = some R[i] := fun i h => get_R X L R Y h
  obtain ⟨r, h1, h2, h3⟩ := bsearchW (f := slices_symMergeCmpFunc_int_b33) (fun i j => ((X.length : Int), ((X.length + L.length : Nat) : Int), ((X.length + L.length + R.length : Nat) : Int), ar, (mid : Int), ((mid + (X.length + L.length) : Nat) : Int), (i : Int), (j : Int), ((mid + (X.length + L.length) : Nat) : Int) - 1, X ++ L ++ R ++ Y, ()))
    (fun s => some (Sum.inr ((X.length : Int), ((X.length + L.length : Nat) : Int), ((X.length + L.length + R.length : Nat) : Int), ar, (mid : Int), ((mid + (X.length + L.length) : Nat) : Int), (s : Int), X ++ L ++ R ++ Y, ())))
    lo hi (by
      intro i j again hi1 hij hj
      unfold slices_symMergeCmpFunc_int_b33
      dsimp only
      generalize hh0 : (i + j) / 2 = h
      have hhL : h - X.length < L.length := by omega
      have hhR : mid - 1 - h < R.length := by omega
      have hg := hLt _ hhL
      rw [show X.length + (h - X.length) = h by omega] at hg
      have hg2 := hRt _ hhR
      rw [bif_pos (by omega), half_eq i j (by omega), hh0]
      have e1 : w64 (((mid + (X.length + L.length) : Nat) : Int) - 1 - (h : Int)) = ((X.length + L.length + (mid - 1 - h) : Nat) : Int) := by rw [w64_id (by omega) (by omega)]; omega
      rw [e1]
      simp only [Int.toNat_natCast, hg, hg2, Option.bind_some]
      obtain ⟨c, hcc⟩ := hc R[mid - 1 - h] L[h - X.length] (hokR _ (List.getElem_mem _)) (hokL _ (List.getElem_mem _))
      rw [hcc, chk_pos (by simp only [Bool.and_eq_true, decide_eq_true_eq, List.length_append]; omega), chk_pos (by simp only [Bool.and_eq_true, decide_eq_true_eq, List.length_append]; omega), Option.bind_some]
      dsimp only
      by_cases hk : c < 0
      · right; rw [decide_eq_true hk, Bool.not_true, cond_false]
      · left; rw [decide_eq_false hk, Bool.not_false, cond_true, w64_id (by omega) (by omega)]; rfl)
    (by
      intro i again _ _
      unfold slices_symMergeCmpFunc_int_b33
      dsimp only
      rw [bif_neg (by omega)])
    n lo hi (by omega) (Nat.le_refl _) (by omega) (Nat.le_refl _)
  exact ⟨r, h1, h2, h3⟩

def symF (self : ((List Int) × Int × Int × Int × (List D_api_State) × Unit) → Option ((List Int) × Unit)) (x : (List Int) × Int × Int × Int × (List D_api_State) × Unit) := slices_symMergeCmpFunc_int_F self x.1 x.2.1 x.2.2.1 x.2.2.2.1 x.2.2.2.2.1

set_option maxHeartbeats 4000000 in
theorem symMerge_rec (hc : CmpOk k ar ok) : ∀ (n : Nat) (X L R Y : List Int), L.length + R.length < n + 2 → 0 < L.length → 0 < R.length → (X ++ L ++ R ++ Y).length < 1000000000 → Srt k L → Srt k R → (∀ z ∈ L, ok z) → (∀ z ∈ R, ok z) →
    ∃ S, recM symF n (X ++ L ++ R ++ Y, (X.length : Int), ((X.length + L.length : Nat) : Int), ((X.length + L.length + R.length : Nat) : Int), ar, ()) = some (X ++ S ++ Y, ()) ∧ Srt k S ∧ SamE k (L ++ R) S := by
  intro n
  induction n with
  | zero => intro X L R Y h h1 h2; omega
  | succ n ih =>
    intro X L R Y hn hL0 hR0 hlen hL hR hokL hokR
    have hlen' := hlen
    simp only [List.length_append] at hlen
    show ∃ S, symF (recM symF n) _ = _ ∧ _
    generalize hself : recM symF n = self at ih
    unfold symF slices_symMergeCmpFunc_int_F
    dsimp only
    have e1 : w64 (((X.length + L.length : Nat) : Int) - (X.length : Int)) = (L.length : Int) := by rw [w64_id (by omega) (by omega)]; omega
    have e2 : w64 (((X.length + L.length + R.length : Nat) : Int) - ((X.length + L.length : Nat) : Int)) = (R.length : Int) := by rw [w64_id (by omega) (by omega)]; omega
    rw [e1, e2]
    by_cases hL1 : L.length = 1
    · obtain ⟨x, rfl⟩ : ∃ x, L = [x] := List.length_eq_one_iff.1 hL1
      rw [show ((([x].length : Nat) : Int) == 1) = true by simp, cond_true]
      obtain ⟨R1, R2, rfl, h3⟩ := merge_one_left hc X R Y x hlen' hR (hokL x (by simp)) hokR (Int.natAbs (X.length : Int) + (Int.natAbs ((X.length + [x].length : Nat) : Int) + (Int.natAbs ((X.length + [x].length + R.length : Nat) : Int) + (List.length (X ++ [x] ++ R ++ Y) + 2)))) (by simp; omega)
      simp only [List.length_cons, List.length_nil, Nat.zero_add] at h3 ⊢
      rw [h3, joinB_inr]
      dsimp only
      have hmv := move_up (X.length + 1 + R1.length) (Int.natAbs ((X.length + 1 + R1.length : Nat) : Int) + (Int.natAbs (X.length : Int) + (List.length (X ++ [x] ++ (R1 ++ R2) ++ Y) + 2))) X R1 (R2 ++ Y) x (by simp; omega) rfl (by simp at hlen ⊢; omega)
      rw [show X ++ x :: R1 ++ (R2 ++ Y) = X ++ [x] ++ (R1 ++ R2) ++ Y by simp] at hmv
      rw [hmv, joinB_inr]
      refine ⟨R1 ++ x :: R2, by simp, ?_, ?_⟩
      · trivial
      · have := (SamE.swap (k := k) (u := [x]) (v := R1)).append (SamE.refl k R2)
        simpa using this
    · rw [show (((L.length : Nat) : Int) == 1) = false by simp; omega, cond_false]
      by_cases hR1 : R.length = 1
      · obtain ⟨y, rfl⟩ : ∃ x, R = [x] := List.length_eq_one_iff.1 hR1
        rw [show ((([y].length : Nat) : Int) == 1) = true by simp, cond_true]
        obtain ⟨L1, L2, rfl, h3⟩ := merge_one_right hc X L Y y hlen' hL (hokR y (by simp)) hokL (Int.natAbs ((X.length + L.length : Nat) : Int) + (Int.natAbs (X.length : Int) + (Int.natAbs ((X.length + L.length : Nat) : Int) + (List.length (X ++ L ++ [y] ++ Y) + 2)))) (by omega)
        rw [h3, joinB_inr]
        dsimp only
        have hmv := move_down (X ++ L1) (Int.natAbs ((X.length + L1.length : Nat) : Int) + (Int.natAbs ((X.length + (L1 ++ L2).length : Nat) : Int) + (List.length (X ++ (L1 ++ L2) ++ [y] ++ Y) + 2))) L2 Y y (by simp; omega) (by simp at hlen ⊢; omega)
        rw [show X ++ L1 ++ L2 ++ y :: Y = X ++ (L1 ++ L2) ++ [y] ++ Y by simp, show (((X ++ L1).length : Nat) : Int) = ((X.length + L1.length : Nat) : Int) by simp, show (((X ++ L1).length + L2.length : Nat) : Int) = ((X.length + (L1 ++ L2).length : Nat) : Int) by simp; omega] at hmv
        rw [hmv, joinB_inr]
        refine ⟨L1 ++ y :: L2, by simp, ?_, ?_⟩
        · trivial
        · have := (SamE.refl k L1).append (SamE.swap (k := k) (u := L2) (v := [y]))
          simpa using this
      · rw [show (((R.length : Nat) : Int) == 1) = false by simp; omega, cond_false]
        have eh := half_eq X.length (X.length + L.length + R.length) (by omega)
        rw [eh]
        generalize hmid : (X.length + (X.length + L.length + R.length)) / 2 = mid
        have e3 : w64 ((mid : Int) + ((X.length + L.length : Nat) : Int)) = ((mid + (X.length + L.length) : Nat) : Int) := by rw [w64_id (by omega) (by omega)]; omega
        rw [e3]
        -- where to look
        obtain ⟨lo, hi, hcase, hv⟩ : ∃ lo hi : Nat, ((mid < X.length + L.length ∧ lo + R.length = mid ∧ hi = mid ∧ X.length ≤ lo) ∨ (X.length + L.length ≤ mid ∧ lo = X.length ∧ hi = X.length + L.length)) ∧
            (bif decide (((X.length + L.length : Nat) : Int) > (mid : Int)) then
              (some (Sum.inr ((X.length : Int), ((X.length + L.length : Nat) : Int), ((X.length + L.length + R.length : Nat) : Int), ar, (mid : Int), ((mid + (X.length + L.length) : Nat) : Int), w64 (((mid + (X.length + L.length) : Nat) : Int) - ((X.length + L.length + R.length : Nat) : Int)), (mid : Int), X ++ L ++ R ++ Y, ())) : Option (((List Int) × Unit) ⊕ (Int × Int × Int × (List D_api_State) × Int × Int × Int × Int × (List Int) × Unit)))
            else some (Sum.inr ((X.length : Int), ((X.length + L.length : Nat) : Int), ((X.length + L.length + R.length : Nat) : Int), ar, (mid : Int), ((mid + (X.length + L.length) : Nat) : Int), (X.length : Int), ((X.length + L.length : Nat) : Int), X ++ L ++ R ++ Y, ()))) = some (Sum.inr ((X.length : Int), ((X.length + L.length : Nat) : Int), ((X.length + L.length + R.length : Nat) : Int), ar, (mid : Int), ((mid + (X.length + L.length) : Nat) : Int), (lo : Int), (hi : Int), X ++ L ++ R ++ Y, ())) := by
          by_cases hm : mid < X.length + L.length
          · refine ⟨mid - R.length, mid, .inl ⟨hm, by omega, rfl, by omega⟩, ?_⟩
            rw [bif_pos (by omega), w64_id (by omega) (by omega), show ((mid + (X.length + L.length) : Nat) : Int) - ((X.length + L.length + R.length : Nat) : Int) = ((mid - R.length : Nat) : Int) by omega]
          · refine ⟨X.length, X.length + L.length, .inr ⟨by omega, rfl, rfl⟩, ?_⟩
            rw [bif_neg (by omega)]
        rw [hv, joinB_inr]
        dsimp only
        have e4 : w64 (((mid + (X.length + L.length) : Nat) : Int) - 1) = ((mid + (X.length + L.length) : Nat) : Int) - 1 := w64_id (by omega) (by omega)
        rw [e4]
        obtain ⟨s, h1, h2, h3⟩ := merge_search hc X L R Y hlen' hL hR hokL hokR mid lo hi hmid.symm hcase (Int.natAbs (X.length : Int) + (Int.natAbs ((X.length + L.length : Nat) : Int) + (Int.natAbs ((X.length + L.length + R.length : Nat) : Int) + (Int.natAbs (mid : Int) + (Int.natAbs ((mid + (X.length + L.length) : Nat) : Int) + (Int.natAbs (lo : Int) + (Int.natAbs (hi : Int) + (Int.natAbs (((mid + (X.length + L.length) : Nat) : Int) - 1) + (List.length (X ++ L ++ R ++ Y) + 2))))))))) (by omega)
        rw [h1, joinB_inr]
        dsimp only
        clear h1 hv
        -- the four parts
        obtain ⟨L1, L2, rfl, hL1l⟩ := split_at (l := L) (n := s - X.length) (by omega)
        obtain ⟨R1, R2, rfl, hR1l⟩ := split_at (l := R) (n := mid - s) (by simp only [List.length_append] at *; omega)
        simp only [List.length_append] at hn hlen hL1 hR1 hmid hcase e1 e2 e3 e4 eh hL0 hR0
        have e5 : w64 (((mid + (X.length + (L1 ++ L2).length) : Nat) : Int) - (s : Int)) = ((X.length + (L1 ++ L2).length + R1.length : Nat) : Int) := by
          rw [w64_id (by simp; omega) (by simp; omega)]; simp only [List.length_append]; omega
        rw [e5]
        have hokL1 : ∀ z ∈ L1, ok z := fun z hz => hokL z (by simp [hz])
        have hokL2 : ∀ z ∈ L2, ok z := fun z hz => hokL z (by simp [hz])
        have hokR1 : ∀ z ∈ R1, ok z := fun z hz => hokR z (by simp [hz])
        have hokR2 : ∀ z ∈ R2, ok z := fun z hz => hokR z (by simp [hz])
        -- the first half
        have ph1 : ∃ S1, (X.length < s → s < mid → self (X ++ L1 ++ R1 ++ (L2 ++ R2 ++ Y), (X.length : Int), (s : Int), (mid : Int), ar, ()) = some (X ++ S1 ++ (L2 ++ R2 ++ Y), ())) ∧ (¬(X.length < s ∧ s < mid) → S1 = L1 ++ R1) ∧ Srt k S1 ∧ SamE k (L1 ++ R1) S1 := by
          by_cases hb : X.length < s ∧ s < mid
          · obtain ⟨S1, g1, g2, g3⟩ := ih X L1 R1 (L2 ++ R2 ++ Y) (by omega) (by omega) (by omega) (by simp; omega) hL.left hR.left hokL1 hokR1
            rw [show ((X.length + L1.length : Nat) : Int) = (s : Int) by omega, show ((X.length + L1.length + R1.length : Nat) : Int) = (mid : Int) by omega] at g1
            exact ⟨S1, fun _ _ => g1, fun h => absurd hb h, g2, g3⟩
          · refine ⟨L1 ++ R1, fun h1 h2 => absurd ⟨h1, h2⟩ hb, fun _ => rfl, ?_, SamE.refl _ _⟩
            trivial
        obtain ⟨S1, hS1a, hS1b, hS1s, hS1e⟩ := ph1
        have hS1l : S1.length = L1.length + R1.length := by rw [hS1e.length]; simp
        -- the second half
        have ph2 : ∃ S2, (bif decide ((mid : Int) < ((X.length + (L1 ++ L2).length + R1.length : Nat) : Int)) then
              bif decide (((X.length + (L1 ++ L2).length + R1.length : Nat) : Int) < ((X.length + (L1 ++ L2).length + (R1 ++ R2).length : Nat) : Int)) then
                Option.bind (self (X ++ S1 ++ (L2 ++ R2 ++ Y), (mid : Int), ((X.length + (L1 ++ L2).length + R1.length : Nat) : Int), ((X.length + (L1 ++ L2).length + (R1 ++ R2).length : Nat) : Int), ar, ())) fun r38 => some (r38.1, ())
              else some (X ++ S1 ++ (L2 ++ R2 ++ Y), ())
            else some (X ++ S1 ++ (L2 ++ R2 ++ Y), ())) = some (X ++ (S1 ++ S2) ++ Y, ()) ∧ Srt k S2 ∧ SamE k (L2 ++ R2) S2 := by
          simp only [List.length_append]
          by_cases hb1 : 0 < L2.length
          · rw [bif_pos (by omega)]
            by_cases hb2 : 0 < R2.length
            · rw [bif_pos (by omega)]
              obtain ⟨S2, g1, g2, g3⟩ := ih (X ++ S1) L2 R2 Y (by omega) hb1 hb2 (by simp; omega) hL.right hR.right hokL2 hokR2
              rw [show (((X ++ S1).length : Nat) : Int) = (mid : Int) by simp; omega, show (((X ++ S1).length + L2.length : Nat) : Int) = ((X.length + (L1.length + L2.length) + R1.length : Nat) : Int) by simp; omega, show (((X ++ S1).length + L2.length + R2.length : Nat) : Int) = ((X.length + (L1.length + L2.length) + (R1.length + R2.length) : Nat) : Int) by simp; omega] at g1
              rw [show X ++ S1 ++ (L2 ++ R2 ++ Y) = X ++ S1 ++ L2 ++ R2 ++ Y by simp, g1]
              exact ⟨S2, by simp, g2, g3⟩
            · have : R2 = [] := List.eq_nil_of_length_eq_zero (by omega)
              subst this
              rw [bif_neg (by simp)]
              exact ⟨L2, by simp, hL.right, by simpa using SamE.refl k L2⟩
          · have : L2 = [] := List.eq_nil_of_length_eq_zero (by omega)
            subst this
            rw [bif_neg (by simp; omega)]
            exact ⟨R2, by simp, hR.right, SamE.refl _ _⟩
        obtain ⟨S2, hE2, hS2s, hS2e⟩ := ph2
        have fin : Srt k (S1 ++ S2) ∧ SamE k (L1 ++ L2 ++ (R1 ++ R2)) (S1 ++ S2) := by
          constructor
          · trivial
          · have h1 : SamE k (L1 ++ (L2 ++ R1) ++ R2) (L1 ++ (R1 ++ L2) ++ R2) := ((SamE.refl k L1).append SamE.swap).append (SamE.refl k R2)
            have h2 := hS1e.append hS2e
            have h3 : SamE k (L1 ++ L2 ++ (R1 ++ R2)) (L1 ++ R1 ++ (L2 ++ R2)) := by simpa using h1
            exact h3.trans h2
        refine ⟨S1 ++ S2, ?_, fin.1, fin.2⟩
        have hsL : ((X.length + (L1 ++ L2).length : Nat) : Int) = ((X.length + L1.length + L2.length : Nat) : Int) := by simp; omega
        -- the list with its blocks in place
        have tail : ∀ (D : List Int), D = X ++ L1 ++ R1 ++ (L2 ++ R2 ++ Y) →
            (bif decide ((X.length : Int) < (s : Int)) then
              joinB (β := ((List Int) × Unit)) (γ := (Int × (List D_api_State) × Int × Int × (List Int) × Unit)) (
                bif decide ((s : Int) < (mid : Int)) then
                  Option.bind (self (D, (X.length : Int), (s : Int), (mid : Int), ar, ())) fun r35 =>
                  some (Sum.inr (((X.length + (L1 ++ L2).length + (R1 ++ R2).length : Nat) : Int), ar, (mid : Int), ((X.length + (L1 ++ L2).length + R1.length : Nat) : Int), r35.1, ()))
                else
                  some (Sum.inr (((X.length + (L1 ++ L2).length + (R1 ++ R2).length : Nat) : Int), ar, (mid : Int), ((X.length + (L1 ++ L2).length + R1.length : Nat) : Int), D, ()))) fun v36 =>
              bif decide (v36.2.2.1 < v36.2.2.2.1) then
                bif decide (v36.2.2.2.1 < v36.1) then
                  Option.bind (self (v36.2.2.2.2.1, v36.2.2.1, v36.2.2.2.1, v36.1, v36.2.1, ())) fun r37 =>
                  some (r37.1, ())
                else
                  some (v36.2.2.2.2.1, ())
              else
                some (v36.2.2.2.2.1, ())
            else
              bif decide ((mid : Int) < ((X.length + (L1 ++ L2).length + R1.length : Nat) : Int)) then
                bif decide (((X.length + (L1 ++ L2).length + R1.length : Nat) : Int) < ((X.length + (L1 ++ L2).length + (R1 ++ R2).length : Nat) : Int)) then
                  Option.bind (self (D, (mid : Int), ((X.length + (L1 ++ L2).length + R1.length : Nat) : Int), ((X.length + (L1 ++ L2).length + (R1 ++ R2).length : Nat) : Int), ar, ())) fun r38 =>
                  some (r38.1, ())
                else
                  some (D, ())
              else
                some (D, ())) = some (X ++ (S1 ++ S2) ++ Y, ()) := by
          intro D hD
          by_cases hb1 : X.length < s
          · rw [bif_pos (by omega)]
            by_cases hb2 : s < mid
            · rw [bif_pos (by omega), hD, hS1a hb1 hb2, Option.bind_some, joinB_inr]
              exact hE2
            · rw [bif_neg (by omega), joinB_inr, hD]
              have : X ++ L1 ++ R1 ++ (L2 ++ R2 ++ Y) = X ++ S1 ++ (L2 ++ R2 ++ Y) := by rw [hS1b (fun h => hb2 h.2)]; simp
              rw [this]
              exact hE2
          · rw [bif_neg (by omega), hD]
            have : X ++ L1 ++ R1 ++ (L2 ++ R2 ++ Y) = X ++ S1 ++ (L2 ++ R2 ++ Y) := by rw [hS1b (fun h => hb1 h.1)]; simp
            rw [this]
            exact hE2
        by_cases hsm : s < X.length + (L1 ++ L2).length
        · rw [bif_pos (by omega)]
          by_cases hme : 0 < R1.length
          · have hrot := rotate_eq (ar := ar) (X ++ L1) L2 R1 (R2 ++ Y) (by simp at hsm; omega) hme (by simp; omega)
            rw [show (((X ++ L1).length : Nat) : Int) = (s : Int) by simp; omega, show (((X ++ L1).length + L2.length : Nat) : Int) = ((X.length + (L1 ++ L2).length : Nat) : Int) by simp; omega, show (((X ++ L1).length + L2.length + R1.length : Nat) : Int) = ((X.length + (L1 ++ L2).length + R1.length : Nat) : Int) by simp; omega,
              show X ++ L1 ++ L2 ++ R1 ++ (R2 ++ Y) = X ++ (L1 ++ L2) ++ (R1 ++ R2) ++ Y by simp] at hrot
            rw [bif_pos (by omega), hrot, Option.bind_some, joinB_inr]
            exact tail _ (by simp)
          · have : R1 = [] := List.eq_nil_of_length_eq_zero (by omega)
            subst this
            rw [bif_neg (by simp), joinB_inr]
            exact tail _ (by simp)
        · rw [bif_neg (by omega)]
          have : L2 = [] := List.eq_nil_of_length_eq_zero (by simp at hsm; omega)
          subst this
          exact tail _ (by simp)
theorem symMerge_eq (hc : CmpOk k ar ok) (X L R Y : List Int) (h1 : 0 < L.length) (h2 : 0 < R.length) (hlen : (X ++ L ++ R ++ Y).length < 1000000000) (hL : Srt k L) (hR : Srt k R) (hokL : ∀ z ∈ L, ok z) (hokR : ∀ z ∈ R, ok z) :
    ∃ S, slices_symMergeCmpFunc_int (X ++ L ++ R ++ Y) (X.length : Int) ((X.length + L.length : Nat) : Int) ((X.length + L.length + R.length : Nat) : Int) ar = some (X ++ S ++ Y, ()) ∧ Srt k S ∧ SamE k (L ++ R) S := by
  unfold slices_symMergeCmpFunc_int
  exact symMerge_rec hc _ X L R Y (by unfold slices_symMergeCmpFunc_int_fuel; simp only [List.length_append]; omega) h1 h2 hlen hL hR hokL hokR

theorem stable_first (hc : CmpOk k ar ok) (N : Nat) (hN : N < 100000000) : ∀ (n : Nat) (A Z : List Int) (j : Nat), A.length = j * 20 → A.length + Z.length = N → Z.length < n → ChS k 20 A → (∀ z ∈ A, ok z) → (∀ z ∈ Z, ok z) →
    ∃ A' Z' j', iter (X := slices_stableCmpFunc_int_x2) (β := slices_stableCmpFunc_int_r2) n ((N : Int), ar, 20, (A.length : Int), ((A.length + 20 : Nat) : Int), A ++ Z, ()) slices_stableCmpFunc_int_b2 = some (Sum.inr ((N : Int), ar, 20, (A'.length : Int), A' ++ Z', ())) ∧ A'.length = j' * 20 ∧ Z'.length < 20 ∧ ChS k 20 A' ∧ SamE k (A ++ Z) (A' ++ Z') := by
  intro n
  induction n with
  | zero => intro A Z j _ _ h; omega
  | succ n ih =>
    intro A Z j hA hAZ hn hch hokA hokZ
    rw [iter_succ]
    generalize hag : (fun y => iter n y slices_stableCmpFunc_int_b2) = again
    unfold slices_stableCmpFunc_int_b2
    dsimp only
    by_cases hb : 20 ≤ Z.length
    · rw [bif_pos (by omega)]
      obtain ⟨S, Y, rfl, hS⟩ := split_at (l := Z) (n := 20) hb
      simp only [List.length_append] at hAZ hn
      obtain ⟨S', g1, g2, g3⟩ := insertion_eq hc A S Y (by simp; omega) (fun z hz => hokZ z (by simp [hz]))
      rw [hS] at g1
      rw [show A ++ (S ++ Y) = A ++ S ++ Y by simp, g1, Option.bind_some]
      dsimp only
      have hS' : S'.length = 20 := by rw [g3.length, hS]
      have e1 : w64 (((A.length + 20 : Nat) : Int) + 20) = (((A ++ S').length + 20 : Nat) : Int) := by rw [w64_id (by omega) (by omega)]; simp; omega
      rw [e1, show ((A.length + 20 : Nat) : Int) = (((A ++ S').length : Nat) : Int) by simp; omega, ← hag]
      obtain ⟨A', Z', j', h1, h2, h3, h4, h5⟩ := ih (A ++ S') Y (j + 1) (by simp; omega) (by simp; omega) (by omega) trivial (fun z hz => by
        rcases List.mem_append.1 hz with h | h
        · exact hokA z h
        · exact hokZ z (by simp [g3.mem.1 h])) (fun z hz => hokZ z (by simp [hz]))
      refine ⟨A', Z', j', h1, h2, h3, h4, ?_⟩
      have : SamE k (A ++ S ++ Y) (A ++ S' ++ Y) := ((SamE.refl k A).append g3).append (SamE.refl k Y)
      exact this.trans h5
    · rw [bif_neg (by omega)]
      exact ⟨A, Z, j, rfl, hA, by omega, hch, SamE.refl _ _⟩

theorem stable_pass (hc : CmpOk k ar ok) (N bs : Nat) (hN : N < 100000000) (hbs : 0 < bs) (hbN : bs < N) : ∀ (n : Nat) (A Z : List Int) (j : Nat), A.length = j * (2 * bs) → A.length + Z.length = N → Z.length < n → ChS k (2 * bs) A → ChS k bs Z → (∀ z ∈ A, ok z) → (∀ z ∈ Z, ok z) →
    ∃ A' Z' j', iter (X := slices_stableCmpFunc_int_x9) (β := slices_stableCmpFunc_int_r9) n ((N : Int), ar, (bs : Int), (A.length : Int), ((A.length + 2 * bs : Nat) : Int), A ++ Z, ()) slices_stableCmpFunc_int_b9 = some (Sum.inr ((N : Int), ar, (bs : Int), (A'.length : Int), A' ++ Z', ())) ∧ A'.length = j' * (2 * bs) ∧ Z'.length < 2 * bs ∧ ChS k (2 * bs) A' ∧ ChS k bs Z' ∧ SamE k (A ++ Z) (A' ++ Z') := by
  intro n
  induction n with
  | zero => intro A Z j _ _ h; omega
  | succ n ih =>
    intro A Z j hA hAZ hn hch hcz hokA hokZ
    rw [iter_succ]
    generalize hag : (fun y => iter n y slices_stableCmpFunc_int_b9) = again
    unfold slices_stableCmpFunc_int_b9
    dsimp only
    by_cases hb : 2 * bs ≤ Z.length
    · rw [bif_pos (by omega)]
      obtain ⟨L, Z1, rfl, hL⟩ := split_at (l := Z) (n := bs) (by omega)
      obtain ⟨R, Y, rfl, hR⟩ := split_at (l := Z1) (n := bs) (by simp at hb; omega)
      simp only [List.length_append] at hAZ hn hb
      have sL : Srt k L := trivial
      have sR : Srt k R := trivial
      have cY : ChS k bs Y := trivial
      obtain ⟨S, g1, g2, g3⟩ := symMerge_eq hc A L R Y (by omega) (by omega) (by simp; omega) sL sR (fun z hz => hokZ z (by simp [hz])) (fun z hz => hokZ z (by simp [hz]))
      have e0 : w64 ((A.length : Int) + (bs : Int)) = ((A.length + L.length : Nat) : Int) := by rw [w64_id (by omega) (by omega)]; omega
      rw [e0, show ((A.length + 2 * bs : Nat) : Int) = ((A.length + L.length + R.length : Nat) : Int) by omega, show A ++ (L ++ (R ++ Y)) = A ++ L ++ R ++ Y by simp, g1, Option.bind_some]
      dsimp only
      have hSl : S.length = 2 * bs := by rw [g3.length]; simp; omega
      have e1 : w64 (((A.length + L.length + R.length : Nat) : Int) + w64 (2 * (bs : Int))) = (((A ++ S).length + 2 * bs : Nat) : Int) := by
        rw [w64_id (n := 2 * (bs : Int)) (by omega) (by omega), w64_id (by omega) (by omega)]; simp; omega
      rw [e1, show ((A.length + L.length + R.length : Nat) : Int) = (((A ++ S).length : Nat) : Int) by simp; omega, ← hag]
      obtain ⟨A', Z', j', h1, h2, h3, h4, h5, h6⟩ := ih (A ++ S) Y (j + 1) (by rw [List.length_append, hA, hSl, Nat.add_mul, Nat.one_mul]) (by simp; omega) (by omega) trivial cY (fun z hz => by
        rcases List.mem_append.1 hz with h | h
        · exact hokA z h
        · rcases List.mem_append.1 (g3.mem.1 h) with h | h <;> exact hokZ z (by simp [h])) (fun z hz => hokZ z (by simp [hz]))
      refine ⟨A', Z', j', h1, h2, h3, h4, h5, ?_⟩
      have : SamE k (A ++ (L ++ R) ++ Y) (A ++ S ++ Y) := ((SamE.refl k A).append g3).append (SamE.refl k Y)
      have h7 := this.trans h6
      simpa using h7
    · rw [bif_neg (by omega)]
      exact ⟨A, Z, j, rfl, hA, by omega, hch, hcz, SamE.refl _ _⟩

theorem stable_last (hc : CmpOk k ar ok) (N : Nat) (hN : N < 100000000) : ∀ (n bs : Nat) (l : List Int), l.length = N → 0 < bs → N < bs + n ∧ 0 < n → bs < 400000000 → ChS k bs l → (∀ z ∈ l, ok z) →
    ∃ l', iter (X := slices_stableCmpFunc_int_x7) (β := slices_stableCmpFunc_int_r7) n ((N : Int), ar, (bs : Int), l, ()) slices_stableCmpFunc_int_b7 = some (Sum.inr (l', ())) ∧ Srt k l' ∧ SamE k l l' := by
  intro n
  induction n with
  | zero =>
    intro bs l hl hbs hn hb2 hch hok
    exact absurd hn (by omega)
  | succ n ih =>
    intro bs l hl hbs hn hb2 hch hok
    rw [iter_succ]
    generalize hag : (fun y => iter n y slices_stableCmpFunc_int_b7) = again
    unfold slices_stableCmpFunc_int_b7
    dsimp only
    by_cases hb : bs < N
    · rw [bif_pos (by omega)]
      have e0 : w64 (2 * (bs : Int)) = (((([] : List Int).length) + 2 * bs : Nat) : Int) := by rw [w64_id (by omega) (by omega)]; simp
      rw [e0, show (0 : Int) = ((([] : List Int).length : Nat) : Int) from rfl]
      obtain ⟨A, Z, j, h1, h2, h3, h4, h5, h6⟩ := stable_pass hc N bs hN hbs hb (Int.natAbs (N : Int) + (Int.natAbs (bs : Int) + (Int.natAbs ((([] : List Int).length : Nat) : Int) + (Int.natAbs (((([] : List Int).length) + 2 * bs : Nat) : Int) + (List.length l + 2))))) [] l 0 (by simp) (by simpa using hl) (by omega) (ChS.nil _ _) hch (by simp) hok
      rw [List.nil_append] at h1 h6
      rw [h1, joinB_inr]
      dsimp only
      have hAZ : A.length + Z.length = N := by have := h6.length; simp at this; omega
      have hokAZ : ∀ z ∈ A ++ Z, ok z := fun z hz => hok z (h6.mem.1 hz)
      have e1 : w64 ((A.length : Int) + (bs : Int)) = ((A.length + bs : Nat) : Int) := by rw [w64_id (by omega) (by omega)]; omega
      have e2 : w64 ((bs : Int) * 2) = ((2 * bs : Nat) : Int) := by rw [w64_id (by omega) (by omega)]; omega
      rw [e1, e2]
      by_cases hlast : A.length + bs < N
      · rw [bif_pos (by omega)]
        obtain ⟨L, R, rfl, hL⟩ := split_at (l := Z) (n := bs) (by omega)
        simp only [List.length_append] at hAZ h3
        have sL : Srt k L := trivial
        have sR : Srt k R := trivial
        obtain ⟨S, g1, g2, g3⟩ := symMerge_eq hc A L R [] (by omega) (by omega) (by simp; omega) sL sR (fun z hz => hokAZ z (by simp [hz])) (fun z hz => hokAZ z (by simp [hz]))
        simp only [List.append_nil] at g1
        rw [show ((A.length + bs : Nat) : Int) = ((A.length + L.length : Nat) : Int) by omega, show ((N : Nat) : Int) = ((A.length + L.length + R.length : Nat) : Int) by omega, show A ++ (L ++ R) = A ++ L ++ R by simp, g1, Option.bind_some, ← hag]
        have hsam : SamE k l (A ++ S) := h6.trans (by simpa using (SamE.refl k A).append g3)
        obtain ⟨l', q1, q2, q3⟩ := ih (2 * bs) (A ++ S) (by rw [hsam.length]; exact hl) (by omega) ⟨by omega, by omega⟩ (by omega) trivial (fun z hz => hok z (hsam.mem.1 hz))
        rw [show ((A.length + L.length + R.length : Nat) : Int) = ((N : Nat) : Int) by omega]
        exact ⟨l', q1, q2, hsam.trans q3⟩
      · rw [bif_neg (by omega), ← hag]
        have sZ : Srt k Z := trivial
        obtain ⟨l', q1, q2, q3⟩ := ih (2 * bs) (A ++ Z) (by simp; omega) (by omega) ⟨by omega, by omega⟩ (by omega) trivial hokAZ
        exact ⟨l', q1, q2, h6.trans q3⟩
    · rw [bif_neg (by omega)]
      exact ⟨l, rfl, trivial, SamE.refl _ _⟩

theorem sortStable_eq (hc : CmpOk k ar ok) (l : List Int) (hl : l.length < 100000000) (hok : ∀ z ∈ l, ok z) : ∃ l', slices_SortStableFunc_int l ar = some (l', ()) ∧ Srt k l' ∧ SamE k l l' := by
  unfold slices_SortStableFunc_int slices_stableCmpFunc_int
  obtain ⟨A, Z, j, h1, h2, h3, h4, h5⟩ := stable_first hc l.length hl (Int.natAbs (l.length : Int) + (Int.natAbs (20 : Int) + (Int.natAbs (0 : Int) + (Int.natAbs (20 : Int) + (List.length l + 2))))) [] l 0 (by simp) (by simp) (by omega) (ChS.nil _ _) (by simp) hok
  simp only [List.length_nil, List.nil_append] at h1 h5
  rw [show ((0 + 20 : Nat) : Int) = 20 from rfl, show ((0 : Nat) : Int) = 0 from rfl] at h1
  rw [h1, joinB_inr]
  dsimp only
  have hAZ : A.length + Z.length = l.length := by have := h5.length; simp at this; omega
  obtain ⟨Z', g1, g2, g3⟩ := insertion_eq hc A Z [] (by simp; omega) (fun z hz => hok z (h5.mem.1 (by simp [hz])))
  simp only [List.append_nil] at g1
  rw [show ((A.length + Z.length : Nat) : Int) = (l.length : Int) by omega] at g1
  rw [g1, Option.bind_some]
  dsimp only
  have hsam : SamE k l (A ++ Z') := h5.trans ((SamE.refl k A).append g3)
  obtain ⟨l', q1, q2, q3⟩ := stable_last hc l.length hl (Int.natAbs (l.length : Int) + (Int.natAbs (20 : Int) + (List.length (A ++ Z') + 2))) 20 (A ++ Z') hsam.length (by omega) ⟨by omega, by omega⟩ (by omega) trivial (fun z hz => hok z (hsam.mem.1 hz))
  rw [show ((20 : Nat) : Int) = 20 from rfl] at q1
  rw [q1, joinB_inr]
  exact ⟨l', rfl, q2, hsam.trans q3⟩
end

end Go.Md.SP

namespace Go.Md
open Go.Dn

/-- A quantity of billionths. -/
def v9 (d : D_api_Decimal) : Int := d.1 * 10 ^ ((9 : Int) - d.2).toNat
theorem amount_Value_eq {d : D_api_Decimal} (h : DecOk d) : amount_Value d = some (W (v9 d), ()) := by
  unfold amount_Value
  have h1 := h.1; have h2 := h.2
  rw [amount_Scaled_eq d 9 (by omega) (by omega) (by omega) (by omega) (by omega), Option.bind_some]
  rfl
theorem v9_Le {d : D_api_Decimal} (h : DecOk d) : Le 24 (v9 d) := (Le.dec h).mul ((Le.pow (9 - d.2).toNat).mono (show (9 - d.2).toNat ≤ 9 by have := h.2; omega))

def itemF (y : D_api_Mass) : Int := if isNm y.1 = false then 5 else if isNm y.2.1 = false then 5 else if ¬ DecOk y.2.2 then 1 else if y.2.2.1 < 0 then 1 else 0
def itemsF (l : List D_api_Mass) : Int := if 100 < l.length then 2 else scanF (fun _ y => itemF y) 0 l
theorem parcel_itemsFault_eq (l : List D_api_Mass) : parcel_itemsFault l = some (itemsF l, ()) := by
  unfold parcel_itemsFault itemsF
  by_cases hb : 100 < l.length
  · rw [bif_pos (by omega), if_pos hb]
  · rw [bif_neg (by omega), if_neg hb]
    rw [iter_scan0 (f := parcel_itemsFault_b4) (fun i => ((l, (l.length : Int), (i : Int), ()) : parcel_itemsFault_x4)) l (fun _ y => itemF y) () ?_ ?_ ?_ _ ?_]
    · exact scanJ _ _
    · rfl
    · intro i y again hy
      have hi := (List.getElem?_eq_some_iff.1 hy).1
      unfold parcel_itemsFault_b4 itemF
      dsimp only
      rw [bif_pos (by omega), idx_nat, hy, Option.bind_some, w64_id (by omega) (by omega)]
      simp only [kit_IsName_eq, Option.bind_some, amount_CheckDecimal_eq']
      cases isNm y.1 <;> cases isNm y.2.1 <;> by_cases hd : DecOk y.2.2 <;> by_cases hn : y.2.2.1 < 0 <;> simp [hd, hn]
    · intro again
      unfold parcel_itemsFault_b4
      dsimp only
      rw [bif_neg (by omega)]
    · omega
theorem itemsF_zero {l : List D_api_Mass} (h : itemsF l = 0) : l.length ≤ 100 ∧ ∀ y ∈ l, DecOk y.2.2 ∧ 0 ≤ y.2.2.1 := by
  unfold itemsF at h
  split at h
  · omega
  refine ⟨by omega, fun y hy => ?_⟩
  obtain ⟨i, hi⟩ := List.mem_iff_getElem?.1 hy
  have := scanF_zero h i y hi
  unfold itemF at this
  split at this
  · omega
  split at this
  · omega
  split at this
  · omega
  split at this
  · omega
  rename_i h1 h2
  exact ⟨Decidable.of_not_not h1, by omega⟩

def opn (y : D_api_State) : D_api_Decimal := y.2.2.2.2.2.2.2.2.2
def prevL (l : List D_api_State) (i : Nat) (y : D_api_State) : Bool := match i with
  | 0 => false
  | i + 1 => match l[i]? with
    | some p => decide (y.1 ≤ p.1)
    | none => false
def lineSF (l : List D_api_State) (i : Nat) (y : D_api_State) : Int :=
  if y.1 < 1 ∨ 99999 < y.1 then 1 else if prevL l i y = true then 8 else if ¬ DecOk (opn y) then 1 else if (opn y).1 < 0 then 1 else 0
def linesSF (l : List D_api_State) : Int := if 500 < l.length then 2 else scanF (lineSF l) 0 l
theorem parcel_linesFault_eq (l : List D_api_State) : parcel_linesFault l = some (linesSF l, ()) := by
  unfold parcel_linesFault linesSF
  by_cases hb : 500 < l.length
  · rw [bif_pos (by omega), if_pos hb]
  · rw [bif_neg (by omega), if_neg hb]
    rw [iter_scan0 (f := parcel_linesFault_b4) (fun i => ((l, l, (l.length : Int), (i : Int), ()) : parcel_linesFault_x4)) l (lineSF l) () ?_ ?_ ?_ _ ?_]
    · exact scanJ _ _
    · rfl
    · intro i y again hy
      have hi := (List.getElem?_eq_some_iff.1 hy).1
      unfold parcel_linesFault_b4 lineSF opn
      dsimp only
      rw [bif_pos (by omega), idx_nat, hy, Option.bind_some]
      simp only [kit_Outside_eq, Option.bind_some, amount_CheckDecimal_eq']
      have hw : w64 ((i : Int) + 1) = ((i + 1 : Nat) : Int) := by rw [w64_id (by omega) (by omega)]; omega
      rw [hw]
      by_cases ho : y.1 < 1 ∨ 99999 < y.1
      · simp [ho]
      · rw [decide_eq_false ho, cond_false, if_neg ho]
        cases i with
        | zero =>
          simp only [prevL]
          by_cases hd : DecOk y.2.2.2.2.2.2.2.2.2 <;> by_cases hn : y.2.2.2.2.2.2.2.2.2.1 < 0 <;> simp [hd, hn]
        | succ i =>
          have hp : l[i]? = some (l[i]'(by omega)) := getElem?_of (by omega)
          have ep : prevL l (i + 1) y = decide (y.1 ≤ (l[i]'(by omega)).1) := by simp only [prevL, hp]
          rw [bif_pos (by omega), prev_idx' (by omega) (by omega), hp, Option.bind_some, ep]
          by_cases hq : y.1 ≤ (l[i]'(by omega)).1
          · simp [hq]
          · by_cases hd : DecOk y.2.2.2.2.2.2.2.2.2 <;> by_cases hn : y.2.2.2.2.2.2.2.2.2.1 < 0 <;> simp [hd, hn, hq]
    · intro again
      unfold parcel_linesFault_b4
      dsimp only
      rw [bif_neg (by omega)]
    · omega
theorem linesSF_zero {l : List D_api_State} (h : linesSF l = 0) : l.length ≤ 500 ∧ ∀ y ∈ l, DecOk (opn y) ∧ 0 ≤ (opn y).1 := by
  unfold linesSF at h
  split at h
  · omega
  refine ⟨by omega, fun y hy => ?_⟩
  obtain ⟨i, hi⟩ := List.mem_iff_getElem?.1 hy
  have := scanF_zero h i y hi
  unfold lineSF at this
  split at this
  · omega
  split at this
  · omega
  split at this
  · omega
  split at this
  · omega
  rename_i h1 h2
  exact ⟨Decidable.of_not_not h1, by omega⟩

theorem cmpAny (ar : List D_api_State) : SP.CmpOk (fun _ => 0) ar (fun x => 0 ≤ x ∧ x < ar.length) := by
  rintro a b ⟨ha, ha'⟩ ⟨hb, hb'⟩
  unfold parcel_Laid_1
  obtain ⟨a, rfl⟩ := Int.eq_ofNat_of_zero_le ha
  obtain ⟨b, rfl⟩ := Int.eq_ofNat_of_zero_le hb
  have e1 : ar[a]? = some (ar[a]'(by omega)) := getElem?_of (by omega)
  have e2 : ar[b]? = some (ar[b]'(by omega)) := getElem?_of (by omega)
  rw [idx_nat, idx_nat, e1, e2]
  exact ⟨_, rfl⟩

end Go.Md

namespace Go.Md
open Go.Dn

def op9 (l : List D_api_State) : List Int := l.map fun y => v9 (opn y)
def cIr (n : Nat) : List Int := cI (List.range n)
theorem cIr_succ (n : Nat) : cIr (n + 1) = cIr n ++ [(n : Int)] := by simp [cIr, cI, List.range_succ]
theorem cIr_len (n : Nat) : (cIr n).length = n := by simp [cIr, cI]

/-- What is open, as far as it was read. -/
def opT (l : List D_api_State) (i : Nat) : List D_whole_Int := ((op9 l).take i).map W ++ List.replicate (l.length - i) (false, [])
theorem opT_len {l : List D_api_State} {i : Nat} (h : i ≤ l.length) : (opT l i).length = l.length := by
  simp [opT, op9]; omega
theorem opT_set {l : List D_api_State} {i : Nat} {y : D_api_State} (hy : l[i]? = some y) : (opT l i).set i (W (v9 (opn y))) = opT l (i + 1) := by
  have hi := (List.getElem?_eq_some_iff.1 hy).1
  unfold opT
  have hlen : (((op9 l).take i).map W).length = i := by simp [op9]; omega
  obtain ⟨m, hm⟩ : ∃ m, l.length - i = m + 1 := ⟨l.length - i - 1, by omega⟩
  rw [hm, show l.length - (i + 1) = m by omega, List.replicate_succ]
  have hs := set_mid (((op9 l).take i).map W) (List.replicate m ((false, []) : D_whole_Int)) (false, []) (W (v9 (opn y)))
  rw [hlen] at hs
  rw [hs]
  have : (op9 l)[i]? = some (v9 (opn y)) := by unfold op9; rw [List.getElem?_map, hy]; rfl
  rw [List.take_add_one, this]
  simp

theorem laid_read (items : List D_api_Mass) (l : List D_api_State) (hl : l.length ≤ 500) (hd : ∀ y ∈ l, DecOk (opn y)) (f : Nat) (hf : l.length < f) :
    iter f ((items, ([] : List Int), l, (l.length : Int), (0 : Int), l, List.replicate (Int.toNat (l.length : Int)) ((false, []) : D_whole_Int), ()) : parcel_Laid_x10) parcel_Laid_b10 = some (Sum.inr (items, cIr l.length, l, (op9 l).map W, ())) := by
  refine iter_post (Inv := fun i X => X = ((items, cIr i, l, (l.length : Int), (i : Int), l, opT l i, ()) : parcel_Laid_x10)) l.length (fun r => r = some (Sum.inr (items, cIr l.length, l, (op9 l).map W, ()))) ?_ ?_ f 0 _ (by simp [opT, cIr, cI]) (by omega) (by omega)
  · rintro i _ again hi rfl ih
    unfold parcel_Laid_b10
    dsimp only
    have hy : l[i]? = some l[i] := getElem?_of hi
    have hdy := hd _ (List.getElem_mem hi)
    generalize l[i] = y at hy hdy
    have hol := opT_len (l := l) (i := i) (by omega)
    have hget : (opT l i)[i]? = some ((opT l i)[i]'(by omega)) := getElem?_of (by omega)
    rw [bif_pos (by omega), idx_nat, hy, Option.bind_some, chk_pos (chk_app (by rw [cIr_len]; omega) (by rw [cIr_len]; omega))]
    have hv := amount_Value_eq hdy
    unfold opn at hv
    rw [hv, Option.bind_some, chk_pos (by rw [hol]; simp only [Bool.and_eq_true, decide_eq_true_eq]; omega), Int.toNat_natCast, hget, Option.bind_some, w64_id (by omega) (by omega)]
    refine ih _ ?_
    have hs := opT_set hy
    unfold opn at hs
    dsimp only
    rw [hs, cIr_succ]
    rfl
  · rintro _ again rfl
    unfold parcel_Laid_b10
    dsimp only
    rw [bif_neg (by omega)]
    have : opT l l.length = (op9 l).map W := by
      unfold opT
      rw [List.take_of_length_le (by simp [op9])]
      simp
    rw [this]

end Go.Md

namespace Go.Md
open Go.Dn

def sumZ : List Int → Int
  | [] => 0
  | x :: r => x + sumZ r
theorem sumZ_set : ∀ (l : List Int) (i : Nat) (x y : Int), l[i]? = some x → sumZ (l.set i y) = sumZ l - x + y
  | [], i, x, y, h => by simp at h
  | a :: l, 0, x, y, h => by simp at h; subst h; simp [sumZ]; omega
  | a :: l, i + 1, x, y, h => by
    simp at h
    have := sumZ_set l i x y h
    simp only [List.set_cons_succ, sumZ, this]; omega
/-- What is open grows no more. -/
def Low (os os' : List Int) : Prop := os'.length = os.length ∧ ∀ (i : Nat) (x y : Int), os[i]? = some x → os'[i]? = some y → 0 ≤ y ∧ y ≤ x
theorem Low.trans {a b c : List Int} (h : Low a b) (g : Low b c) : Low a c := by
  refine ⟨g.1.trans h.1, fun i x y hx hy => ?_⟩
  have hi : i < b.length := by have := (List.getElem?_eq_some_iff.1 hx).1; have := h.1; omega
  have hb : b[i]? = some b[i] := getElem?_of hi
  have h1 := h.2 i x _ hx hb
  have h2 := g.2 i _ y hb hy
  omega
theorem Low.refl {a : List Int} (h : ∀ x ∈ a, 0 ≤ x) : Low a a := by
  refine ⟨rfl, fun i x y hx hy => ?_⟩
  rw [hx] at hy; cases hy
  exact ⟨h _ (List.mem_of_getElem? hx), Int.le_refl _⟩
theorem Low.set {a : List Int} (h : ∀ x ∈ a, 0 ≤ x) {k : Nat} {x z : Int} (hk : a[k]? = some x) (hz : 0 ≤ z) (hz' : z ≤ x) : Low a (a.set k z) := by
  refine ⟨by simp, fun i u v hu hv => ?_⟩
  by_cases e : k = i
  · subst e
    rw [hk] at hu; cases hu
    rw [List.getElem?_set_self (List.getElem?_eq_some_iff.1 hk).1] at hv
    cases hv; exact ⟨hz, hz'⟩
  · rw [List.getElem?_set_ne e, hu] at hv
    cases hv; exact ⟨h _ (List.mem_of_getElem? hu), Int.le_refl _⟩
theorem Low.nonneg {a b : List Int} (h : Low a b) : ∀ x ∈ b, 0 ≤ x := by
  intro x hx
  obtain ⟨i, hi⟩ := List.mem_iff_getElem?.1 hx
  have hlt : i < a.length := by have := (List.getElem?_eq_some_iff.1 hi).1; have := h.1; omega
  exact (h.2 i _ x (getElem?_of hlt) hi).1
theorem Low.le {k : Nat} {a b : List Int} (h : Low a b) (ha : ∀ x ∈ a, Le k x) : ∀ x ∈ b, Le k x := by
  intro x hx
  obtain ⟨i, hi⟩ := List.mem_iff_getElem?.1 hx
  have hlt : i < a.length := by have := (List.getElem?_eq_some_iff.1 hi).1; have := h.1; omega
  have h1 := h.2 i _ x (getElem?_of hlt) hi
  have h2 := ha _ (List.getElem_mem hlt)
  unfold Le at *
  omega

end Go.Md

namespace Go.Md
open Go.Dn

theorem laid_inner (order : List Int) (left items : List D_api_Mass) (li ii : Int) (lines : List D_api_State) (art unit : List UInt8) (q1 q2 : Int) (hord : ∀ x ∈ order, 0 ≤ x ∧ x < (lines.length : Int)) (hol : order.length ≤ 500)
    (os : List Int) (hos : os.length = lines.length) (hll : lines.length ≤ 500) (hnn : ∀ x ∈ os, 0 ≤ x) (hle : ∀ x ∈ os, Le 24 x) (n : Int) (hn : 0 ≤ n) (hnl : Le 24 n) (f : Nat) (hf : order.length < f) :
    ∃ (n' : Int) (os' : List Int), iter f ((order, left, items, li, ii, order, (order.length : Int), (0 : Int), lines, art, unit, q1, q2, (W n).1, (W n).2, os.map W, ()) : parcel_Laid_x22) parcel_Laid_b22 = some (Sum.inr (order, left, items, li, ii, lines, art, unit, q1, q2, (W n').1, (W n').2, os'.map W, ())) ∧ 0 ≤ n' ∧ n' ≤ n ∧ Low os os' ∧ n - n' = sumZ os - sumZ os' := by
  refine iter_post (Inv := fun j X => ∃ (z : Int) (ps : List Int), X = ((order, left, items, li, ii, order, (order.length : Int), (j : Int), lines, art, unit, q1, q2, (W z).1, (W z).2, ps.map W, ()) : parcel_Laid_x22) ∧ 0 ≤ z ∧ z ≤ n ∧ Low os ps ∧ n - z = sumZ os - sumZ ps) order.length
    (fun r => ∃ (n' : Int) (os' : List Int), r = some (Sum.inr (order, left, items, li, ii, lines, art, unit, q1, q2, (W n').1, (W n').2, os'.map W, ())) ∧ 0 ≤ n' ∧ n' ≤ n ∧ Low os os' ∧ n - n' = sumZ os - sumZ os') ?_ ?_ f 0 _ ⟨n, os, rfl, hn, Int.le_refl _, .refl hnn, by omega⟩ (by omega) (by omega)
  · rintro j _ again hj ⟨z, ps, rfl, h1, h2, h3, h4⟩ ih
    unfold parcel_Laid_b22
    dsimp only
    have hy : order[j]? = some order[j] := getElem?_of hj
    have hk := hord _ (List.getElem_mem hj)
    generalize order[j] = k at hy hk
    obtain ⟨k, rfl⟩ := Int.eq_ofNat_of_zero_le hk.1
    have hkl : k < lines.length := by omega
    have hlk : lines[k]? = some lines[k] := getElem?_of hkl
    generalize lines[k] = s at hlk
    have hps := h3.1
    have hpk : ps[k]? = some (ps[k]'(by omega)) := getElem?_of (by omega)
    have hp0 := h3.nonneg _ (List.getElem_mem (show k < ps.length by omega))
    have hpl := h3.le hle _ (List.getElem_mem (show k < ps.length by omega))
    generalize (ps[k]'(by omega)) = o at hpk hp0 hpl
    have hzl : Le 24 z := by unfold Le at *; omega
    have hwk : (ps.map W)[k]? = some (W o) := by rw [List.getElem?_map, hpk]; rfl
    have hwl : (ps.map W).length = lines.length := by rw [List.length_map]; omega
    have b1 := hzl.w (by omega); have b2 := hpl.w (by omega)
    rw [bif_pos (by omega), idx_nat, hy, Option.bind_some, idx_nat, hlk, Option.bind_some, Option.bind_some, w64_id (by omega) (by omega)]
    have skip : ∃ (n' : Int) (os' : List Int), again (order, left, items, li, ii, order, (order.length : Int), (j : Int) + 1, lines, art, unit, q1, q2, (W z).1, (W z).2, ps.map W, ()) = some (Sum.inr (order, left, items, li, ii, lines, art, unit, q1, q2, (W n').1, (W n').2, os'.map W, ())) ∧ 0 ≤ n' ∧ n' ≤ n ∧ Low os os' ∧ n - n' = sumZ os - sumZ os' :=
      ih _ ⟨z, ps, rfl, h1, h2, h3, h4⟩
    cases !(s.2.1 == art) with
    | true => rw [cond_true]; exact skip
    | false =>
      rw [cond_false]
      cases !(s.2.2.1 == unit) with
      | true => rw [cond_true]; exact skip
      | false =>
        rw [cond_false, chk_pos (by rw [hwl]; simp only [Bool.and_eq_true, decide_eq_true_eq]; omega), Int.toNat_natCast, hwk, Option.bind_some, show ((W z).1, (W z).2) = W z from rfl, whole_Int_Compare_eq o z b2 b1, Option.bind_some]
        dsimp only
        have step : ∀ d : Int, 0 ≤ d → d ≤ z → d ≤ o → ∃ (n' : Int) (os' : List Int), again (order, left, items, li, ii, order, (order.length : Int), (j : Int) + 1, lines, art, unit, q1, q2, (W (z - d)).1, (W (z - d)).2, (ps.map W).set k (W (o - d)), ()) = some (Sum.inr (order, left, items, li, ii, lines, art, unit, q1, q2, (W n').1, (W n').2, os'.map W, ())) ∧ 0 ≤ n' ∧ n' ≤ n ∧ Low os os' ∧ n - n' = sumZ os - sumZ os' := by
          intro d d0 d1 d2
          refine ih _ ⟨z - d, ps.set k (o - d), ?_, by omega, by omega, h3.trans (.set h3.nonneg hpk (by omega) (by omega)), ?_⟩
          · rw [List.map_set]; rfl
          · rw [sumZ_set ps k o (o - d) hpk]; omega
        by_cases hlt : o < z
        · rw [bif_pos (by rw [Int.sign_neg_iff]; omega), chk_pos (by rw [hwl]; simp only [Bool.and_eq_true, decide_eq_true_eq]; omega), Option.bind_some, joinB_inr]
          dsimp only
          rw [show ((W z).1, (W z).2) = W z from rfl, show ((W o).1, (W o).2) = W o from rfl, whole_Int_Less_eq z o b1 b2, Option.bind_some, chk_pos (by rw [hwl]; simp only [Bool.and_eq_true, decide_eq_true_eq]; omega), Int.toNat_natCast, hwk, Option.bind_some, whole_Int_Less_eq o o b2 b2, Option.bind_some, chk_pos (by rw [hwl]; simp only [Bool.and_eq_true, decide_eq_true_eq]; omega), Option.bind_some, w64_id (by omega) (by omega)]
          exact step o hp0 (by omega) (by omega)
        · rw [bif_neg (by rw [Int.sign_neg_iff]; omega), joinB_inr]
          dsimp only
          rw [show ((W z).1, (W z).2) = W z from rfl, whole_Int_Less_eq z z b1 b1, Option.bind_some, chk_pos (by rw [hwl]; simp only [Bool.and_eq_true, decide_eq_true_eq]; omega), Int.toNat_natCast, hwk, Option.bind_some, whole_Int_Less_eq o z b2 b1, Option.bind_some, chk_pos (by rw [hwl]; simp only [Bool.and_eq_true, decide_eq_true_eq]; omega), Option.bind_some, w64_id (by omega) (by omega)]
          exact step z h1 (by omega) (by omega)
  · rintro _ again ⟨z, ps, rfl, h1, h2, h3, h4⟩
    unfold parcel_Laid_b22
    dsimp only
    rw [bif_neg (by omega)]
    exact ⟨z, ps, rfl, h1, h2, h3, h4⟩

end Go.Md

namespace Go.Md
open Go.Dn

def sumG : List D_api_Mass → Int
  | [] => 0
  | x :: r => v9 x.2.2 + sumG r
theorem sumG_append : ∀ (a b : List D_api_Mass), sumG (a ++ b) = sumG a + sumG b
  | [], b => by simp [sumG]
  | x :: a, b => by simp only [List.cons_append, sumG, sumG_append a b]; omega
theorem sumG_take {l : List D_api_Mass} {i : Nat} {y : D_api_Mass} (h : l[i]? = some y) : sumG (l.take (i + 1)) = sumG (l.take i) + v9 y.2.2 := by
  rw [List.take_add_one, h, sumG_append]; simp [sumG]

def toldD (z : Int) : D_api_Decimal := ((few 9 z).1, ((few 9 z).2 : Int))
theorem toldD_val (z : Int) : v9 (toldD z) = z := by
  obtain ⟨h1, h2, _⟩ := few_val 9 z
  unfold v9 toldD
  dsimp only
  rw [show ((9 : Int) - ((few 9 z).2 : Int)).toNat = 9 - (few 9 z).2 by omega]
  exact h2
theorem toldD_ok {z : Int} (h : (few 9 z).1.natAbs ≤ 1000000000000000) : DecOk (toldD z) := by
  obtain ⟨h1, _⟩ := few_val 9 z
  exact ⟨h, by unfold toldD; dsimp only; omega, by unfold toldD; dsimp only; omega⟩
theorem parcel_told_eq {z : Int} (hz : Le 42 z) : parcel_told (W z) = some (if (few 9 z).1.natAbs ≤ 1000000000000000 then (toldD z, 0, ()) else ((0, 0), 1, ())) := by
  unfold parcel_told
  rw [show (9 : Int) = ((9 : Nat) : Int) from rfl, amount_Fewest_eq z (hz.w (by omega)) 9 (by omega), Option.bind_some]
  split <;> rfl

end Go.Md

namespace Go.Md
open Go.Dn

theorem laid_items (order : List Int) (items : List D_api_Mass) (lines : List D_api_State) (hord : ∀ x ∈ order, 0 ≤ x ∧ x < (lines.length : Int)) (hol : order.length ≤ 500) (hll : lines.length ≤ 500) (hil : items.length ≤ 100) (hit : ∀ y ∈ items, DecOk y.2.2 ∧ 0 ≤ y.2.2.1)
    (os : List Int) (hos : os.length = lines.length) (hnn : ∀ x ∈ os, 0 ≤ x) (hle : ∀ x ∈ os, Le 24 x) (f : Nat) (hf : items.length < f) :
    (∃ (left : List D_api_Mass) (os' : List Int), iter f ((order, ([] : List D_api_Mass), items, (items.length : Int), (0 : Int), lines, os.map W, ()) : parcel_Laid_x18) parcel_Laid_b18 = some (Sum.inr (left, lines, os'.map W, ())) ∧ Low os os' ∧ left.length ≤ 100 ∧ (∀ y ∈ left, DecOk y.2.2) ∧ sumG items = sumG left + (sumZ os - sumZ os')) ∨
    iter f ((order, ([] : List D_api_Mass), items, (items.length : Int), (0 : Int), lines, os.map W, ()) : parcel_Laid_x18) parcel_Laid_b18 = some (Sum.inl ([], [], 1, ())) := by
  refine iter_post (Inv := fun i X => ∃ (left : List D_api_Mass) (ps : List Int), X = ((order, left, items, (items.length : Int), (i : Int), lines, ps.map W, ()) : parcel_Laid_x18) ∧ Low os ps ∧ left.length ≤ i ∧ (∀ y ∈ left, DecOk y.2.2) ∧ sumG (items.take i) = sumG left + (sumZ os - sumZ ps)) items.length
    (fun r => (∃ (left : List D_api_Mass) (os' : List Int), r = some (Sum.inr (left, lines, os'.map W, ())) ∧ Low os os' ∧ left.length ≤ 100 ∧ (∀ y ∈ left, DecOk y.2.2) ∧ sumG items = sumG left + (sumZ os - sumZ os')) ∨ r = some (Sum.inl ([], [], 1, ()))) ?_ ?_ f 0 _ ⟨[], os, rfl, .refl hnn, by simp, by simp, by simp [sumG]⟩ (by omega) (by omega)
  · rintro i _ again hi ⟨left, ps, rfl, h1, h2, h3, h4⟩ ih
    unfold parcel_Laid_b18
    dsimp only
    have hy : items[i]? = some items[i] := getElem?_of hi
    have hyq := hit _ (List.getElem_mem hi)
    generalize items[i] = y at hy hyq
    have hv0 : 0 ≤ v9 y.2.2 := Int.mul_nonneg hyq.2 (Int.pow_nonneg (by omega))
    rw [bif_pos (by omega), idx_nat, hy, Option.bind_some, amount_Value_eq hyq.1, Option.bind_some]
    obtain ⟨n', os', g1, g2, g3, g4, g5⟩ := laid_inner order left items (items.length : Int) (i : Int) lines y.1 y.2.1 y.2.2.1 y.2.2.2 hord hol ps (h1.1.trans hos) hll h1.nonneg (h1.le hle) (v9 y.2.2) hv0 (v9_Le hyq.1) (List.length order + (List.length left + (List.length items + (Int.natAbs (items.length : Int) + (Int.natAbs (i : Int) + (List.length order + (Int.natAbs ((List.length order : Int)) + (Int.natAbs (0 : Int) + (List.length lines + (List.length y.1 + (List.length y.2.1 + (Int.natAbs y.2.2.1 + (Int.natAbs y.2.2.2 + (List.length (W (v9 y.2.2)).2 + (List.length (ps.map W) + 2))))))))))))))) (by omega)
    rw [g1, joinB_inr]
    dsimp only
    have hn24 : Le 24 n' := by have := v9_Le hyq.1; unfold Le at *; omega
    rw [show ((W n').1, (W n').2) = W n' from rfl, whole_Int_Sign_eq, Option.bind_some, w64_id (by omega) (by omega)]
    dsimp only
    have ht := sumG_take hy
    by_cases hp : 0 < n'
    · rw [bif_pos (by have := Int.sign_eq_one_of_pos hp; omega), parcel_told_eq (hn24.mono (by omega)), Option.bind_some]
      by_cases hb : (few 9 n').1.natAbs ≤ 1000000000000000
      · rw [if_pos hb]
        dsimp only
        rw [show ((0 : Int) != 0) = false from rfl, cond_false, chk_pos (chk_app (by omega) (by omega))]
        refine ih _ ⟨left ++ [(y.1, y.2.1, toldD n')], os', rfl, h1.trans g4, by simp; omega, ?_, ?_⟩
        · intro x hx
          rcases List.mem_append.1 hx with hx | hx
          · exact h3 x hx
          · rw [List.mem_singleton.1 hx]; exact toldD_ok hb
        · rw [ht, sumG_append]
          have := toldD_val n'
          simp only [sumG, this]; omega
      · rw [if_neg hb]; exact .inr rfl
    · rw [bif_neg (by have : n' = 0 := by omega
                      subst this; simp)]
      exact ih _ ⟨left, os', rfl, h1.trans g4, by omega, h3, by rw [ht]; omega⟩
  · rintro _ again ⟨left, ps, rfl, h1, h2, h3, h4⟩
    unfold parcel_Laid_b18
    dsimp only
    rw [bif_neg (by omega)]
    rw [List.take_of_length_le (Nat.le_refl _)] at h4
    exact .inl ⟨left, ps, rfl, h1, by omega, h3, h4⟩

end Go.Md

namespace Go.Md
open Go.Dn

def sumR : List D_api_Rest → Int
  | [] => 0
  | x :: r => v9 x.2.1 + sumR r
theorem sumR_append : ∀ (a b : List D_api_Rest), sumR (a ++ b) = sumR a + sumR b
  | [], b => by simp [sumR]
  | x :: a, b => by simp only [List.cons_append, sumR, sumR_append a b]; omega
theorem sumZ_append : ∀ (a b : List Int), sumZ (a ++ b) = sumZ a + sumZ b
  | [], b => by simp [sumZ]
  | x :: a, b => by simp only [List.cons_append, sumZ, sumZ_append a b]; omega
theorem sumZ_take {l : List Int} {i : Nat} {y : Int} (h : l[i]? = some y) : sumZ (l.take (i + 1)) = sumZ (l.take i) + y := by
  rw [List.take_add_one, h, sumZ_append]; simp [sumZ]

/-- What a line gets is right. -/
def RestOk (lines : List D_api_State) (x : D_api_Rest) : Prop := DecOk x.2.1 ∧ ∃ s ∈ lines, s.1 = x.1 ∧ v9 x.2.1 ≤ v9 (opn s)

theorem laid_out (left : List D_api_Mass) (lines : List D_api_State) (hll : lines.length ≤ 500) (hd : ∀ y ∈ lines, DecOk (opn y)) (os : List Int) (hlow : Low (op9 lines) os) (f : Nat) (hf : lines.length < f) :
    (∃ out : List D_api_Rest, iter f ((left, ([] : List D_api_Rest), lines, (lines.length : Int), (0 : Int), os.map W, ()) : parcel_Laid_x38) parcel_Laid_b38 = some (Sum.inr (left, out, ())) ∧ out.length ≤ 500 ∧ (∀ x ∈ out, RestOk lines x) ∧ sumR out = sumZ (op9 lines) - sumZ os) ∨
    iter f ((left, ([] : List D_api_Rest), lines, (lines.length : Int), (0 : Int), os.map W, ()) : parcel_Laid_x38) parcel_Laid_b38 = some (Sum.inl ([], [], 1, ())) := by
  have hopl : (op9 lines).length = lines.length := by simp [op9]
  refine iter_post (Inv := fun i X => ∃ out : List D_api_Rest, X = ((left, out, lines, (lines.length : Int), (i : Int), os.map W, ()) : parcel_Laid_x38) ∧ out.length ≤ i ∧ (∀ x ∈ out, RestOk lines x) ∧ sumR out = sumZ ((op9 lines).take i) - sumZ (os.take i)) lines.length
    (fun r => (∃ out : List D_api_Rest, r = some (Sum.inr (left, out, ())) ∧ out.length ≤ 500 ∧ (∀ x ∈ out, RestOk lines x) ∧ sumR out = sumZ (op9 lines) - sumZ os) ∨ r = some (Sum.inl ([], [], 1, ()))) ?_ ?_ f 0 _ ⟨[], rfl, by simp, by simp, by simp [sumR]⟩ (by omega) (by omega)
  · rintro i _ again hi ⟨out, rfl, h2, h3, h4⟩ ih
    unfold parcel_Laid_b38
    dsimp only
    have hy : lines[i]? = some lines[i] := getElem?_of hi
    have hym := List.getElem_mem hi
    generalize lines[i] = y at hy hym
    have hdy := hd y hym
    have hop : (op9 lines)[i]? = some (v9 (opn y)) := by unfold op9; rw [List.getElem?_map, hy]; rfl
    have hol : os.length = lines.length := hlow.1.trans hopl
    have ho : os[i]? = some (os[i]'(by omega)) := getElem?_of (by omega)
    generalize (os[i]'(by omega)) = o at ho
    have hlo := hlow.2 i _ o hop ho
    have hv := amount_Value_eq hdy
    unfold opn at hv
    have hwk : (os.map W)[i]? = some (W o) := by rw [List.getElem?_map, ho]; rfl
    have hwl : (os.map W).length = lines.length := by rw [List.length_map]; omega
    have l1 := v9_Le hdy
    have l2 : Le 24 o := by unfold Le at *; omega
    have l3 : Le 24 (v9 (opn y) - o) := by unfold Le at *; omega
    rw [bif_pos (by omega), idx_nat, hy, Option.bind_some, hv, Option.bind_some, chk_pos (by rw [hwl]; simp only [Bool.and_eq_true, decide_eq_true_eq]; omega), Int.toNat_natCast, hwk, Option.bind_some]
    dsimp only
    rw [show v9 y.2.2.2.2.2.2.2.2.2 = v9 (opn y) from rfl, whole_Int_Less_eq _ _ (l1.w (by omega)) (l2.w (by omega)), Option.bind_some]
    dsimp only
    rw [whole_Int_Sign_eq, Option.bind_some, w64_id (by omega) (by omega)]
    dsimp only
    have t1 := sumZ_take hop
    have t2 := sumZ_take ho
    generalize hz : v9 (opn y) - o = z at *
    by_cases hp : 0 < z
    · rw [bif_pos (by have := Int.sign_eq_one_of_pos hp; omega), parcel_told_eq (l3.mono (by omega)), Option.bind_some]
      by_cases hb : (few 9 z).1.natAbs ≤ 1000000000000000
      · rw [if_pos hb]
        dsimp only
        rw [show ((0 : Int) != 0) = false from rfl, cond_false, chk_pos (chk_app (by omega) (by omega))]
        refine ih _ ⟨out ++ [(y.1, toldD z, y.2.2.2.2.2.1)], rfl, by simp; omega, ?_, ?_⟩
        · intro x hx
          rcases List.mem_append.1 hx with hx | hx
          · exact h3 x hx
          · rw [List.mem_singleton.1 hx]
            refine ⟨toldD_ok hb, y, hym, rfl, ?_⟩
            show v9 (toldD z) ≤ _
            rw [toldD_val]; omega
        · rw [t1, t2, sumR_append]
          have := toldD_val z
          simp only [sumR, this]; omega
      · rw [if_neg hb]; exact .inr rfl
    · rw [bif_neg (by have : z = 0 := by omega
                      subst this; simp)]
      exact ih _ ⟨out, rfl, by omega, h3, by rw [t1, t2]; omega⟩
  · rintro _ again ⟨out, rfl, h2, h3, h4⟩
    unfold parcel_Laid_b38
    dsimp only
    rw [bif_neg (by omega)]
    rw [List.take_of_length_le (by omega), List.take_of_length_le (by have := hlow.1; omega)] at h4
    exact .inl ⟨out, rfl, by omega, h3, h4⟩

end Go.Md

namespace Go.Md
open Go.Dn

/-- What was laid is right. -/
structure LaidOk (items : List D_api_Mass) (lines : List D_api_State) (out : List D_api_Rest) (left : List D_api_Mass) : Prop where
  ilen : items.length ≤ 100
  iok : ∀ y ∈ items, DecOk y.2.2
  llen : lines.length ≤ 500
  lok : ∀ y ∈ lines, DecOk (opn y)
  olen : out.length ≤ 500
  ook : ∀ x ∈ out, RestOk lines x
  rlen : left.length ≤ 100
  rok : ∀ y ∈ left, DecOk y.2.2
  sum : sumG items = sumG left + sumR out

theorem parcel_Laid_eq (items : List D_api_Mass) (lines : List D_api_State) :
    (∃ out left, parcel_Laid items lines = some (out, left, 0, ()) ∧ LaidOk items lines out left) ∨ (∃ f : Int, f ≠ 0 ∧ parcel_Laid items lines = some ([], [], f, ())) := by
  unfold parcel_Laid
  rw [parcel_itemsFault_eq, Option.bind_some]
  dsimp only
  by_cases h1 : itemsF items = 0
  · rw [h1, show ((0 : Int) != 0) = false from rfl, cond_false, parcel_linesFault_eq, Option.bind_some]
    dsimp only
    by_cases h2 : linesSF lines = 0
    · rw [h2, show ((0 : Int) != 0) = false from rfl, cond_false]
      obtain ⟨i1, i2⟩ := itemsF_zero h1
      obtain ⟨l1, l2⟩ := linesSF_zero h2
      rw [chk_pos (by simp only [Bool.and_eq_true, decide_eq_true_eq]; omega), chk_pos (by simp only [Bool.and_eq_true, decide_eq_true_eq]; omega)]
      rw [laid_read items lines l1 (fun y hy => (l2 y hy).1) _ (by omega), joinB_inr]
      dsimp only
      have hcir : ∀ z ∈ cIr lines.length, 0 ≤ z ∧ z < (lines.length : Int) := by
        intro z hz
        unfold cIr cI at hz
        obtain ⟨k, hk, rfl⟩ := List.mem_map.1 hz
        have := List.mem_range.1 hk
        omega
      obtain ⟨order, g1, _, g3⟩ := SP.sortStable_eq (cmpAny lines) (cIr lines.length) (by rw [cIr_len]; omega) hcir
      rw [g1, Option.bind_some]
      dsimp only
      have hord : ∀ x ∈ order, 0 ≤ x ∧ x < (lines.length : Int) := fun x hx => hcir x (g3.mem.1 hx)
      have hol : order.length = lines.length := by rw [g3.length, cIr_len]
      have hopl : (op9 lines).length = lines.length := by simp [op9]
      have hnn : ∀ x ∈ op9 lines, 0 ≤ x := by
        intro x hx
        unfold op9 at hx
        obtain ⟨y, hy, rfl⟩ := List.mem_map.1 hx
        exact Int.mul_nonneg (l2 y hy).2 (Int.pow_nonneg (by omega))
      have hle : ∀ x ∈ op9 lines, Le 24 x := by
        intro x hx
        unfold op9 at hx
        obtain ⟨y, hy, rfl⟩ := List.mem_map.1 hx
        exact v9_Le (l2 y hy).1
      rcases laid_items order items lines hord (by omega) l1 i1 i2 (op9 lines) hopl hnn hle (List.length order + (List.length ([] : List D_api_Mass) + (List.length items + (Int.natAbs ((List.length items : Int)) + (Int.natAbs (0 : Int) + (List.length lines + (List.length ((op9 lines).map W) + 2))))))) (by omega) with ⟨left, os, q1, q2, q3, q4, q5⟩ | q1
      · rw [q1, joinB_inr]
        dsimp only
        rcases laid_out left lines l1 (fun y hy => (l2 y hy).1) os q2 (List.length left + (List.length ([] : List D_api_Rest) + (List.length lines + (Int.natAbs ((List.length lines : Int)) + (Int.natAbs (0 : Int) + (List.length (os.map W) + 2)))))) (by omega) with ⟨out, r1, r2, r3, r4⟩ | r1
        · rw [r1, joinB_inr]
          exact .inl ⟨out, left, rfl, i1, fun y hy => (i2 y hy).1, l1, fun y hy => (l2 y hy).1, r2, r3, q3, q4, by omega⟩
        · rw [r1]; exact .inr ⟨1, by omega, rfl⟩
      · rw [q1]; exact .inr ⟨1, by omega, rfl⟩
    · rw [show (linesSF lines != 0) = true by simpa using h2, cond_true]
      exact .inr ⟨_, h2, rfl⟩
  · rw [show (itemsF items != 0) = true by simpa using h1, cond_true]
    exact .inr ⟨_, h1, rfl⟩

theorem r10_units_eq {d : D_api_Decimal} (h : DecOk d) : r10_units d = some (N (v9 d), ()) := by
  unfold r10_units
  rw [r1_At_eq' d 9 h h.2.2 (by omega)]
  rfl
theorem r10_AtMost_eq {a b : D_api_Decimal} (ha : DecOk a) (hb : DecOk b) : r10_AtMost a b = some (decide (v9 a ≤ v9 b), ()) := by
  unfold r10_AtMost r10_cmp
  rw [r1_At_eq' a 9 ha ha.2.2 (by omega), r1_At_eq' b 9 hb hb.2.2 (by omega), Option.bind_some, Option.bind_some]
  dsimp only
  have h1 := (v9_Le ha).n (by omega); have h2 := (v9_Le hb).n (by omega)
  unfold v9 at *
  rw [r1_Cmp_eq _ _ (by omega) (by omega), Option.bind_some, Option.bind_some]
  congr 2
  generalize a.1 * 10 ^ ((9 : Int) - a.2).toNat = x
  generalize b.1 * 10 ^ ((9 : Int) - b.2).toNat = y
  rcases Int.lt_trichotomy x y with h | h | h
  · rw [Int.sign_eq_neg_one_of_neg (by omega)]; simp; omega
  · subst h; simp
  · rw [Int.sign_eq_one_of_pos (by omega)]; simp; omega

def K24 : Nat := 10 ^ 24
theorem Le.k24 {z : Int} (h : Le 24 z) : z.natAbs ≤ K24 := h
theorem K24_Le {z : Int} (h : z.natAbs ≤ 1000 * K24) : Le 28 z := by
  unfold Le K24 at *; omega
theorem sumR_Le : ∀ (l : List D_api_Rest), (∀ x ∈ l, DecOk x.2.1) → (sumR l).natAbs ≤ l.length * K24
  | [], _ => by simp [sumR]
  | x :: l, h => by
    have h1 := sumR_Le l fun y hy => h y (List.mem_cons_of_mem _ hy)
    have h2 := (v9_Le (h x List.mem_cons_self)).k24
    simp only [sumR, List.length_cons, Nat.add_mul, Nat.one_mul]
    omega
theorem sumG_Le : ∀ (l : List D_api_Mass), (∀ x ∈ l, DecOk x.2.2) → (sumG l).natAbs ≤ l.length * K24
  | [], _ => by simp [sumG]
  | x :: l, h => by
    have h1 := sumG_Le l fun y hy => h y (List.mem_cons_of_mem _ hy)
    have h2 := (v9_Le (h x List.mem_cons_self)).k24
    simp only [sumG, List.length_cons, Nat.add_mul, Nat.one_mul]
    omega
theorem sumR_take {l : List D_api_Rest} {i : Nat} {y : D_api_Rest} (h : l[i]? = some y) : sumR (l.take (i + 1)) = sumR (l.take i) + v9 y.2.1 := by
  rw [List.take_add_one, h, sumR_append]; simp [sumR]

theorem r10_Taken_eq (l : List D_api_Rest) (hl : l.length ≤ 500) (h : ∀ x ∈ l, DecOk x.2.1) : r10_Taken l = some (N (sumR l), ()) := by
  unfold r10_Taken
  have loop : ∀ f, l.length < f → ∃ b1 b2, iter f ((l, (l.length : Int), (0 : Int), false, ([] : List Int), false, ([] : List Int), ()) : r10_Taken_x3) r10_Taken_b3 = some (Sum.inr (b1, b2, (N (sumR l)).1, (N (sumR l)).2, ())) := by
    intro f hf
    refine iter_post (Inv := fun i X => ∃ b1 b2, X = ((l, (l.length : Int), (i : Int), b1, b2, (N (sumR (l.take i))).1, (N (sumR (l.take i))).2, ()) : r10_Taken_x3)) l.length (fun r => ∃ b1 b2, r = some (Sum.inr (b1, b2, (N (sumR l)).1, (N (sumR l)).2, ()))) ?_ ?_ f 0 _ ⟨false, [], rfl⟩ (by omega) (by omega)
    · rintro i _ again hi ⟨b1, b2, rfl⟩ ih
      unfold r10_Taken_b3
      dsimp only
      have hy : l[i]? = some l[i] := getElem?_of hi
      have hyq := h _ (List.getElem_mem hi)
      generalize l[i] = y at hy hyq
      have s1 : (sumR (l.take i)).natAbs ≤ 500 * K24 := by
        have := sumR_Le (l.take i) fun x hx => h x (List.mem_of_mem_take hx)
        have := List.length_take_le i l
        have : (l.take i).length * K24 ≤ 500 * K24 := Nat.mul_le_mul_right _ (by omega)
        omega
      have l1 := K24_Le (show (sumR (l.take i)).natAbs ≤ 1000 * K24 by omega)
      have n1 := l1.n (by omega)
      have n2 := (v9_Le hyq).n (by omega)
      rw [bif_pos (by omega), idx_nat, hy, Option.bind_some, r10_units_eq hyq, Option.bind_some]
      dsimp only
      rw [show ((N (sumR (l.take i))).1, (N (sumR (l.take i))).2) = N (sumR (l.take i)) from rfl, r1_Plus_eq _ _ (by omega) (by omega), Option.bind_some, w64_id (by omega) (by omega), ← sumR_take hy]
      exact ih _ ⟨_, _, rfl⟩
    · rintro _ again ⟨b1, b2, rfl⟩
      unfold r10_Taken_b3
      dsimp only
      rw [bif_neg (by omega), List.take_of_length_le (Nat.le_refl _)]
      exact ⟨_, _, rfl⟩
  obtain ⟨b1, b2, e⟩ := loop (List.length l + (Int.natAbs ((List.length l : Int)) + (Int.natAbs (0 : Int) + (List.length ([] : List Int) + (List.length ([] : List Int) + 2))))) (by omega)
  rw [e, joinB_inr]

theorem r10_SumOf_eq (l : List D_api_Mass) (hl : l.length ≤ 500) (h : ∀ x ∈ l, DecOk x.2.2) : r10_SumOf l = some (N (sumG l), ()) := by
  unfold r10_SumOf
  have loop : ∀ f, l.length < f → ∃ b1 b2, iter f ((l, (l.length : Int), (0 : Int), false, ([] : List Int), false, ([] : List Int), ()) : r10_SumOf_x3) r10_SumOf_b3 = some (Sum.inr (b1, b2, (N (sumG l)).1, (N (sumG l)).2, ())) := by
    intro f hf
    refine iter_post (Inv := fun i X => ∃ b1 b2, X = ((l, (l.length : Int), (i : Int), b1, b2, (N (sumG (l.take i))).1, (N (sumG (l.take i))).2, ()) : r10_SumOf_x3)) l.length (fun r => ∃ b1 b2, r = some (Sum.inr (b1, b2, (N (sumG l)).1, (N (sumG l)).2, ()))) ?_ ?_ f 0 _ ⟨false, [], rfl⟩ (by omega) (by omega)
    · rintro i _ again hi ⟨b1, b2, rfl⟩ ih
      unfold r10_SumOf_b3
      dsimp only
      have hy : l[i]? = some l[i] := getElem?_of hi
      have hyq := h _ (List.getElem_mem hi)
      generalize l[i] = y at hy hyq
      have s1 : (sumG (l.take i)).natAbs ≤ 500 * K24 := by
        have := sumG_Le (l.take i) fun x hx => h x (List.mem_of_mem_take hx)
        have := List.length_take_le i l
        have : (l.take i).length * K24 ≤ 500 * K24 := Nat.mul_le_mul_right _ (by omega)
        omega
      have l1 := K24_Le (show (sumG (l.take i)).natAbs ≤ 1000 * K24 by omega)
      have n1 := l1.n (by omega)
      have n2 := (v9_Le hyq).n (by omega)
      rw [bif_pos (by omega), idx_nat, hy, Option.bind_some, r10_units_eq hyq, Option.bind_some]
      dsimp only
      rw [show ((N (sumG (l.take i))).1, (N (sumG (l.take i))).2) = N (sumG (l.take i)) from rfl, r1_Plus_eq _ _ (by omega) (by omega), Option.bind_some, w64_id (by omega) (by omega), ← sumG_take hy]
      exact ih _ ⟨_, _, rfl⟩
    · rintro _ again ⟨b1, b2, rfl⟩
      unfold r10_SumOf_b3
      dsimp only
      rw [bif_neg (by omega), List.take_of_length_le (Nat.le_refl _)]
      exact ⟨_, _, rfl⟩
  obtain ⟨b1, b2, e⟩ := loop (List.length l + (Int.natAbs ((List.length l : Int)) + (Int.natAbs (0 : Int) + (List.length ([] : List Int) + (List.length ([] : List Int) + 2))))) (by omega)
  rw [e, joinB_inr]

/-- One of the lines is right for what a line got. -/
def fits (y : D_api_Rest) (s : D_api_State) : Bool := s.1 == y.1 && decide (v9 y.2.1 ≤ v9 (opn s))
theorem law_inner (items : List D_api_Mass) (lines : List D_api_State) (out : List D_api_Rest) (left : List D_api_Mass) (h : LaidOk items lines out left) (n i : Int) (y : D_api_Rest) (hy : y ∈ out) (f : Nat) (hf : lines.length < f) :
    iter f ((items, lines, out, left, false, out, n, i, lines, (lines.length : Int), (0 : Int), y.1, y.2.1.1, y.2.1.2, y.2.2, ()) : l10_ParcelLaysAddUp_x9) l10_ParcelLaysAddUp_b9 = some (Sum.inr (items, lines, out, left, true, out, n, i, ())) := by
  refine iter_post (Inv := fun j X => X = ((items, lines, out, left, (lines.take j).any (fits y), out, n, i, lines, (lines.length : Int), (j : Int), y.1, y.2.1.1, y.2.1.2, y.2.2, ()) : l10_ParcelLaysAddUp_x9)) lines.length (fun r => r = some (Sum.inr (items, lines, out, left, true, out, n, i, ()))) ?_ ?_ f 0 _ (by simp) (by omega) (by omega)
  · rintro j _ again hj rfl ih
    unfold l10_ParcelLaysAddUp_b9
    dsimp only
    have hs : lines[j]? = some lines[j] := getElem?_of hj
    have hsm := List.getElem_mem hj
    generalize lines[j] = s at hs hsm
    have hlen := h.llen
    have ht : (lines.take (j + 1)).any (fits y) = ((lines.take j).any (fits y) || fits y s) := by rw [List.take_add_one, hs]; simp
    rw [bif_pos (by omega), idx_nat, hs, Option.bind_some, w64_id (by omega) (by omega)]
    have := ih _ rfl
    rw [ht] at this
    cases ha : (lines.take j).any (fits y) with
    | true => rw [ha, Bool.true_or] at this; exact this
    | false =>
      rw [ha, Bool.false_or] at this
      rw [cond_false]
      by_cases e : s.1 = y.1
      · have hatm := r10_AtMost_eq (h.ook y hy).1 (h.lok s hsm)
        unfold opn at hatm
        rw [show (s.1 == y.1) = true by simpa using e, cond_true, show (y.2.1.1, y.2.1.2) = y.2.1 from rfl, hatm, Option.bind_some]
        unfold fits at this
        rw [show (s.1 == y.1) = true by simpa using e, Bool.true_and] at this
        exact this
      · rw [show (s.1 == y.1) = false by simpa using e, cond_false]
        unfold fits at this
        rw [show (s.1 == y.1) = false by simpa using e, Bool.false_and] at this
        exact this
  · rintro _ again rfl
    unfold l10_ParcelLaysAddUp_b9
    dsimp only
    rw [bif_neg (by omega), List.take_of_length_le (Nat.le_refl _)]
    have : lines.any (fits y) = true := by
      obtain ⟨_, s, h1, h2, h3⟩ := h.ook y hy
      rw [List.any_eq_true]
      exact ⟨s, h1, by simp [fits, h2, h3]⟩
    rw [this]

/-- The plain law. -/
theorem laysAddUp (items : List D_api_Mass) (lines : List D_api_State) : l10_ParcelLaysAddUp items lines = some (true, ()) := by
  unfold l10_ParcelLaysAddUp
  rcases parcel_Laid_eq items lines with ⟨out, left, e, h⟩ | ⟨f, h0, e⟩
  · rw [e, Option.bind_some]
    dsimp only
    rw [show ((0 : Int) != 0) = false from rfl, cond_false]
    have loop : ∀ f, out.length < f → iter f ((items, lines, out, left, out, (out.length : Int), (0 : Int), ()) : l10_ParcelLaysAddUp_x5) l10_ParcelLaysAddUp_b5 = some (Sum.inr (items, out, left, ())) := by
      intro f hf
      refine iter_post (Inv := fun i X => X = ((items, lines, out, left, out, (out.length : Int), (i : Int), ()) : l10_ParcelLaysAddUp_x5)) out.length (fun r => r = some (Sum.inr (items, out, left, ()))) ?_ ?_ f 0 _ rfl (by omega) (by omega)
      · rintro i _ again hi rfl ih
        unfold l10_ParcelLaysAddUp_b5
        dsimp only
        have hy : out[i]? = some out[i] := getElem?_of hi
        have hym := List.getElem_mem hi
        generalize out[i] = y at hy hym
        have := h.olen
        rw [bif_pos (by omega), idx_nat, hy, Option.bind_some, law_inner items lines out left h _ _ y hym _ (by omega), joinB_inr]
        dsimp only
        rw [Bool.not_true, cond_false, w64_id (by omega) (by omega)]
        exact ih _ rfl
      · rintro _ again rfl
        unfold l10_ParcelLaysAddUp_b5
        dsimp only
        rw [bif_neg (by omega)]
    rw [loop _ (by omega), joinB_inr]
    dsimp only
    have b1 : (sumR out).natAbs ≤ 500 * K24 := by
      have := sumR_Le out fun x hx => (h.ook x hx).1
      have := h.olen
      have : out.length * K24 ≤ 500 * K24 := Nat.mul_le_mul_right _ (by omega)
      omega
    have b2 : (sumG left).natAbs ≤ 500 * K24 := by
      have := sumG_Le left h.rok
      have := h.rlen
      have : left.length * K24 ≤ 500 * K24 := Nat.mul_le_mul_right _ (by omega)
      omega
    have b3 := h.sum
    have n1 := (K24_Le (show (sumR out).natAbs ≤ 1000 * K24 by omega)).n (by omega)
    have n2 := (K24_Le (show (sumG left).natAbs ≤ 1000 * K24 by omega)).n (by omega)
    have n3 := (K24_Le (show (sumG items).natAbs ≤ 1000 * K24 by omega)).n (by omega)
    have n4 := (K24_Le (show (sumR out + sumG left).natAbs ≤ 1000 * K24 by omega)).n (by omega)
    rw [r10_Taken_eq out h.olen (fun x hx => (h.ook x hx).1), Option.bind_some, r10_SumOf_eq left (by have := h.rlen; omega) h.rok, Option.bind_some]
    dsimp only
    rw [r1_Plus_eq _ _ (by omega) (by omega), Option.bind_some, r10_SumOf_eq items (by have := h.ilen; omega) h.iok, Option.bind_some]
    dsimp only
    rw [r1_Cmp_eq _ _ (by omega) (by omega), Option.bind_some, show sumR out + sumG left - sumG items = 0 by omega]
    rw [show ((Int.sign 0) == 0) = true from rfl, cond_true, l10_awake_k, Option.bind_some]
  · rw [e, Option.bind_some]
    dsimp only
    rw [show (f != 0) = true by simpa using h0, cond_true]
    rw [show (((List.length ([] : List D_api_Rest) : Nat) : Int) == 0) = true from rfl, cond_true, show (((List.length ([] : List D_api_Mass) : Nat) : Int) == 0) = true from rfl, cond_true, l10_awake_k, Option.bind_some]

end Go.Md
