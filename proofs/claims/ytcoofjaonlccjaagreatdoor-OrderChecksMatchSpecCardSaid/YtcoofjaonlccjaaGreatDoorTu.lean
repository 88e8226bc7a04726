/-
 Plain facts: the lines by their numbers; the plain laws are true of all data. No condition.
-/
import Derived.Test.YtcoofjaonlccjaaGreatDoorTt
import Derived.Test.YtcoofjaonlccjaaGreatDoorTx
set_option linter.all false
namespace Go.Md
open Go.Dn

structure Ids (A : List LineS) : Prop where
 nd : (A.map LineS.no).Nodup
 rg : ∀ x, x ∈ A → 1 ≤ x.no ∧ x.no ≤ 99999
 len : A.length ≤ 500
 ne : A ≠ []

end Go.Md

namespace Go.Md
open Go.Dn

end Go.Md

namespace Go.Md
open Go.Dn

structure Milli (d : D_api_Decimal) (n : Int) : Prop where
 p0 : 0 ≤ d.2
 p3 : d.2 ≤ 3
 val : d.1 * 10 ^ (3 - d.2).toNat = n
 bd : n.natAbs ≤ 2000000000000000

theorem Milli.unit {d : D_api_Decimal} {n : Int} (h : Milli d n) : d.1.natAbs ≤ n.natAbs := by
 have := h.val
 have h1 : (1 : Nat) ≤ 10 ^ (3 - d.2).toNat := Nat.one_le_pow _ _ (by omega)
 rw [← h.val, Int.natAbs_mul, Int.natAbs_pow]
 exact Nat.le_mul_of_pos_right _ h1

theorem Milli.neg {d : D_api_Decimal} {n : Int} (h : Milli d n) : Milli (-d.1, d.2) (-n) := ⟨h.p0, h.p3, by show -d.1 * 10 ^ (3 - d.2).toNat = -n; rw [Int.neg_mul, h.val], by rw [Int.natAbs_neg]; exact h.bd⟩
end Go.Md

namespace Go.Md
open Go.Dn

structure FOk (o : D_api_Order) (l : List D_api_Deed) (x : LineS) : Prop where
 art : isNm x.art = true
 unit : isNm x.unit = true
 pr : inR x.price 0 1000000000 4 = true
 due : oDay o ≤ x.due ∧ x.due ≤ 3652059
 wish : 0 ≤ x.wish → dKind (wishDeed l x) = 3 → oDay o ≤ dUntil (wishDeed l x)
 off : x.ono ≠ 0 → oDay o ≤ x.ount ∧ x.ount ≤ 3652059

def ord0 : D_api_Order := ([], [], [], 0, 0, [])

end Go.Md

namespace Go.Md
open Go.Dn

end Go.Md

namespace Go.Md
open Go.Dn

def d0 : D_api_Deed := (0, 0, 0, 0, 0, [], (0, 0), [], (0, 0), 0, 0)
end Go.Md

set_option linter.all false
namespace Go.Md
open Go.Dn

theorem qf_if' (b : Bool) : ((if b = true then (0 : Int) else 1) != 0) = !b := by cases b <;> rfl
theorem r9_checkLine_eq (o : D_api_Order) (i : Nat) (x : D_api_Line) (hi : (oLns o)[i]? = some x) (hl : (oLns o).length ≤ 500) : r9_checkLine o (i : Int) = some (olineF (oDay o) (prevOf (oLns o) i) x, ()) := by
 have hlt : i < (oLns o).length := (List.getElem?_eq_some_iff.1 hi).1
 unfold r9_checkLine
 rw [idx_get hi, Option.bind_some]
 simp only [r9_within_eq, r1_IsName_eq, r9_checkQuantity_eq, r9_checkPrice_eq, Option.bind_some, qf_if']
 have tail : ∀ (p : Option D_api_Line) (hp : (p.any fun q => decide (x.1 ≤ q.1)) = false) (h1 : 1 ≤ x.1 ∧ x.1 ≤ 99999),
   (bif !isNm x.2.1 then some (5, ()) else bif !qOk x.2.2.1 false then some (1, ()) else bif !isNm x.2.2.2.1 then some (5, ()) else
    bif !inR x.2.2.2.2.1 0 1000000000 4 then some (1, ()) else bif !decide (oDay o ≤ x.2.2.2.2.2 ∧ x.2.2.2.2.2 ≤ 3652059) then some (1, ()) else some (0, ())) = some (olineF (oDay o) p x, ()) := fun p hp h1 => by
  unfold olineF
  rw [if_neg (show ¬¬(1 ≤ x.1 ∧ x.1 ≤ 99999) from fun h => h h1), if_neg (show ¬(p.any fun q => decide (x.1 ≤ q.1)) = true by rw [hp]; exact Bool.false_ne_true)]
  cases isNm x.2.1
  ·rfl
  ·cases qOk x.2.2.1 false
   ·rfl
   ·cases isNm x.2.2.2.1
    ·rfl
    ·cases inR x.2.2.2.2.1 0 1000000000 4
     ·rfl
     ·by_cases hd : oDay o ≤ x.2.2.2.2.2 ∧ x.2.2.2.2.2 ≤ 3652059
      ·simp [hd]
      ·simp [hd]
 by_cases h1 : 1 ≤ x.1 ∧ x.1 ≤ 99999
 ·rw [decide_eq_true h1, Bool.not_true, cond_false]
  cases i with
  | zero =>
   rw [decide_eq_false (show ¬((0 : Nat) : Int) > 0 by omega), cond_false]
   exact tail none rfl h1
  | succ j =>
   have hq : (oLns o)[j]? = some (oLns o)[j] := List.getElem?_eq_getElem (by omega)
   have e : w64 (((j + 1 : Nat) : Int) - 1) = (j : Int) := by rw [w64_id (by omega) (by omega)]; omega
   rw [decide_eq_true (show ((j + 1 : Nat) : Int) > 0 by omega), cond_true, e, idx_get hq, Option.bind_some]
   simp only [prevOf, hq]
   by_cases h2 : x.1 ≤ (oLns o)[j].1
   ·rw [decide_eq_true h2, Option.bind_some]
    have : olineF (oDay o) (some (oLns o)[j]) x = 8 := by
     unfold olineF
     rw [if_neg (show ¬¬(1 ≤ x.1 ∧ x.1 ≤ 99999) from fun h => h h1), if_pos (show (Option.any (fun q => decide (x.1 ≤ q.1)) (some (oLns o)[j])) = true from decide_eq_true h2)]
    rw [this]
    rfl
   ·rw [decide_eq_false h2, Option.bind_some]
    exact tail (some (oLns o)[j]) (by simp [h2]) h1
 ·rw [decide_eq_false h1, Bool.not_false, cond_true]
  unfold olineF
  rw [if_pos h1]

theorem r9_CheckOrder_eq (o : D_api_Order) : r9_CheckOrder o = some (ordF o, ()) := by
 unfold r9_CheckOrder ordF
 simp only [r1_IsName_eq, r1_IsDay_eq, r9_within_eq, Option.bind_some]
 cases h1 : isNm o.1
 ·simp [oNum, h1]
 cases h2 : isNm o.2.1
 ·simp [oNum, oBuy, h1, h2]
 cases h3 : isNm o.2.2.1
 ·simp [oNum, oBuy, oSel, h1, h2, h3]
 rw [if_neg (by simp [oNum, oBuy, oSel, h1, h2, h3])]
 simp only [Bool.not_true, cond_false]
 by_cases h4 : o.2.1 = o.2.2.1
 ·rw [if_pos h4, show (o.2.1 == o.2.2.1) = true by simp [h4], cond_true]
 rw [if_neg h4, show (o.2.1 == o.2.2.1) = false by simp [h4], cond_false]
 by_cases h5 : 1 ≤ o.2.2.2.1 ∧ o.2.2.2.1 ≤ 3652059
 ·rw [if_neg (by simp [oDay, h5]), decide_eq_true h5, Bool.not_true, cond_false]
  by_cases h6 : 0 ≤ o.2.2.2.2.1 ∧ o.2.2.2.2.1 ≤ 1000
  ·rw [if_neg (by simp [oExt, h6]), decide_eq_true h6, Bool.not_true, cond_false]
   by_cases h7 : o.2.2.2.2.2 = []
   ·rw [if_pos h7, h7]; rfl
   ·have h7' : o.2.2.2.2.2.length ≠ 0 := fun e => h7 (List.eq_nil_of_length_eq_zero e)
    rw [if_neg h7, beq_of_ne (show (o.2.2.2.2.2.length : Int) ≠ 0 by omega), cond_false]
    by_cases h8 : 500 < o.2.2.2.2.2.length
    ·rw [if_pos h8, decide_eq_true (by omega), cond_true]
    ·rw [if_neg h8, decide_eq_false (by omega), cond_false]
     have := iter_for (f := r9_CheckOrder_b12) (fun (_ : Unit) (i : Nat) => (((o.2.2.2.2.2.length : Int), (i : Int), o.1, o.2.1, o.2.2.1, o.2.2.2.1, o.2.2.2.2.1, o.2.2.2.2.2, ()) : r9_CheckOrder_x12)) o.2.2.2.2.2
      (fun (_ : Unit) i y k => if olineF (oDay o) (prevOf o.2.2.2.2.2 i) y ≠ 0 then some (Sum.inl (olineF (oDay o) (prevOf o.2.2.2.2.2 i) y, ())) else k ()) (fun _ => some (Sum.inr ()))
      (fun s i y again hy => by
       have hlt : i < o.2.2.2.2.2.length := (List.getElem?_eq_some_iff.1 hy).1
       unfold r9_CheckOrder_b12
       dsimp only
       rw [decide_eq_true (by omega), cond_true]
       have := r9_checkLine_eq o i y hy (by show o.2.2.2.2.2.length ≤ 500; omega)
       rw [show ((o.1, o.2.1, o.2.2.1, o.2.2.2.1, o.2.2.2.2.1, o.2.2.2.2.2) : D_api_Order) = o from rfl, this, Option.bind_some]
       dsimp only
       by_cases hf : olineF (oDay o) (prevOf o.2.2.2.2.2 i) y = 0
       ·rw [if_neg (by simp [hf]), show (olineF (oDay o) (prevOf (oLns o) i) y != 0) = false by simp [hf], cond_false, w64_id (by omega) (by omega)]
        rfl
       ·rw [if_pos hf, show (olineF (oDay o) (prevOf (oLns o) i) y != 0) = true by simp [hf], cond_true]) (fun s again => by
       unfold r9_CheckOrder_b12
       dsimp only
       rw [decide_eq_false (show ¬((o.2.2.2.2.2.length : Int) < (o.2.2.2.2.2.length : Int)) by omega)]; rfl) ()
     refine (congrArg (fun z => joinB (β := (Int × Unit)) (γ := Unit) z fun _ => some (0, ())) (this _ (by omega))).trans ?_
     have e := olinesGo_forL o.2.2.2.2.2 (oDay o) o.2.2.2.2.2 0 () rfl
     change forL _ _ _ 0 () = _ at e
     refine (congrArg (fun z => joinB (β := (Int × Unit)) (γ := Unit) z fun _ => some (0, ())) e).trans ?_
     simp only [prevOf]
     by_cases h : olinesGo (oDay o) o.2.2.2.2.2 none = 0
     ·rw [fres_zero h, h]; rfl
     ·rw [fres_ne h]; rfl
  ·rw [if_pos h6, decide_eq_false h6]; rfl
 ·rw [if_pos h5, decide_eq_false h5]; rfl

/-! ### merging -/

def posR (d : D_api_Deed) : List D_api_Deed → Nat
 | [] => 0
 | x :: r => if dCw d x < 0 then posR d r else r.length + 1
theorem posR_le (d : D_api_Deed) : ∀ r, posR d r ≤ r.length
 | [] => Nat.le_refl _
 | x :: r => by
  simp only [posR, List.length_cons]
  have := posR_le d r
  split <;> omega
theorem insR_pos (d : D_api_Deed) : ∀ r, (insR d r).reverse = r.reverse.take (posR d r) ++ ([d] ++ r.reverse.drop (posR d r))
 | [] => rfl
 | x :: r => by
  have hp := posR_le d r
  simp only [insR, posR]
  split
  ·rw [List.reverse_cons, insR_pos d r, List.reverse_cons, List.take_append_of_le_length (by simpa using hp), List.drop_append_of_le_length (by simpa using hp)]
   simp
  ·rw [List.reverse_cons, List.take_of_length_le (by simp), List.drop_of_length_le (by simp)]
   simp

theorem insF_pos (d : D_api_Deed) (out : List D_api_Deed) : insF d out = out.take (posR d out.reverse) ++ ([d] ++ out.drop (posR d out.reverse)) := by
 have := insR_pos d out.reverse
 rw [List.reverse_reverse] at this
 exact this

section merge
variable (x y : List D_api_Deed) (hx : x.length ≤ 2000) (hy : y.length ≤ 2000)

theorem merge_same (out : List D_api_Deed) (j : Nat) (d : D_api_Deed) (hx : x.length ≤ 2000) : ∀ (r : List D_api_Deed) (i n : Nat) (b : Bool), x.drop i = r → i ≤ x.length → r.length < n →
  iter (X := r9_MergeDeeds_x13) (β := r9_MergeDeeds_r13) n (x, out, b, y, (y.length : Int), (j : Int), x, (x.length : Int), (i : Int), d.1, d.2.1, d.2.2.1, d.2.2.2.1, d.2.2.2.2.1, d.2.2.2.2.2.1, d.2.2.2.2.2.2.1.1, d.2.2.2.2.2.2.1.2, d.2.2.2.2.2.2.2.1, d.2.2.2.2.2.2.2.2.1.1, d.2.2.2.2.2.2.2.2.1.2, d.2.2.2.2.2.2.2.2.2.1, d.2.2.2.2.2.2.2.2.2.2, ()) r9_MergeDeeds_b13 =
   if clashK r d = true then some (Sum.inl (Sum.inl ([], 12, ()))) else some (Sum.inr (x, out, b || hasK r d, y, (y.length : Int), (j : Int), d.1, d.2.1, d.2.2.1, d.2.2.2.1, d.2.2.2.2.1, d.2.2.2.2.2.1, d.2.2.2.2.2.2.1.1, d.2.2.2.2.2.2.1.2, d.2.2.2.2.2.2.2.1, d.2.2.2.2.2.2.2.2.1.1, d.2.2.2.2.2.2.2.2.1.2, d.2.2.2.2.2.2.2.2.2.1, d.2.2.2.2.2.2.2.2.2.2, ())) := by
 intro r
 induction r with
 | nil =>
  intro i n b hd hi hn
  have : i = x.length := by
   have := congrArg List.length hd
   simp at this; omega
  subst this
  obtain ⟨n, rfl⟩ : ∃ m, n = m + 1 := ⟨n - 1, by omega⟩
  rw [iter_succ, if_neg (show ¬clashK [] d = true by simp [clashK])]
  unfold r9_MergeDeeds_b13
  dsimp only
  rw [decide_eq_false (show ¬((x.length : Int) < (x.length : Int)) by omega), cond_false, show hasK [] d = false from rfl, Bool.or_false]
 | cons e r ih =>
  intro i n b hdr hi hn
  have he : x[i]? = some e := by
   have := congrArg (·[0]?) hdr
   simpa [List.getElem?_drop] using this
  have hr' : x.drop (i + 1) = r := by
   have := congrArg List.tail hdr
   simpa [List.tail_drop] using this
  have hlt : i < x.length := (List.getElem?_eq_some_iff.1 he).1
  obtain ⟨n, rfl⟩ : ∃ m, n = m + 1 := ⟨n - 1, by simp at hn; omega⟩
  have hi1 : (i : Int) + 1 = ((i + 1 : Nat) : Int) := by omega
  rw [iter_succ]
  generalize hag : (fun y => iter n y r9_MergeDeeds_b13) = again
  unfold r9_MergeDeeds_b13
  dsimp only
  rw [decide_eq_true (show (i : Int) < (x.length : Int) by omega), cond_true, idx_get he, Option.bind_some, bAnd, Option.bind_some, w64_id (n := (i : Int) + 1) (by omega) (by omega), hi1, ← hag]
  dsimp only
  have hc : clashK (e :: r) d = ((((e.2.1 == d.2.1) && (e.2.2.1 == d.2.2.1)) && !deq e d) || clashK r d) := rfl
  have hh : hasK (e :: r) d = (((e.2.1 == d.2.1) && (e.2.2.1 == d.2.2.1)) || hasK r d) := rfl
  rw [hc, hh]
  cases hk : ((e.2.1 == d.2.1) && (e.2.2.1 == d.2.2.1))
  ·rw [cond_false, Bool.false_and, Bool.false_or, Bool.false_or]
   exact ih (i + 1) n b hr' (by omega) (by simp at hn; omega)
  ·rw [cond_true, Bool.true_and, Bool.true_or, Bool.or_true]
   show (bif !deq e d then _ else _) = _
   cases hq : deq e d
   ·rw [Bool.not_false, cond_true, Bool.true_or, if_pos rfl]; rfl
   ·rw [Bool.not_true, cond_false, Bool.false_or]
    have := ih (i + 1) n true hr' (by omega) (by simp at hn; omega)
    rw [Bool.true_or] at this
    exact this

theorem merge_place (out : List D_api_Deed) (b : Bool) (j : Nat) (d : D_api_Deed) (ho : out.length ≤ 4000) : ∀ (r : List D_api_Deed) (n : Nat), r.length ≤ out.length → out.take r.length = r.reverse → r.length < n →
  iter (X := r9_MergeDeeds_x21) (β := r9_MergeDeeds_r21) n (x, out, b, (r.length : Int), y, (y.length : Int), (j : Int), d.1, d.2.1, d.2.2.1, d.2.2.2.1, d.2.2.2.2.1, d.2.2.2.2.2.1, d.2.2.2.2.2.2.1.1, d.2.2.2.2.2.2.1.2, d.2.2.2.2.2.2.2.1, d.2.2.2.2.2.2.2.2.1.1, d.2.2.2.2.2.2.2.2.1.2, d.2.2.2.2.2.2.2.2.2.1, d.2.2.2.2.2.2.2.2.2.2, ()) r9_MergeDeeds_b21 =
   some (Sum.inr (x, out, b, (posR d r : Int), y, (y.length : Int), (j : Int), d.1, d.2.1, d.2.2.1, d.2.2.2.1, d.2.2.2.2.1, d.2.2.2.2.2.1, d.2.2.2.2.2.2.1.1, d.2.2.2.2.2.2.1.2, d.2.2.2.2.2.2.2.1, d.2.2.2.2.2.2.2.2.1.1, d.2.2.2.2.2.2.2.2.1.2, d.2.2.2.2.2.2.2.2.2.1, d.2.2.2.2.2.2.2.2.2.2, ())) := by
 intro r
 induction r with
 | nil =>
  intro n _ _ hn
  obtain ⟨n, rfl⟩ : ∃ m, n = m + 1 := ⟨n - 1, by omega⟩
  rw [iter_succ]
  unfold r9_MergeDeeds_b21
  rfl
 | cons e r ih =>
  intro n hl ht hn
  rw [List.length_cons] at hl hn ht
  obtain ⟨n, rfl⟩ : ∃ m, n = m + 1 := ⟨n - 1, by omega⟩
  rw [iter_succ]
  generalize hag : (fun y => iter n y r9_MergeDeeds_b21) = again
  have he : out[r.length]? = some e := by
   have := congrArg (·[r.length]?) ht
   simpa [List.getElem?_append_right] using this
  have ht' : out.take r.length = r.reverse := by
   have := congrArg (List.take r.length) ht
   have h2 : (r.reverse ++ [e]).take r.length = r.reverse := by
    rw [show r.length = r.reverse.length by simp, List.take_left]
   rw [List.take_take, Nat.min_eq_left (by omega), List.reverse_cons, h2] at this
   exact this
  unfold r9_MergeDeeds_b21
  dsimp only
  rw [List.length_cons, decide_eq_true (show ((r.length + 1 : Nat) : Int) > 0 by omega), cond_true, w64_id (n := ((r.length + 1 : Nat) : Int) - 1) (by omega) (by omega), show ((r.length + 1 : Nat) : Int) - 1 = (r.length : Int) by omega,
   chk_true' (by rw [Bool.and_eq_true]; exact ⟨decide_eq_true (by omega), decide_eq_true (by omega)⟩), Int.toNat_natCast, he, Option.bind_some, r9_deedOrder_eq, Option.bind_some, Option.bind_some]
  dsimp only
  simp only [posR]
  by_cases h : dCw d e < 0
  ·rw [if_pos h, show decide (dCw (d.1, d.2.1, d.2.2.1, d.2.2.2.1, d.2.2.2.2.1, d.2.2.2.2.2.1, (d.2.2.2.2.2.2.1.1, d.2.2.2.2.2.2.1.2), d.2.2.2.2.2.2.2.1, (d.2.2.2.2.2.2.2.2.1.1, d.2.2.2.2.2.2.2.2.1.2), d.2.2.2.2.2.2.2.2.2.1, d.2.2.2.2.2.2.2.2.2.2) e < 0) = true from decide_eq_true h, cond_true, ← hag]
   exact ih n (by omega) ht' (by omega)
  ·rw [if_neg h, show decide (dCw (d.1, d.2.1, d.2.2.1, d.2.2.2.1, d.2.2.2.2.1, d.2.2.2.2.2.1, (d.2.2.2.2.2.2.1.1, d.2.2.2.2.2.2.1.2), d.2.2.2.2.2.2.2.1, (d.2.2.2.2.2.2.2.2.1.1, d.2.2.2.2.2.2.2.2.1.2), d.2.2.2.2.2.2.2.2.2.1, d.2.2.2.2.2.2.2.2.2.2) e < 0) = false from decide_eq_false h, cond_false]

theorem insF_len (d : D_api_Deed) (out : List D_api_Deed) : (insF d out).length = out.length + 1 := by
 unfold insF
 rw [List.length_reverse, (insR_perm d out.reverse).length_eq]; simp

theorem merge_all (hx : x.length ≤ 2000) (hy : y.length ≤ 2000) : ∀ (r : List D_api_Deed) (j n : Nat) (out : List D_api_Deed), y.drop j = r → j ≤ y.length → out.length ≤ 2000 + j → r.length < n →
  iter (X := r9_MergeDeeds_x9) (β := r9_MergeDeeds_r9) n (x, out, y, (y.length : Int), (j : Int), ()) r9_MergeDeeds_b9 =
   if (r.any fun d => clashK x d) = true then some (Sum.inl ([], 12, ())) else some (Sum.inr (refOut x r out, ())) := by
 intro r
 induction r with
 | nil =>
  intro j n out hd hj ho hn
  have : j = y.length := by
   have := congrArg List.length hd
   simp at this; omega
  subst this
  obtain ⟨n, rfl⟩ : ∃ m, n = m + 1 := ⟨n - 1, by omega⟩
  rw [iter_succ, if_neg (by simp)]
  unfold r9_MergeDeeds_b9
  dsimp only
  rw [decide_eq_false (show ¬((y.length : Int) < (y.length : Int)) by omega), cond_false]
  rfl
 | cons d r ih =>
  intro j n out hdr hj ho hn
  have hd : y[j]? = some d := by
   have := congrArg (·[0]?) hdr
   simpa [List.getElem?_drop] using this
  have hr' : y.drop (j + 1) = r := by
   have := congrArg List.tail hdr
   simpa [List.tail_drop] using this
  have hlt : j < y.length := (List.getElem?_eq_some_iff.1 hd).1
  obtain ⟨n, rfl⟩ : ∃ m, n = m + 1 := ⟨n - 1, by simp at hn; omega⟩
  have hj1 : (j : Int) + 1 = ((j + 1 : Nat) : Int) := by omega
  rw [iter_succ]
  generalize hag : (fun y => iter n y r9_MergeDeeds_b9) = again
  unfold r9_MergeDeeds_b9
  dsimp only
  rw [decide_eq_true (show (j : Int) < (y.length : Int) by omega), cond_true, idx_get hd, Option.bind_some]
  have hs := fun n hn => merge_same x y out j d hx x 0 n false rfl (Nat.zero_le _) hn
  rw [show ((0 : Nat) : Int) = 0 from rfl] at hs
  rw [hs]
  rotate_left
  ·refine Nat.lt_add_of_pos_right ?_
   repeat' (first | with_reducible exact Nat.zero_lt_two | with_reducible apply Nat.add_pos_right)
  rw [List.any_cons]
  by_cases hc : clashK x d = true
  ·rw [if_pos hc, hc, Bool.true_or, if_pos rfl]; rfl
  rw [if_neg hc, Bool.eq_false_iff.2 hc, Bool.false_or, Bool.false_or, joinB_inr]
  dsimp only
  have hp := fun n hn => merge_place x y out (hasK x d) j d (by omega) out.reverse n (by simp) (by simp) hn
  rw [List.length_reverse] at hp
  rw [hp]
  rotate_left
  ·refine Nat.lt_add_left _ (Nat.lt_add_of_pos_right ?_)
   repeat' (first | with_reducible exact Nat.zero_lt_two | with_reducible apply Nat.add_pos_right)
  rw [joinB_inr]
  dsimp only
  rw [w64_id (n := (j : Int) + 1) (by omega) (by omega), hj1, ← hag]
  have hpl := posR_le d out.reverse
  rw [List.length_reverse] at hpl
  cases hk : hasK x d
  ·rw [Bool.not_false, cond_true]
   have hins : slices_Insert_api_Deed out (posR d out.reverse : Int) [d] = some (insF d out, ()) := by
    show (bif _ then _ else _) = _
    rw [show (decide (0 ≤ ((posR d out.reverse : Nat) : Int)) && (decide (((posR d out.reverse : Nat) : Int) ≤ (out.length : Int)) && (decide (0 < [d].length) && (decide ((out.length + [d].length) * 120 ≤ 140737488355328) && decide (out.length + [d].length ≤ 4611686018427387904))))) = true by
     simp only [Bool.and_eq_true, decide_eq_true_eq, List.length_singleton]; omega, cond_true, Int.toNat_natCast, insF_pos]
   have e : refOut x (d :: r) out = refOut x r (insF d out) := by unfold refOut; rw [List.foldl_cons, if_neg (by rw [hk]; nofun)]
   rw [e]
   refine (congrArg (fun z => Option.bind z _) hins).trans ?_
   rw [Option.bind_some]
   exact ih (j + 1) n (insF d out) hr' (by omega) (by rw [insF_len]; omega) (by simp at hn; omega)
  ·rw [Bool.not_true, cond_false]
   have e : refOut x (d :: r) out = refOut x r out := by unfold refOut; rw [List.foldl_cons, if_pos hk]
   rw [e]
   exact ih (j + 1) n out hr' (by omega) (by omega) (by simp at hn; omega)

theorem refOut_mem : ∀ (y out : List D_api_Deed) (e : D_api_Deed), e ∈ refOut x y out → e ∈ out ∨ e ∈ y
 | [], out, e, h => .inl h
 | d :: y, out, e, h => by
  have hu : refOut x (d :: y) out = refOut x y (if hasK x d = true then out else insF d out) := rfl
  rw [hu] at h
  rcases refOut_mem y _ e h with h | h
  ·split at h
   ·exact .inl h
   ·rcases insF_mem.1 h with rfl | h
    ·exact .inr (by simp)
    ·exact .inl h
  ·exact .inr (by simp [h])

theorem r9_MergeDeeds_eq (hx : deedsF x = 0) (hy : deedsF y = 0) (tx : ∀ d, d ∈ x → Txt d) (ty : ∀ d, d ∈ y → Txt d) : r9_MergeDeeds x y = some ((mergeF x y).1, (mergeF x y).2, ()) := by
 obtain ⟨x1, x2⟩ := deedsF_zero hx
 obtain ⟨y1, y2⟩ := deedsF_zero hy
 rw [← refMerge_eq hx hy]
 unfold r9_MergeDeeds refMerge
 rw [r9_CheckDeeds_eq x tx, Option.bind_some]
 dsimp only
 rw [hx, show ((0 : Int) != 0) = false from rfl, cond_false, r9_CheckDeeds_eq y ty, Option.bind_some]
 dsimp only
 rw [hy, show ((0 : Int) != 0) = false from rfl, cond_false, slices_Clone_Deed_eq x x1, Option.bind_some]
 dsimp only
 have hm := fun n hn => merge_all x y x1 y1 y 0 n x rfl (Nat.zero_le _) (by omega) hn
 rw [show ((0 : Nat) : Int) = 0 from rfl] at hm
 rw [hm _ (by omega)]
 by_cases hc : (y.any fun d => clashK x d) = true
 ·rw [if_pos hc, if_pos hc]; rfl
 rw [if_neg hc, if_neg hc, joinB_inr]
 dsimp only
 rw [r9_CheckDeeds_eq _ (fun d hd => by
  rcases refOut_mem x y x d hd with h | h
  ·exact tx d h
  ·exact ty d h), Option.bind_some]
 dsimp only
 by_cases h : deedsF (refOut x y x) = 0
 ·rw [if_neg (fun e => e h), h]; rfl
 ·rw [if_pos h, bne_of_ne h, cond_true]

theorem order_MergeDeeds_err (h : deedsF x ≠ 0 ∨ deedsF y ≠ 0) : order_MergeDeeds x y = some ([], (if deedsF x ≠ 0 then deedsF x else deedsF y), ()) := by
 unfold order_MergeDeeds
 have l1 : ∀ n, 2 < n → iter (X := order_MergeDeeds_x2) (β := order_MergeDeeds_r2) n (x, y, (2 : Int), 0, [x, y], ()) order_MergeDeeds_b2 = some (Sum.inl ([], (if deedsF x ≠ 0 then deedsF x else deedsF y), ())) := by
  intro n hn
  obtain ⟨n, rfl⟩ : ∃ m, n = m + 3 := ⟨n - 3, by omega⟩
  rw [iter_succ]
  unfold order_MergeDeeds_b2
  dsimp only
  rw [show decide ((0 : Int) < 2) = true from rfl, cond_true, chk_true' (by simp), show [x, y][Int.toNat 0]? = some x from rfl, Option.bind_some, order_CheckDeeds_eq, Option.bind_some]
  dsimp only
  by_cases hx : deedsF x = 0
  ·rw [hx, show ((0 : Int) != 0) = false from rfl, cond_false, show w64 ((0 : Int) + 1) = 1 from rfl]
   have hy : deedsF y ≠ 0 := by rcases h with h | h; exact absurd hx h; exact h
   rw [iter_succ]
   dsimp only
   rw [show decide ((1 : Int) < 2) = true from rfl, cond_true, chk_true' (by simp), show [x, y][Int.toNat 1]? = some y from rfl, Option.bind_some, order_CheckDeeds_eq, Option.bind_some]
   dsimp only
   rw [bne_of_ne hy, cond_true, if_neg (fun e => e rfl)]
  ·rw [bne_of_ne hx, cond_true, if_pos hx]
 have e1 := l1 (List.length x + (List.length y + (Int.natAbs ((List.length [x, y] : Int)) + (Int.natAbs (0 : Int) + (List.length ([x, y] : List (List D_api_Deed)) + 2))))) (by simp; omega)
 exact (congrArg (fun z => joinB z _) e1).trans rfl

theorem r9_MergeDeeds_err (h : deedsF x ≠ 0 ∨ deedsF y ≠ 0) (tx : ∀ d, d ∈ x → Txt d) (ty : ∀ d, d ∈ y → Txt d) : r9_MergeDeeds x y = some ([], (if deedsF x ≠ 0 then deedsF x else deedsF y), ()) := by
 unfold r9_MergeDeeds
 rw [r9_CheckDeeds_eq x tx, Option.bind_some]
 dsimp only
 by_cases hx : deedsF x = 0
 ·have hy : deedsF y ≠ 0 := by rcases h with h | h; exact absurd hx h; exact h
  rw [hx, show ((0 : Int) != 0) = false from rfl, cond_false, r9_CheckDeeds_eq y ty, Option.bind_some]
  dsimp only
  rw [bne_of_ne hy, cond_true, if_neg (fun e => e rfl)]
 ·rw [bne_of_ne hx, cond_true, if_pos hx]

end merge

theorem mergeF_len (x y : List D_api_Deed) : (mergeF x y).1.length ≤ 2000 := by
 unfold mergeF
 split
 ·simp
 ·split
  ·simp
  ·rename_i k _ h
   exact (deedsF_zero (Classical.not_not.1 h)).1

theorem law_OrderChecksMatchSpec (o : D_api_Order) (x y : List D_api_Deed) (tx : ∀ d, d ∈ x → Txt d) (ty : ∀ d, d ∈ y → Txt d) : l9_OrderChecksMatchSpec o x y = some (true, ()) := by
 have fin : ∀ (m : List D_api_Deed) (f : Int), m.length ≤ 2000 → order_MergeDeeds x y = some (m, f, ()) → r9_MergeDeeds x y = some (m, f, ()) → l9_OrderChecksMatchSpec o x y = some (true, ()) := fun m f hm e1 e2 => by
  unfold l9_OrderChecksMatchSpec
  rw [e1, e2, Option.bind_some, Option.bind_some, order_CheckOrder_eq, r9_CheckOrder_eq, Option.bind_some, Option.bind_some]
  dsimp only
  rw [show (ordF o == ordF o) = true by simp, cond_true, order_CheckDeeds_eq, r9_CheckDeeds_eq x tx, Option.bind_some, Option.bind_some]
  dsimp only
  rw [show (deedsF x == deedsF x) = true by simp, cond_true, show (f == f) = true by simp, cond_true, slices_Equal_Deed_self m hm, Option.bind_some]
  dsimp only
  rw [cond_true, awake9]
  rfl
 by_cases hx : deedsF x = 0
 ·by_cases hy : deedsF y = 0
  ·exact fin _ _ (mergeF_len x y) (order_MergeDeeds_eq hx hy) (r9_MergeDeeds_eq x y hx hy tx ty)
  ·exact fin _ _ (by simp) (order_MergeDeeds_err x y (.inr hy)) (r9_MergeDeeds_err x y (.inr hy) tx ty)
 ·exact fin _ _ (by simp) (order_MergeDeeds_err x y (.inl hx)) (r9_MergeDeeds_err x y (.inl hx) tx ty)

end Go.Md
