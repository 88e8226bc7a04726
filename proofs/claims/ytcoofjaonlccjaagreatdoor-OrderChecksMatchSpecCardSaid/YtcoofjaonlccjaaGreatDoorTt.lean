/-
 Plain facts: deeds, followed one behind the other. No condition.
-/
import Derived.Test.YtcoofjaonlccjaaGreatDoorTs
import Derived.Test.YtcoofjaonlccjaaGreatDoorTq
import Derived.Test.YtcoofjaonlccjaaGreatDoorTo
set_option linter.all false
namespace Go.Md
open Go.Dn

theorem take_succ' {α : Type} {l : List α} {i : Nat} {y : α} (h : l[i]? = some y) : l.take (i + 1) = l.take i ++ [y] := by
 rw [List.take_add_one, h]; rfl

def toldQ (n : Int) : D_api_Decimal := ((few 3 n).1, ((few 3 n).2 : Int))
def leastZ (d : D_api_Decimal) : D_api_Decimal := ((few d.2.toNat d.1).1, ((few d.2.toNat d.1).2 : Int))
def stateZ (x : LineS) : D_api_State := (x.no, x.art, x.unit, toldQ x.ord, leastZ x.price, x.due, toldQ x.shp, toldQ x.rcv, toldQ x.ret, toldQ x.opn)
def PrOk (x : LineS) : Prop := 0 ≤ x.price.1 ∧ x.price.1 ≤ 1000000000000000 ∧ 0 ≤ x.price.2 ∧ x.price.2 ≤ 9
end Go.Md

namespace Go.Md
open Go.Dn

structure Good (l : List D_api_Deed) (A : List LineS) : Prop where
 sound : Sound l A
 pr : ∀ x, x ∈ A → PrOk x

def lineL (n : Int) (A : List LineS) : Option LineS := (findL n A).bind fun k => A[k]?
theorem chk_true' {β : Type} {b : Bool} (h : b = true) (x : Option β) : chk b x = x := by rw [h]; rfl

end Go.Md

namespace Go.Md
open Go.Dn
theorem awake9 : l9_awake = some (true, ()) := by kernel_rfl
end Go.Md

namespace Go.Md
open Go.Dn

structure Pts (l : List D_api_Deed) (wt : Int) (n : Nat) (A : List LineS) (pts : List D_api_Point) : Prop where
 pt : ∀ (j : Nat) (p : D_api_Point), pts[j]? = some p → 0 ≤ p.1 ∧ p.1 < n ∧ (∃ d, idx l p.1 = some d ∧ dLine d = wt) ∧ ∀ q, 0 < j → pts[j - 1]? = some q → q.1 < p.1
 last : ∀ p, pts.getLast? = some p → ∃ x, lineL wt A = some x ∧ p.2 = stateZ x

end Go.Md

namespace Go.Md
open Go.Dn

theorem slices_Clone_Deed_eq (l : List D_api_Deed) (hl : l.length ≤ 2000) : slices_Clone_api_Deed l = some (l, ()) := by
 have hmax : maxLen = 9223372036854775807 := rfl
 have hc : (decide ((0 + (List.length l)) * 120 ≤ 140737488355328) && decide (0 + (List.length l) ≤ maxLen)) = true := by
  rw [Bool.and_eq_true]; exact ⟨decide_eq_true (by omega), decide_eq_true (by omega)⟩
 unfold slices_Clone_api_Deed
 rw [chk_true' hc]
 cases l with
 | nil => simp [both]
 | cons x r => rfl

theorem slices_Equal_Deed_self (l : List D_api_Deed) (hl : l.length ≤ 2000) : slices_Equal_api_Deed l l = some (true, ()) := by
 unfold slices_Equal_api_Deed
 rw [show ((l.length : Int) != (l.length : Int)) = false by simp, cond_false]
 have : ∀ n, l.length < n → iter (X := slices_Equal_api_Deed_x4) (β := slices_Equal_api_Deed_r4) n (l, l, (l.length : Int), 0, ()) slices_Equal_api_Deed_b4 = some (Sum.inr ()) := by
  intro n hn
  refine iter_post (Inv := fun i X => X = ((l, l, (l.length : Int), (i : Int), ()) : slices_Equal_api_Deed_x4)) l.length (fun z => z = some (Sum.inr ())) ?_ ?_ n 0 _ rfl (Nat.zero_le _) (by omega)
  ·rintro i X again hi rfl hag
   unfold slices_Equal_api_Deed_b4
   dsimp only
   obtain ⟨y, hy⟩ : ∃ y, l[i]? = some y := ⟨l[i], List.getElem?_eq_getElem hi⟩
   rw [decide_eq_true (show (i : Int) < (l.length : Int) by omega), cond_true, idx_get hy, Option.bind_some, Option.bind_some, w64_id (n := (i : Int) + 1) (by omega) (by omega)]
   simp only [beq_self_eq_true, Bool.and_self, Bool.not_true, cond_false]
   exact hag _ rfl
  ·rintro X again rfl
   unfold slices_Equal_api_Deed_b4
   dsimp only
   rw [decide_eq_false (show ¬(l.length : Int) < (l.length : Int) by omega), cond_false]
 rw [this _ (by omega)]
 rfl
end Go.Md

namespace Go.Md
open Go.Dn

theorem r9_within_eq (a b c : Int) : r9_within a b c = some (decide (b ≤ a ∧ a ≤ c), ()) := by
 unfold r9_within
 by_cases h : b ≤ a
 ·rw [bif_pos h]; simp [h]
 ·rw [bif_neg h]; simp [h]
theorem r9_cmp_eq {a b : D_api_Decimal} (ha : DecOk a) (hb : DecOk b) : r9_cmp a b = some ((dec9 a - dec9 b).sign, ()) := r11_cmp_eq ha hb

theorem big_dec : DecOk ((1000000000, 0) : D_api_Decimal) ∧ dec9 ((1000000000, 0) : D_api_Decimal) = 1000000000 * 10 ^ 9 := ⟨⟨by decide, by decide, by decide⟩, by simp [dec9]⟩
theorem inR_dec {d : D_api_Decimal} (hd : DecOk d) (pl : Int) : inR d 0 1000000000 pl = (!decide (d.1 < 0) && (!decide ((dec9 d - 1000000000 * 10 ^ 9).sign > 0) && !decide (d.2 > pl))) := by
 have h1 : (dec9 d - 1000000000 * 10 ^ 9).sign > 0 ↔ ¬d.1 ≤ 1000000000 * 10 ^ d.2.toNat := by
  rw [← dec9_le hd.2.1 hd.2.2, gt_iff_lt, Int.sign_pos_iff]
  omega
 unfold inR
 rw [Bool.eq_iff_iff]
 simp only [decide_eq_true_eq, Bool.and_eq_true, Bool.not_eq_true', decide_eq_false_iff_not]
 rw [h1]
 constructor
 ·rintro ⟨_, h2, h3, h4⟩; exact ⟨by omega, fun h => h h4, by omega⟩
 ·rintro ⟨h2, h3, h4⟩; exact ⟨hd, by omega, by omega, Classical.not_not.1 h3⟩
theorem inR_not {d : D_api_Decimal} (hd : ¬DecOk d) (a b pl : Int) : inR d a b pl = false := decide_eq_false (fun h => hd h.1)

theorem r9_checkQuantity_eq (d : D_api_Decimal) (z : Bool) : r9_checkQuantity d z = some (if qOk d z = true then 0 else 1, ()) := by
 unfold r9_checkQuantity qOk r9_whole
 simp only [Option.bind_some]
 rw [r1_CheckDecimal_eq', Option.bind_some]
 by_cases hd : DecOk d
 ·rw [if_pos hd, inR_dec hd 3, r9_cmp_eq hd big_dec.1, big_dec.2]
  generalize decide (d.1 < 0) = b1
  generalize (dec9 d - 1000000000 * 10 ^ 9).sign = sg
  generalize decide (d.2 > 3) = b3
  generalize (d.1 == 0) = b4
  simp only [Option.bind_some]
  generalize decide (sg > 0) = b2
  cases b1 <;> cases b4 <;> cases z <;> cases b2 <;> cases b3 <;> rfl
 ·rw [if_neg hd, inR_not hd]
  rfl
theorem r9_checkPrice_eq (d : D_api_Decimal) : r9_checkPrice d = some (if inR d 0 1000000000 4 = true then 0 else 1, ()) := by
 unfold r9_checkPrice r9_whole
 simp only [Option.bind_some]
 rw [r1_CheckDecimal_eq', Option.bind_some]
 by_cases hd : DecOk d
 ·rw [if_pos hd, inR_dec hd 4, r9_cmp_eq hd big_dec.1, big_dec.2]
  generalize decide (d.1 < 0) = b1
  generalize (dec9 d - 1000000000 * 10 ^ 9).sign = sg
  generalize decide (d.2 > 4) = b3
  simp only [Option.bind_some]
  generalize decide (sg > 0) = b2
  cases b1 <;> cases b2 <;> cases b3 <;> rfl
 ·rw [if_neg hd, inR_not hd]
  rfl

theorem r9_usesOf_eq {k : Int} (hk : 1 ≤ k ∧ k ≤ 11) : r9_usesOf k = some ((usQ k, usP k, usU k, usA k, usT k), ()) := by
 have : k = 1 ∨ k = 2 ∨ k = 3 ∨ k = 4 ∨ k = 5 ∨ k = 6 ∨ k = 7 ∨ k = 8 ∨ k = 9 ∨ k = 10 ∨ k = 11 := by omega
 rcases this with rfl | rfl | rfl | rfl | rfl | rfl | rfl | rfl | rfl | rfl | rfl <;> rfl

theorem bAnd (a b : Bool) : (bif a then some (b, ()) else some (false, ())) = some (a && b, ()) := by cases a <;> rfl
theorem bOr (a b : Bool) : (bif a then some (true, ()) else some (b, ())) = some (a || b, ()) := by cases a <;> rfl
theorem bAO (a b x : Bool) : (bif a then some (b || x, ()) else some (x, ())) = some (a && b || x, ()) := by cases a <;> rfl
theorem ne01 (b : Bool) : ((if b = true then (0 : Int) else 1) != 0) = !b := by cases b <;> rfl
theorem chk_t {β : Type} (x : Option β) : chk true x = x := rfl
theorem app_nil (a b : List UInt8) : ((a ++ b) == []) = ((a == []) && (b == [])) := by cases a <;> cases b <;> rfl
theorem r9_checkFields_eq {d : D_api_Deed} (hk : 1 ≤ d.2.2.2.1 ∧ d.2.2.2.1 ≤ 11) (hs : List.length d.2.2.2.2.2.1 + List.length d.2.2.2.2.2.2.2.1 ≤ maxLen) : r9_checkFields d = some (usedF d, ()) := by
 unfold r9_checkFields usedF usedFU
 rw [r9_usesOf_eq hk, Option.bind_some]
 simp only [r9_checkQuantity_eq, r9_checkPrice_eq, r1_IsDay_eq, r1_IsName_eq, r9_within_eq, Option.bind_some, decide_eq_true hs, chk_t, ne01, app_nil]
 rw [show decide (1 ≤ d.2.2.2.2.2.2.2.2.2.1 ∧ d.2.2.2.2.2.2.2.2.2.1 ≤ 3652059) = isDay d.2.2.2.2.2.2.2.2.2.1 from rfl, show decide (1 ≤ d.2.2.2.2.2.2.2.2.2.2 ∧ d.2.2.2.2.2.2.2.2.2.2 ≤ 2000) = inTo d.2.2.2.2.2.2.2.2.2.2 from rfl]
 generalize usQ d.2.2.2.1 = uq
 generalize usP d.2.2.2.1 = up
 generalize usU d.2.2.2.1 = uu
 generalize usA d.2.2.2.1 = ua
 generalize usT d.2.2.2.1 = ut
 generalize (d.2.2.2.1 == 2) = k2
 generalize qOk d.2.2.2.2.2.2.1 k2 = q
 generalize inR d.2.2.2.2.2.2.2.2.1 0 1000000000 4 = p
 generalize isDay d.2.2.2.2.2.2.2.2.2.1 = dy
 generalize inTo d.2.2.2.2.2.2.2.2.2.2 = tt
 generalize isNm d.2.2.2.2.2.1 = n1
 generalize isNm d.2.2.2.2.2.2.2.1 = n2
 generalize (d.2.2.2.2.2.1 == []) = e1
 generalize (d.2.2.2.2.2.2.2.1 == []) = e2
 generalize (d.2.2.2.2.2.2.2.2.2.1 != 0) = un
 generalize (d.2.2.2.2.2.2.2.2.2.2 != 0) = to
 simp only [Bool.and_true]
 generalize (d.2.2.2.2.2.2.1.1 == 0 && d.2.2.2.2.2.2.1.2 == 0) = q0
 generalize (d.2.2.2.2.2.2.2.2.1.1 == 0 && d.2.2.2.2.2.2.2.2.1.2 == 0) = p0
 simp only [bAnd, bOr, bAO, Option.bind_some]
 generalize h1 : (uq && !q) = c1
 cases c1
 ·simp only [cond_false]
  generalize h2 : (up && !p) = c2
  cases c2
  ·simp only [cond_false]
   generalize h3 : (uu && !dy) = c3
   cases c3
   ·simp only [cond_false]
    generalize h4 : (ua && (!n1 || !n2)) = c4
    cases c4
    ·simp only [cond_false]
     generalize h5 : (ut && !tt) = c5
     cases c5
     ·simp only [cond_false]
      have e : ((!uq && !q0) || ((!up && !p0) || ((!uu && un) || ((!ua && !(e1 && e2)) || (!ut && to))))) = ((!ua && !e1) || ((!uq && !q0) || ((!ua && !e2) || ((!up && !p0) || ((!uu && un) || (!ut && to)))))) := by
       generalize (!uq && !q0) = x1
       generalize (!up && !p0) = x2
       generalize (!uu && un) = x3
       generalize (!ut && to) = x4
       cases ua <;> cases e1 <;> cases e2 <;> cases x1 <;> cases x2 <;> cases x3 <;> cases x4 <;> rfl
      rw [e]
      generalize ((!ua && !e1) || ((!uq && !q0) || ((!ua && !e2) || ((!up && !p0) || ((!uu && un) || (!ut && to)))))) = c6
      cases c6 <;> rfl
     ·rfl
    ·rfl
   ·rfl
  ·rfl
 ·rfl

theorem r9_isBuyers_eq (k : Int) : r9_isBuyers k = some (decide ((1 ≤ k ∧ k ≤ 4) ∨ k = 8 ∨ k = 10 ∨ k = 11), ()) := by
 unfold r9_isBuyers
 rw [r9_within_eq, Option.bind_some]
 dsimp only
 by_cases h1 : 1 ≤ k ∧ k ≤ 4
 ·rw [decide_eq_true h1, cond_true, decide_eq_true (.inl h1)]
 ·rw [decide_eq_false h1, cond_false]
  by_cases h2 : k = 8
  ·subst h2; rfl
  ·rw [beq_of_ne h2, cond_false]
   by_cases h3 : k = 10
   ·subst h3; rfl
   ·rw [beq_of_ne h3, cond_false]
    by_cases h4 : k = 11
    ·subst h4; rfl
    ·rw [beq_of_ne h4, decide_eq_false (fun h => by omega)]

theorem r9_deedOrder_eq (a b : D_api_Deed) : r9_deedOrder a b = some (dCw a b, ()) := by
 unfold r9_deedOrder dCw
 generalize w64 (a.1 - b.1) = x
 generalize w64 (a.2.1 - b.2.1) = y
 generalize w64 (a.2.2.1 - b.2.2.1) = z
 simp only [List.length_cons, List.length_nil]
 have key : iter (X := r9_deedOrder_x2) (β := r9_deedOrder_r2) 8 (3, 0, [x, y, z], ()) r9_deedOrder_b2 = (bif x != 0 then some (Sum.inl (x, ())) else bif y != 0 then some (Sum.inl (y, ())) else bif z != 0 then some (Sum.inl (z, ())) else some (Sum.inr ())) := by kernel_rfl
 show joinB (β := (Int × Unit)) (γ := Unit) (iter 8 (3, 0, [x, y, z], ()) r9_deedOrder_b2) _ = _
 rw [key]
 by_cases hx : x = 0
 ·subst hx
  by_cases hy : y = 0
  ·subst hy
   by_cases hz : z = 0
   ·subst hz; rfl
   ·have : (z != 0) = true := by simp [hz]
    rw [this]; simp [joinB]
  ·have : (y != 0) = true := by simp [hy]
   rw [this]; simp [joinB, hy]
 ·have : (x != 0) = true := by simp [hx]
  rw [this]; simp [joinB, hx]


def lastF (b : Int) (l : List D_api_Deed) : Int := l.foldl (fun m d => if d.2.1 = b then d.2.2.1 else m) 0
theorem r9_lastNo_eq (b : Int) (l : List D_api_Deed) (hl : l.length ≤ 2000) : r9_lastNo l b = some (lastF b l, ()) := by
 unfold r9_lastNo
 have : ∀ n, l.length < n → iter (X := r9_lastNo_x3) (β := r9_lastNo_r3) n (b, 0, l, (l.length : Int), 0, ()) r9_lastNo_b3 = some (Sum.inr (lastF b l, ())) := by
  intro n hn
  refine iter_post (Inv := fun i X => X = ((b, lastF b (l.take i), l, (l.length : Int), (i : Int), ()) : r9_lastNo_x3)) l.length (fun z => z = some (Sum.inr (lastF b l, ()))) ?_ ?_ n 0 _ rfl (Nat.zero_le _) (by omega)
  ·rintro i X again hi rfl hag
   unfold r9_lastNo_b3
   dsimp only
   obtain ⟨y, hy⟩ : ∃ y, l[i]? = some y := ⟨l[i], List.getElem?_eq_getElem hi⟩
   rw [decide_eq_true (show (i : Int) < (l.length : Int) by omega), cond_true, idx_get hy, Option.bind_some, w64_id (n := (i : Int) + 1) (by omega) (by omega)]
   have e : lastF b (l.take (i + 1)) = if y.2.1 = b then y.2.2.1 else lastF b (l.take i) := by
    unfold lastF
    rw [take_succ' hy, List.foldl_append]; rfl
   by_cases hb : y.2.1 = b
   ·rw [show (y.2.1 == b) = true by simpa using hb, cond_true]
    rw [if_pos hb] at e
    exact hag _ (by rw [e]; rfl)
   ·rw [beq_of_ne hb, cond_false]
    rw [if_neg hb] at e
    exact hag _ (by rw [e]; rfl)
  ·rintro X again rfl
   unfold r9_lastNo_b3
   dsimp only
   rw [decide_eq_false (show ¬(l.length : Int) < (l.length : Int) by omega), cond_false, List.take_length]
 rw [this _ (by omega)]
 rfl

theorem dCw_swap {a b : D_api_Deed} (ha : deedF a = 0) (hb : deedF b = 0) : decide (dCw b a ≤ 0) = decide (0 ≤ dCw a b) := by
 obtain ⟨a1, a2, a3, _⟩ := deedF_zero ha
 obtain ⟨b1, b2, b3, _⟩ := deedF_zero hb
 unfold dCw
 rw [w64_id (n := b.1 - a.1) (by omega) (by omega), w64_id (n := a.1 - b.1) (by omega) (by omega), w64_id (n := b.2.1 - a.2.1) (by omega) (by omega), w64_id (n := a.2.1 - b.2.1) (by omega) (by omega),
  w64_id (n := b.2.2.1 - a.2.2.1) (by omega) (by omega), w64_id (n := a.2.2.1 - b.2.2.1) (by omega) (by omega), decide_eq_decide]
 by_cases h1 : a.1 - b.1 = 0
 ·rw [if_neg (show ¬(b.1 - a.1 ≠ 0) by omega), if_neg (show ¬(a.1 - b.1 ≠ 0) by omega)]
  by_cases h2 : a.2.1 - b.2.1 = 0
  ·rw [if_neg (show ¬(b.2.1 - a.2.1 ≠ 0) by omega), if_neg (show ¬(a.2.1 - b.2.1 ≠ 0) by omega)]; omega
  ·rw [if_pos (show (b.2.1 - a.2.1 ≠ 0) by omega), if_pos (show (a.2.1 - b.2.1 ≠ 0) by omega)]; omega
 ·rw [if_pos (show (b.1 - a.1 ≠ 0) by omega), if_pos (show (a.1 - b.1 ≠ 0) by omega)]; omega

def Txt (d : D_api_Deed) : Prop := List.length d.2.2.2.2.2.1 + List.length d.2.2.2.2.2.2.2.1 ≤ maxLen

theorem r9_CheckDeeds_eq (l : List D_api_Deed) (hs : ∀ d, d ∈ l → Txt d) : r9_CheckDeeds l = some (deedsF l, ()) := by
 unfold r9_CheckDeeds deedsF
 by_cases hlen : 2000 < l.length
 ·rw [if_pos hlen, decide_eq_true (show (l.length : Int) > 2000 by omega), cond_true]
 rw [if_neg hlen, decide_eq_false (show ¬(l.length : Int) > 2000 by omega), cond_false]
 have loop : ∀ (r : List D_api_Deed) (i n : Nat), l.drop i = r → i ≤ l.length → (∀ q, prevOf l i = some q → deedF q = 0) → r.length < n →
   joinB (β := (Int × Unit)) (γ := Unit) (iter (X := r9_CheckDeeds_x4) (β := r9_CheckDeeds_r4) n (l, l, (l.length : Int), (i : Int), ()) r9_CheckDeeds_b4) (fun _ => some (0, ())) = some (deedsGo r (prevOf l i) (lastF 1 (l.take i)) (lastF 2 (l.take i)), ()) := by
  intro r
  induction r with
  | nil =>
   intro i n hd hi _ hn
   have : i = l.length := by
    have := congrArg List.length hd
    simp at this; omega
   subst this
   obtain ⟨n, rfl⟩ : ∃ m, n = m + 1 := ⟨n - 1, by omega⟩
   rw [iter_succ]
   unfold r9_CheckDeeds_b4
   dsimp only
   rw [decide_eq_false (show ¬((l.length : Int) < (l.length : Int)) by omega), cond_false]
   rfl
  | cons d r ih =>
   intro i n hdr hi hq hn
   have hd : l[i]? = some d := by
    have := congrArg (·[0]?) hdr
    simpa [List.getElem?_drop] using this
   have hr' : l.drop (i + 1) = r := by
    have := congrArg List.tail hdr
    simpa [List.tail_drop] using this
   have hlt : i < l.length := (List.getElem?_eq_some_iff.1 hd).1
   obtain ⟨n, rfl⟩ : ∃ m, n = m + 1 := ⟨n - 1, by simp at hn; omega⟩
   rw [iter_succ]
   generalize hag : (fun y => iter n y r9_CheckDeeds_b4) = again
   unfold r9_CheckDeeds_b4
   dsimp only
   rw [decide_eq_true (show (i : Int) < (l.length : Int) by omega), cond_true, idx_get hd, Option.bind_some, r1_IsDay_eq, Option.bind_some]
   simp only [deedsGo]
   by_cases h1 : 1 ≤ d.1 ∧ d.1 ≤ 3652059
   rotate_left
   ·have e : deedF d = 1 := by unfold deedF; rw [if_pos h1]
    rw [decide_eq_false h1, if_pos (show deedF d ≠ 0 by omega), e]; rfl
   rw [decide_eq_true h1, Bool.not_true, cond_false]
   have eby : (bif d.2.1 != 1 then some (d.2.1 != 2, ()) else some (false, ())) = some (!decide (1 ≤ d.2.1 ∧ d.2.1 ≤ 2), ()) := by
    rw [bAnd]
    congr 2
    by_cases k1 : d.2.1 = 1
    ·simp [k1]
    ·by_cases k2 : d.2.1 = 2
     ·simp [k2]
     ·rw [bne_of_ne k1, bne_of_ne k2, decide_eq_false (by omega)]; rfl
   rw [eby, Option.bind_some]
   dsimp only
   by_cases h2 : 1 ≤ d.2.1 ∧ d.2.1 ≤ 2
   rotate_left
   ·have e : deedF d = 4 := by unfold deedF; rw [if_neg (show ¬¬_ from fun e => e h1), if_pos h2]
    rw [decide_eq_false h2, if_pos (show deedF d ≠ 0 by omega), e]; rfl
   rw [decide_eq_true h2, Bool.not_true, cond_false, r9_within_eq, Option.bind_some]
   dsimp only
   by_cases h3 : 1 ≤ d.2.2.1 ∧ d.2.2.1 ≤ 2000
   rotate_left
   ·have e : deedF d = 1 := by unfold deedF; rw [if_neg (show ¬¬_ from fun e => e h1), if_neg (show ¬¬_ from fun e => e h2), if_pos h3]
    rw [decide_eq_false h3, if_pos (show deedF d ≠ 0 by omega), e]; rfl
   rw [decide_eq_true h3, Bool.not_true, cond_false, r9_within_eq, Option.bind_some]
   dsimp only
   by_cases h4 : 1 ≤ d.2.2.2.1 ∧ d.2.2.2.1 ≤ 11
   rotate_left
   ·have e : deedF d = 4 := by unfold deedF; rw [if_neg (show ¬¬_ from fun e => e h1), if_neg (show ¬¬_ from fun e => e h2), if_neg (show ¬¬_ from fun e => e h3), if_pos h4]
    rw [decide_eq_false h4, if_pos (show deedF d ≠ 0 by omega), e]; rfl
   rw [decide_eq_true h4, Bool.not_true, cond_false, r9_isBuyers_eq, Option.bind_some]
   dsimp only
   by_cases h5 : (d.2.2.2.1 = 5 ∨ d.2.2.2.1 = 6 ∨ d.2.2.2.1 = 7 ∨ d.2.2.2.1 = 9) ↔ d.2.1 = 2
   rotate_left
   ·have e : deedF d = 4 := by unfold deedF; rw [if_neg (show ¬¬_ from fun e => e h1), if_neg (show ¬¬_ from fun e => e h2), if_neg (show ¬¬_ from fun e => e h3), if_neg (show ¬¬_ from fun e => e h4), if_pos h5]
    have e2 : (decide ((1 ≤ d.2.2.2.1 ∧ d.2.2.2.1 ≤ 4) ∨ d.2.2.2.1 = 8 ∨ d.2.2.2.1 = 10 ∨ d.2.2.2.1 = 11) == (d.2.1 == 1)) = false := by
     by_cases k : d.2.1 = 1
     ·rw [k, show ((1 : Int) == 1) = true from rfl, decide_eq_false (fun h => h5 (by omega))]; rfl
     ·rw [beq_of_ne k, decide_eq_true (Classical.byContradiction fun h => h5 (by omega))]; rfl
    rw [e2, if_pos (show deedF d ≠ 0 by omega), e]; rfl
   have e5 : (decide ((1 ≤ d.2.2.2.1 ∧ d.2.2.2.1 ≤ 4) ∨ d.2.2.2.1 = 8 ∨ d.2.2.2.1 = 10 ∨ d.2.2.2.1 = 11) == (d.2.1 == 1)) = true := by
    by_cases k : d.2.1 = 1
    ·rw [k, show ((1 : Int) == 1) = true from rfl, decide_eq_true (by omega)]; rfl
    ·rw [beq_of_ne k, decide_eq_false (by omega)]; rfl
   rw [e5, Bool.not_true, cond_false, r9_within_eq, Option.bind_some]
   dsimp only
   by_cases h6 : 1 ≤ d.2.2.2.2.1 ∧ d.2.2.2.2.1 ≤ 99999
   rotate_left
   ·have e : deedF d = 1 := by unfold deedF; rw [if_neg (show ¬¬_ from fun e => e h1), if_neg (show ¬¬_ from fun e => e h2), if_neg (show ¬¬_ from fun e => e h3), if_neg (show ¬¬_ from fun e => e h4), if_neg (show ¬¬_ from fun e => e h5), if_pos h6]
    rw [decide_eq_false h6, if_pos (show deedF d ≠ 0 by omega), e]; rfl
   have ed : deedF d = usedF d := by unfold deedF; rw [if_neg (show ¬¬_ from fun e => e h1), if_neg (show ¬¬_ from fun e => e h2), if_neg (show ¬¬_ from fun e => e h3), if_neg (show ¬¬_ from fun e => e h4), if_neg (show ¬¬_ from fun e => e h5), if_neg (show ¬¬_ from fun e => e h6)]
   rw [decide_eq_true h6, Bool.not_true, cond_false, r9_checkFields_eq h4 (hs d (List.mem_of_getElem? hd)), Option.bind_some, ← ed]
   dsimp only
   by_cases h7 : deedF d = 0
   rotate_left
   ·rw [bne_of_ne h7, if_pos h7]; rfl
   rw [h7, show ((0 : Int) != 0) = false from rfl, cond_false, if_neg (show ¬(0 : Int) ≠ 0 from fun e => e rfl)]
   have epr : (bif decide ((i : Int) > 0) then Option.bind (idx l (w64 ((i : Int) - 1))) fun y10 => Option.bind (r9_deedOrder d y10) fun r11 => some (decide (r11.1 ≤ 0), ()) else some (false, ())) = some ((prevOf l i).any fun q => decide (0 ≤ dCw q d), ()) := by
    cases i with
    | zero => rfl
    | succ i =>
     obtain ⟨q, hqq⟩ : ∃ q, l[i]? = some q := ⟨l[i], List.getElem?_eq_getElem (by omega)⟩
     rw [decide_eq_true (show ((i + 1 : Nat) : Int) > 0 by omega), cond_true, w64_id (n := ((i + 1 : Nat) : Int) - 1) (by omega) (by omega), show ((i + 1 : Nat) : Int) - 1 = (i : Int) by omega, idx_get hqq, Option.bind_some, r9_deedOrder_eq, Option.bind_some]
     show some (decide (dCw d q ≤ 0), ()) = some ((prevOf l (i + 1)).any _, ())
     rw [show prevOf l (i + 1) = some q from hqq, dCw_swap (hq q hqq) h7]
     rfl
   rw [epr, Option.bind_some]
   dsimp only
   cases h8 : ((prevOf l i).any fun q => decide (0 ≤ dCw q d))
   rotate_left
   ·rfl
   rw [cond_false, if_neg (show ¬false = true from Bool.false_ne_true)]
   rw [chk_true' (by simp only [Bool.and_eq_true, decide_eq_true_eq]; omega), Int.toNat_natCast, List.drop_zero, r9_lastNo_eq _ _ (by simp; omega), Option.bind_some]
   dsimp only
   have htk : ∀ b, lastF b (l.take (i + 1)) = if d.2.1 = b then d.2.2.1 else lastF b (l.take i) := by
    intro b
    unfold lastF
    rw [take_succ' hd, List.foldl_append]; rfl
   have hnext : ∀ q, prevOf l (i + 1) = some q → deedF q = 0 := by
    intro q hqq
    have : l[i]? = some q := hqq
    rw [hd] at this; cases this; exact h7
   have ih' := ih (i + 1) n hr' (by omega) hnext (by simp at hn; omega)
   rw [show prevOf l (i + 1) = some d from hd, htk 1, htk 2] at ih'
   rw [w64_id (n := (i : Int) + 1) (by omega) (by omega)]
   have hi1 : (i : Int) + 1 = ((i + 1 : Nat) : Int) := by omega
   by_cases k1 : d.2.1 = 1
   ·rw [if_pos k1]
    rw [if_pos k1, if_neg (show ¬d.2.1 = 2 by omega)] at ih'
    rw [k1]
    by_cases h9 : d.2.2.1 = w64 (lastF 1 (l.take i) + 1)
    ·rw [show (d.2.2.1 != w64 (lastF 1 (l.take i) + 1)) = false by simpa using h9, cond_false, if_neg (fun e => e h9), hi1, ← hag]
     exact ih'
    ·rw [bne_of_ne h9, if_pos h9]; rfl
   ·have k2 : d.2.1 = 2 := by omega
    rw [if_neg k1]
    rw [if_neg k1, if_pos k2] at ih'
    rw [k2]
    by_cases h9 : d.2.2.1 = w64 (lastF 2 (l.take i) + 1)
    ·rw [show (d.2.2.1 != w64 (lastF 2 (l.take i) + 1)) = false by simpa using h9, cond_false, if_neg (fun e => e h9), hi1, ← hag]
     exact ih'
    ·rw [bne_of_ne h9, if_pos h9]; rfl
 exact loop l 0 _ rfl (Nat.zero_le _) (fun q hq => by cases hq) (by omega)

end Go.Md

namespace Go.Md
open Go.Dn

abbrev dKey (d : D_api_Deed) : D_api_Decimal := (d.2.1, d.2.2.1)

theorem dec_beq (a b : D_api_Decimal) : Ty.beq t_api_Decimal a b = decide (a = b) := by
 show (ibeq a.1 b.1 && ibeq a.2 b.2) = _
 by_cases h1 : a.1 = b.1
 ·by_cases h2 : a.2 = b.2
  ·rw [h1, h2, ibeq_self, ibeq_self, decide_eq_true (Prod.ext h1 h2)]; rfl
  ·rw [ibeq_ne h2, Bool.and_false, decide_eq_false (fun e => h2 (by rw [e]))]
 ·rw [ibeq_ne h1, Bool.false_and, decide_eq_false (fun e => h1 (by rw [e]))]

def findK (k : D_api_Decimal) : List D_api_Deed → Option D_api_Deed
 | [] => none
 | d :: r => if k = dKey d then some d else findK k r
def mapK (out : List D_api_Deed) : List (D_api_Decimal × D_api_Deed) := out.map fun d => (dKey d, d)
theorem mget_K (k : D_api_Decimal) : ∀ out : List D_api_Deed, mget (k := t_api_Decimal) (v := t_api_Deed) (mapK out) k = findK k out
 | [] => rfl
 | d :: r => by
  have e := @mget_cons t_api_Decimal t_api_Deed (dKey d, d) (mapK r) k
  refine e.trans ?_
  have ih := mget_K k r
  simp only [findK]
  by_cases h : k = dKey d
  ·rw [if_pos h, show Ty.beq t_api_Decimal k (dKey d) = true from (dec_beq _ _).trans (decide_eq_true h)]; rfl
  ·rw [if_neg h, show Ty.beq t_api_Decimal k (dKey d) = false from (dec_beq _ _).trans (decide_eq_false h), cond_false]; exact ih
theorem mset_K (d : D_api_Deed) : ∀ out : List D_api_Deed, findK (dKey d) out = none → mset (k := t_api_Decimal) (v := t_api_Deed) (mapK out) (dKey d) d = mapK (out ++ [d])
 | [], _ => rfl
 | e :: r, h => by
  simp only [findK] at h
  by_cases hk : dKey d = dKey e
  ·rw [if_pos hk] at h; cases h
  ·rw [if_neg hk] at h
   have ih := mset_K d r h
   refine (@mset_cons t_api_Decimal t_api_Deed (dKey e, e) (mapK r) (dKey d) d).trans ?_
   rw [show Ty.beq t_api_Decimal (dKey d) (dKey e) = false from (dec_beq _ _).trans (decide_eq_false hk), cond_false, ih]
   rfl

def deq (e d : D_api_Deed) : Bool := (e.1 == d.1) && ((e.2.1 == d.2.1) && ((e.2.2.1 == d.2.2.1) && ((e.2.2.2.1 == d.2.2.2.1) && ((e.2.2.2.2.1 == d.2.2.2.2.1) && ((e.2.2.2.2.2.1 == d.2.2.2.2.2.1) && (((e.2.2.2.2.2.2.1.1 == d.2.2.2.2.2.2.1.1) && ((e.2.2.2.2.2.2.1.2 == d.2.2.2.2.2.2.1.2) && true)) && ((e.2.2.2.2.2.2.2.1 == d.2.2.2.2.2.2.2.1) && (((e.2.2.2.2.2.2.2.2.1.1 == d.2.2.2.2.2.2.2.2.1.1) && ((e.2.2.2.2.2.2.2.2.1.2 == d.2.2.2.2.2.2.2.2.1.2) && true)) && ((e.2.2.2.2.2.2.2.2.2.1 == d.2.2.2.2.2.2.2.2.2.1) && ((e.2.2.2.2.2.2.2.2.2.2 == d.2.2.2.2.2.2.2.2.2.2) && true))))))))))
theorem deq_iff (e d : D_api_Deed) : deq e d = true ↔ e = d := by
 constructor
 ·intro hd
  unfold deq at hd
  simp only [Bool.and_eq_true, beq_iff_eq, and_true] at hd
  obtain ⟨h1, h2, h3, h4, h5, h6, ⟨h7, h8⟩, h9, ⟨h10, h11⟩, h12, h13⟩ := hd
  exact Prod.ext h1 (Prod.ext h2 (Prod.ext h3 (Prod.ext h4 (Prod.ext h5 (Prod.ext h6 (Prod.ext (Prod.ext h7 h8) (Prod.ext h9 (Prod.ext (Prod.ext h10 h11) (Prod.ext h12 h13))))))))) 
 ·rintro rfl
  unfold deq
  simp only [beq_self_eq_true, Bool.and_self]

def dedup : List D_api_Deed → List D_api_Deed → Option (List D_api_Deed)
 | [], out => some out
 | d :: r, out => match findK (dKey d) out with
  | none => dedup r (out ++ [d])
  | some e => bif deq e d then dedup r out else none

theorem merge_loop (all : List D_api_Deed) (hall : all.length ≤ 4000) : ∀ (r : List D_api_Deed) (i n : Nat) (out : List D_api_Deed), all.drop i = r → i ≤ all.length → out.length ≤ i → r.length < n →
  iter (X := order_MergeDeeds_x11) (β := order_MergeDeeds_r11) n (out, (all.length : Int), (i : Int), all, mapK out, ()) order_MergeDeeds_b11 = (match dedup r out with | some k => some (Sum.inr (k, ())) | none => some (Sum.inl ([], 12, ()))) := by
 intro r
 induction r with
 | nil =>
  intro i n out hd hi ho hn
  have : i = all.length := by
   have := congrArg List.length hd
   simp at this; omega
  subst this
  obtain ⟨n, rfl⟩ : ∃ m, n = m + 1 := ⟨n - 1, by omega⟩
  rw [iter_succ]
  unfold order_MergeDeeds_b11
  dsimp only
  rw [decide_eq_false (show ¬((all.length : Int) < (all.length : Int)) by omega), cond_false]
  rfl
 | cons d r ih =>
  intro i n out hdr hi ho hn
  have hd : all[i]? = some d := by
   have := congrArg (·[0]?) hdr
   simpa [List.getElem?_drop] using this
  have hr' : all.drop (i + 1) = r := by
   have := congrArg List.tail hdr
   simpa [List.tail_drop] using this
  have hlt : i < all.length := (List.getElem?_eq_some_iff.1 hd).1
  obtain ⟨n, rfl⟩ : ∃ m, n = m + 1 := ⟨n - 1, by simp at hn; omega⟩
  rw [iter_succ]
  generalize hag : (fun y => iter n y order_MergeDeeds_b11) = again
  unfold order_MergeDeeds_b11
  dsimp only
  rw [decide_eq_true (show (i : Int) < (all.length : Int) by omega), cond_true, chk_true' (by first | (simp; omega) | simp), Int.toNat_natCast, hd, Option.bind_some]
  have hmax : maxLen = 9223372036854775807 := rfl
  have hi1 : (i : Int) + 1 = ((i + 1 : Nat) : Int) := by omega
  rw [w64_id (n := (i : Int) + 1) (by omega) (by omega), hi1]
  have hg := mget_K (dKey d) out
  simp only [dedup]
  cases hf : findK (dKey d) out with
  | none =>
   rw [hf] at hg
   have hs := mset_K d out hf
   rw [show mget (k := t_api_Decimal) (v := t_api_Deed) (mapK out) (d.2.1, d.2.2.1) = none from hg, show mset (k := t_api_Decimal) (v := t_api_Deed) (mapK out) (d.2.1, d.2.2.1) d = mapK (out ++ [d]) from hs]
   refine (show (bif true then _ else _) = _ from ?_)
   rw [cond_true, chk_true' (by rw [Bool.and_eq_true]; exact ⟨decide_eq_true (by omega), decide_eq_true (by omega)⟩), ← hag]
   exact ih (i + 1) n _ hr' (by omega) (by simp; omega) (by simp at hn; omega)
  | some e =>
   rw [hf] at hg
   rw [show mget (k := t_api_Decimal) (v := t_api_Deed) (mapK out) (d.2.1, d.2.2.1) = some e from hg]
   refine (show (bif false then _ else (bif !(deq e d) then _ else _)) = _ from ?_)
   rw [cond_false]
   dsimp only
   cases deq e d with
   | true =>
    rw [Bool.not_true, cond_false, ← hag]
    exact ih (i + 1) n out hr' (by omega) (by omega) (by simp at hn; omega)
   | false => rfl

theorem slices_Concat_eq (x y : List D_api_Deed) (hx : x.length ≤ 2000) (hy : y.length ≤ 2000) : slices_Concat_api_Deed [x, y] = some (x ++ y, ()) := by
 unfold slices_Concat_api_Deed
 have hmax : maxLen = 9223372036854775807 := rfl
 have l1 : ∀ n, 2 < n → iter (X := slices_Concat_api_Deed_x3) (β := slices_Concat_api_Deed_r3) n ([x, y], 0, [x, y], (2 : Int), 0, ()) slices_Concat_api_Deed_b3 = some (Sum.inr ([x, y], ((x.length : Int) + (y.length : Int)), ())) := by
  intro n hn
  obtain ⟨n, rfl⟩ : ∃ m, n = m + 3 := ⟨n - 3, by omega⟩
  rw [iter_succ]
  unfold slices_Concat_api_Deed_b3
  dsimp only
  rw [show decide ((0 : Int) < 2) = true from rfl, cond_true, show idx [x, y] 0 = some x from rfl, Option.bind_some, w64_id (n := 0 + (x.length : Int)) (by omega) (by omega), decide_eq_false (show ¬((0 : Int) + (x.length : Int) < 0) by omega), cond_false,
   show w64 ((0 : Int) + 1) = 1 from rfl]
  rw [iter_succ]
  dsimp only
  rw [show decide ((1 : Int) < 2) = true from rfl, cond_true, show idx [x, y] 1 = some y from rfl, Option.bind_some, w64_id (n := 0 + (x.length : Int) + (y.length : Int)) (by omega) (by omega), decide_eq_false (show ¬((0 : Int) + (x.length : Int) + (y.length : Int) < 0) by omega), cond_false,
   show w64 ((1 : Int) + 1) = 2 from rfl]
  rw [iter_succ]
  dsimp only
  rw [show decide ((2 : Int) < 2) = false from rfl, cond_false, Int.zero_add]
 have l2 : ∀ n, 2 < n → iter (X := slices_Concat_api_Deed_x11) (β := slices_Concat_api_Deed_r11) n ([], [x, y], (2 : Int), 0, ()) slices_Concat_api_Deed_b11 = some (Sum.inr (x ++ y, ())) := by
  intro n hn
  obtain ⟨n, rfl⟩ : ∃ m, n = m + 3 := ⟨n - 3, by omega⟩
  rw [iter_succ]
  unfold slices_Concat_api_Deed_b11
  dsimp only
  rw [show decide ((0 : Int) < 2) = true from rfl, cond_true, show idx [x, y] 0 = some x from rfl, Option.bind_some, chk_true' (by simp; omega), show w64 ((0 : Int) + 1) = 1 from rfl]
  rw [iter_succ]
  dsimp only
  rw [show decide ((1 : Int) < 2) = true from rfl, cond_true, show idx [x, y] 1 = some y from rfl, Option.bind_some, chk_true' (by simp; omega), show w64 ((1 : Int) + 1) = 2 from rfl]
  rw [iter_succ]
  dsimp only
  rw [show decide ((2 : Int) < 2) = false from rfl, cond_false]
  rfl
 have e1 := l1 (List.length [x, y] + (Int.natAbs (0 : Int) + (List.length [x, y] + (Int.natAbs ((List.length [x, y] : Int)) + (Int.natAbs (0 : Int) + 2))))) (by simp)
 refine (congrArg (fun z => joinB z _) e1).trans ?_
 show Option.bind (slices_Grow_api_Deed [] ((x.length : Int) + (y.length : Int))) _ = _
 have hg : slices_Grow_api_Deed [] ((x.length : Int) + (y.length : Int)) = some ([], ()) := by
  unfold slices_Grow_api_Deed growM
  rw [show ((x.length : Int) + (y.length : Int)).toNat = x.length + y.length by omega]
  rw [show (decide (0 ≤ ((x.length : Int) + (y.length : Int))) && decide ((([] : List D_api_Deed).length + (x.length + y.length)) * 120 ≤ 140737488355328) && decide (([] : List D_api_Deed).length + (x.length + y.length) ≤ 4611686018427387904)) = true by
   simp only [Bool.and_eq_true, decide_eq_true_eq, List.length_nil]; omega]
  rfl
 rw [hg, Option.bind_some]
 have e2 := l2 (List.length ([] : List D_api_Deed) + (List.length [x, y] + (Int.natAbs ((List.length [x, y] : Int)) + (Int.natAbs (0 : Int) + 2)))) (by simp)
 exact (congrArg (fun z => joinB z _) e2).trans rfl

/-! ### what is kept -/

def Unif (l : List D_api_Deed) : Prop := ∀ d, d ∈ l → ∀ e, e ∈ l → dKey d = dKey e → d = e
theorem Unif.of_mem {l m : List D_api_Deed} (h : Unif l) (hm : ∀ d, d ∈ m → d ∈ l) : Unif m := fun d hd e he => h d (hm d hd) e (hm e he)
theorem findK_none {k : D_api_Decimal} : ∀ {out : List D_api_Deed}, findK k out = none → ∀ d, d ∈ out → k ≠ dKey d
 | e :: r, h, d, hd => by
  simp only [findK] at h
  by_cases hk : k = dKey e
  ·rw [if_pos hk] at h; cases h
  ·rw [if_neg hk] at h
   rcases List.mem_cons.1 hd with rfl | hd
   ·exact hk
   ·exact findK_none h d hd
theorem findK_some {k : D_api_Decimal} {e : D_api_Deed} : ∀ {out : List D_api_Deed}, findK k out = some e → e ∈ out ∧ k = dKey e
 | f :: r, h => by
  simp only [findK] at h
  by_cases hk : k = dKey f
  ·rw [if_pos hk] at h; cases h; exact ⟨by simp, hk⟩
  ·rw [if_neg hk] at h
   have := findK_some h
   exact ⟨by simp [this.1], this.2⟩

theorem dedup_spec : ∀ (r out : List D_api_Deed), out.Pairwise (fun a b => dKey a ≠ dKey b) →
  (Unif (out ++ r) → ∃ k, dedup r out = some k ∧ k.Pairwise (fun a b => dKey a ≠ dKey b) ∧ ∀ d, d ∈ k ↔ d ∈ out ++ r) ∧ (¬Unif (out ++ r) → dedup r out = none)
 | [], out, hp => by
  have hc : Unif (out ++ []) := by
   rw [List.append_nil]
   intro d hd e he hk
   obtain ⟨i, hi, rfl⟩ := List.mem_iff_getElem.1 hd
   obtain ⟨j, hj, rfl⟩ := List.mem_iff_getElem.1 he
   rw [List.pairwise_iff_getElem] at hp
   rcases Nat.lt_trichotomy i j with h | h | h
   ·exact absurd hk (hp i j hi hj h)
   ·subst h; rfl
   ·exact absurd hk.symm (hp j i hj hi h)
  exact ⟨fun _ => ⟨out, rfl, hp, fun d => by simp⟩, fun h => absurd hc h⟩
 | d :: r, out, hp => by
  simp only [dedup]
  cases hf : findK (dKey d) out with
  | none =>
   have hn := findK_none hf
   have hp' : (out ++ [d]).Pairwise (fun a b => dKey a ≠ dKey b) := by
    rw [List.pairwise_append]
    refine ⟨hp, List.pairwise_singleton _ _, fun a ha b hb => ?_⟩
    rw [List.mem_singleton] at hb
    subst hb
    exact (hn a ha).symm
   have ih := dedup_spec r (out ++ [d]) hp'
   rw [List.append_assoc, List.singleton_append] at ih
   exact ih
  | some e =>
   obtain ⟨he, hk⟩ := findK_some hf
   by_cases hed : e = d
   ·subst hed
    dsimp only
    rw [(deq_iff e e).2 rfl, cond_true]
    have ih := dedup_spec r out hp
    have hm : ∀ z, z ∈ out ++ e :: r ↔ z ∈ out ++ r := by
     intro z
     simp only [List.mem_append, List.mem_cons]
     constructor
     ·rintro (h | h | h)
      ·exact .inl h
      ·subst h; exact .inl he
      ·exact .inr h
     ·rintro (h | h)
      ·exact .inl h
      ·exact .inr (.inr h)
    refine ⟨fun h => ?_, fun h => ih.2 fun hc => h (hc.of_mem fun z hz => (hm z).1 hz)⟩
    obtain ⟨k, h1, h2, h3⟩ := ih.1 (h.of_mem fun z hz => (hm z).2 hz)
    exact ⟨k, h1, h2, fun z => (h3 z).trans (hm z).symm⟩
   ·dsimp only
    rw [show deq e d = false from Bool.eq_false_iff.2 fun h => hed ((deq_iff e d).1 h), cond_false]
    refine ⟨fun h => ?_, fun _ => rfl⟩
    exact absurd (h e (by simp [he]) d (by simp) hk.symm) hed

/-! ### sorting -/

def leD (x y : D_api_Deed) : Bool := !decide (deedCf y x < 0)
def Lex (a b : D_api_Deed) : Prop := a.1 < b.1 ∨ (a.1 = b.1 ∧ (a.2.1 < b.2.1 ∨ (a.2.1 = b.2.1 ∧ a.2.2.1 ≤ b.2.2.1)))
theorem leD_iff (a b : D_api_Deed) : leD a b = true ↔ Lex a b := by
 unfold leD deedCf Lex
 by_cases h1 : b.1 - a.1 = 0
 ·rw [show (b.1 - a.1 == 0) = true by simpa using h1, Bool.not_true, cond_false]
  by_cases h2 : b.2.1 - a.2.1 = 0
  ·rw [show (b.2.1 - a.2.1 == 0) = true by simpa using h2, Bool.not_true, cond_false]
   simp only [Bool.not_eq_true', decide_eq_false_iff_not]; omega
  ·rw [beq_of_ne h2, Bool.not_false, cond_true]
   simp only [Bool.not_eq_true', decide_eq_false_iff_not]; omega
 ·rw [beq_of_ne h1, Bool.not_false, cond_true]
  simp only [Bool.not_eq_true', decide_eq_false_iff_not]; omega
theorem leD_trans (a b c : D_api_Deed) (h1 : leD a b = true) (h2 : leD b c = true) : leD a c = true := by
 rw [leD_iff] at *
 unfold Lex at *
 omega
theorem leD_total (a b : D_api_Deed) : (leD a b || leD b a) = true := by
 rw [Bool.or_eq_true, leD_iff, leD_iff]
 unfold Lex
 omega
abbrev sortD (l : List D_api_Deed) : List D_api_Deed := l.mergeSort leD

theorem sort_unique {k m : List D_api_Deed} (hk : k.Pairwise (fun a b => dKey a ≠ dKey b)) (hm : m.Pairwise (fun a b => dKey a ≠ dKey b)) (hc : Unif k) (h : ∀ d, d ∈ k ↔ d ∈ m) : sortD k = sortD m := by
 have nk : k.Nodup := hk.imp fun h e => h (by rw [e])
 have nm : m.Nodup := hm.imp fun h e => h (by rw [e])
 have hp : k.Perm m := (List.perm_ext_iff_of_nodup nk nm).2 h
 refine List.Perm.eq_of_pairwise (le := fun a b => leD a b = true) ?_ (List.pairwise_mergeSort leD_trans leD_total k) (List.pairwise_mergeSort leD_trans leD_total m) (((List.mergeSort_perm k leD).trans hp).trans (List.mergeSort_perm m leD).symm)
 intro a b ha hb h1 h2
 rw [leD_iff] at h1 h2
 unfold Lex at h1 h2
 have ha' : a ∈ k := (List.mergeSort_perm k leD).mem_iff.1 ha
 have hb' : b ∈ k := (h b).2 ((List.mergeSort_perm m leD).mem_iff.1 hb)
 exact hc a ha' b hb' (Prod.ext (show a.2.1 = b.2.1 by omega) (show a.2.2.1 = b.2.2.1 by omega))

theorem slices_SortFunc_Deed_eq {k : List D_api_Deed} (hc : Unif k) (hd : ∀ d, d ∈ k → deedF d = 0) (hl : k.length ≤ 4000) : slices_SortFunc_api_Deed k () = some (sortD k, ()) := by
 unfold slices_SortFunc_api_Deed sortFn
 have g1 : ∀ x, x ∈ k → deedOk x = true := fun x hx => by
  obtain ⟨a1, a2, a3, _⟩ := deedF_zero (hd x hx)
  unfold deedOk
  simp only [Bool.and_eq_true, decide_eq_true_eq]
  omega
 have g2 : ∀ x, x ∈ k → ∀ y, y ∈ k → ¬ deedCf x y < 0 → ¬ deedCf y x < 0 → x = y := fun x hx y hy h1 h2 => by
  have e1 : leD y x = true := by unfold leD; rw [decide_eq_false h1]; rfl
  have e2 : leD x y = true := by unfold leD; rw [decide_eq_false h2]; rfl
  rw [leD_iff] at e1 e2
  unfold Lex at e1 e2
  exact hc x hx y hy (Prod.ext (show x.2.1 = y.2.1 by omega) (show x.2.2.1 = y.2.2.1 by omega))
 rw [if_pos ⟨g1, g2, by omega⟩]
 rfl

end Go.Md

namespace Go.Md
open Go.Dn

def mergeF (x y : List D_api_Deed) : List D_api_Deed × Int := match dedup (x ++ y) [] with
 | none => ([], 12)
 | some k => if deedsF (sortD k) ≠ 0 then ([], deedsF (sortD k)) else (sortD k, 0)

theorem dedup_len : ∀ (r out k : List D_api_Deed), dedup r out = some k → k.length ≤ out.length + r.length
 | [], out, k, h => by cases h; simp
 | d :: r, out, k, h => by
  simp only [dedup] at h
  split at h
  ·have := dedup_len r _ k h
   simp at this ⊢
   omega
  ·rename_i e he
   cases hq : deq e d with
   | true => rw [hq] at h; have := dedup_len r _ k h; simp; omega
   | false => rw [hq] at h; cases h

theorem order_MergeDeeds_eq {x y : List D_api_Deed} (hx : deedsF x = 0) (hy : deedsF y = 0) : order_MergeDeeds x y = some ((mergeF x y).1, (mergeF x y).2, ()) := by
 obtain ⟨x1, x2⟩ := deedsF_zero hx
 obtain ⟨y1, y2⟩ := deedsF_zero hy
 unfold order_MergeDeeds
 have l1 : ∀ n, 2 < n → iter (X := order_MergeDeeds_x2) (β := order_MergeDeeds_r2) n (x, y, (2 : Int), 0, [x, y], ()) order_MergeDeeds_b2 = some (Sum.inr (x, y, ())) := by
  intro n hn
  obtain ⟨n, rfl⟩ : ∃ m, n = m + 3 := ⟨n - 3, by omega⟩
  rw [iter_succ]
  unfold order_MergeDeeds_b2
  dsimp only
  rw [show decide ((0 : Int) < 2) = true from rfl, cond_true, chk_true' (by simp), show [x, y][Int.toNat 0]? = some x from rfl, Option.bind_some, order_CheckDeeds_eq, hx, Option.bind_some]
  dsimp only
  rw [show ((0 : Int) != 0) = false from rfl, cond_false, show w64 ((0 : Int) + 1) = 1 from rfl]
  rw [iter_succ]
  dsimp only
  rw [show decide ((1 : Int) < 2) = true from rfl, cond_true, chk_true' (by simp), show [x, y][Int.toNat 1]? = some y from rfl, Option.bind_some, order_CheckDeeds_eq, hy, Option.bind_some]
  dsimp only
  rw [show ((0 : Int) != 0) = false from rfl, cond_false, show w64 ((1 : Int) + 1) = 2 from rfl]
  rw [iter_succ]
  dsimp only
  rw [show decide ((2 : Int) < 2) = false from rfl, cond_false]
 have e1 := l1 (List.length x + (List.length y + (Int.natAbs ((List.length [x, y] : Int)) + (Int.natAbs (0 : Int) + (List.length ([x, y] : List (List D_api_Deed)) + 2))))) (by simp; omega)
 refine (congrArg (fun z => joinB z _) e1).trans ?_
 show Option.bind (slices_Concat_api_Deed [x, y]) _ = _
 rw [slices_Concat_eq x y x1 y1, Option.bind_some]
 dsimp only
 have hlen : (x ++ y).length ≤ 4000 := by simp; omega
 have e2 := merge_loop (x ++ y) hlen (x ++ y) 0 (List.length ([] : List D_api_Deed) + (Int.natAbs ((List.length (x ++ y) : Int)) + (Int.natAbs (0 : Int) + (List.length (x ++ y) + (List.length ([] : List (D_api_Decimal × D_api_Deed)) + 2))))) [] rfl (Nat.zero_le _) (Nat.zero_le _) (by simp; omega)
 refine (congrArg (fun z => joinB z _) e2).trans ?_
 unfold mergeF
 have hsp := dedup_spec (x ++ y) [] List.Pairwise.nil
 rw [List.nil_append] at hsp
 cases hd : dedup (x ++ y) [] with
 | none => rfl
 | some k =>
  have hu : Unif (x ++ y) := Classical.byContradiction fun h => by rw [hsp.2 h] at hd; cases hd
  obtain ⟨k', h1, h2, h3⟩ := hsp.1 hu
  rw [hd] at h1; cases h1
  have hk : Unif k := hu.of_mem fun d hd => (h3 d).1 hd
  have hkd : ∀ d, d ∈ k → deedF d = 0 := fun d hd => by
   rcases List.mem_append.1 ((h3 d).1 hd) with h | h
   ·exact x2 d h
   ·exact y2 d h
  have hkl := dedup_len _ _ _ hd
  show Option.bind (slices_SortFunc_api_Deed k ()) _ = _
  rw [slices_SortFunc_Deed_eq hk hkd (by simp at hkl hlen; omega), Option.bind_some]
  dsimp only
  rw [order_CheckDeeds_eq, Option.bind_some]
  dsimp only
  by_cases h : deedsF (sortD k) = 0
  ·rw [h, show ((0 : Int) != 0) = false from rfl, cond_false, if_neg (show ¬(0 : Int) ≠ 0 from fun e => e rfl)]
  ·rw [bne_of_ne h, cond_true, if_pos h]

end Go.Md

namespace Go.Md
open Go.Dn

theorem dCw_lt {a b : D_api_Deed} (ha : deedF a = 0) (hb : deedF b = 0) : dCw a b < 0 ↔ ¬Lex b a := by
 obtain ⟨a1, a2, a3, _⟩ := deedF_zero ha
 obtain ⟨b1, b2, b3, _⟩ := deedF_zero hb
 unfold dCw Lex
 rw [w64_id (n := a.1 - b.1) (by omega) (by omega), w64_id (n := a.2.1 - b.2.1) (by omega) (by omega), w64_id (n := a.2.2.1 - b.2.2.1) (by omega) (by omega)]
 by_cases h1 : a.1 - b.1 = 0
 ·rw [if_neg (show ¬(a.1 - b.1 ≠ 0) by omega)]
  by_cases h2 : a.2.1 - b.2.1 = 0
  ·rw [if_neg (show ¬(a.2.1 - b.2.1 ≠ 0) by omega)]; omega
  ·rw [if_pos h2]; omega
 ·rw [if_pos h1]; omega

theorem deedsGo_srt : ∀ (r : List D_api_Deed) (p : Option D_api_Deed) (nb ns : Int), 0 ≤ nb → nb ≤ 2000 → 0 ≤ ns → ns ≤ 2000 → (∀ q, p = some q → deedF q = 0) → deedsGo r p nb ns = 0 →
  (∀ d, d ∈ r → deedF d = 0 ∧ (d.2.1 = 1 → nb < d.2.2.1) ∧ (d.2.1 ≠ 1 → ns < d.2.2.1) ∧ ∀ q, p = some q → ¬Lex d q) ∧ r.Pairwise (fun a b => ¬Lex b a) ∧ r.Pairwise (fun a b => dKey a ≠ dKey b)
 | [], p, nb, ns, _, _, _, _, _, _ => ⟨fun _ hd => (nomatch hd), List.Pairwise.nil, List.Pairwise.nil⟩
 | d :: r, p, nb, ns, h1, h2, h3, h4, hp, h => by
  simp only [deedsGo] at h
  by_cases hf : deedF d = 0
  rotate_left
  ·rw [if_pos hf] at h; exact absurd h hf
  rw [if_neg (fun e => e hf)] at h
  by_cases hpp : (p.any fun q => decide (0 ≤ dCw q d)) = true
  ·rw [if_pos hpp] at h; cases h
  rw [if_neg hpp] at h
  have hlex : ∀ q, p = some q → ¬Lex d q := by
   rintro q rfl
   rw [← dCw_lt (hp q rfl) hf]
   have : ¬(0 ≤ dCw q d) := fun e => hpp (decide_eq_true e)
   omega
  obtain ⟨_, _, d3, _⟩ := deedF_zero hf
  have step : ∀ nb' ns', 0 ≤ nb' → nb' ≤ 2000 → 0 ≤ ns' → ns' ≤ 2000 → nb ≤ nb' → ns ≤ ns' → (d.2.1 = 1 → nb < d.2.2.1 ∧ nb' = d.2.2.1) → (d.2.1 ≠ 1 → ns < d.2.2.1 ∧ ns' = d.2.2.1) → deedsGo r (some d) nb' ns' = 0 →
    (∀ e, e ∈ d :: r → deedF e = 0 ∧ (e.2.1 = 1 → nb < e.2.2.1) ∧ (e.2.1 ≠ 1 → ns < e.2.2.1) ∧ ∀ q, p = some q → ¬Lex e q) ∧ (d :: r).Pairwise (fun a b => ¬Lex b a) ∧ (d :: r).Pairwise (fun a b => dKey a ≠ dKey b) := by
   intro nb' ns' g1 g2 g3 g4 g5 g6 g7 g8 hg
   obtain ⟨i1, i2, i3⟩ := deedsGo_srt r (some d) nb' ns' g1 g2 g3 g4 (fun q hq => by cases hq; exact hf) hg
   refine ⟨fun e he => ?_, List.Pairwise.cons (fun e he => (i1 e he).2.2.2 d rfl) i2, List.Pairwise.cons (fun e he hk => ?_) i3⟩
   ·rcases List.mem_cons.1 he with rfl | he
    ·exact ⟨hf, fun e1 => (g7 e1).1, fun e1 => (g8 e1).1, hlex⟩
    ·obtain ⟨j1, j2, j3, j4⟩ := i1 e he
     refine ⟨j1, fun e1 => by have := j2 e1; omega, fun e1 => by have := j3 e1; omega, fun q hq hl => ?_⟩
     have k1 := hlex q hq
     have k2 := j4 d rfl
     unfold Lex at *
     omega
   ·obtain ⟨j1, j2, j3, j4⟩ := i1 e he
    have e1 : d.2.1 = e.2.1 := (Prod.mk.inj hk).1
    have e2 : d.2.2.1 = e.2.2.1 := (Prod.mk.inj hk).2
    by_cases hb : d.2.1 = 1
    ·have := j2 (by omega)
     have := (g7 hb).2
     omega
    ·have := j3 (by omega)
     have := (g8 hb).2
     omega
  by_cases hb : d.2.1 = 1
  ·rw [if_pos hb] at h
   by_cases hn : d.2.2.1 = w64 (nb + 1)
   ·rw [if_neg (fun e => e hn)] at h
    rw [w64_id (by omega) (by omega)] at hn
    exact step d.2.2.1 ns (by omega) (by omega) h3 h4 (by omega) (by omega) (fun _ => ⟨by omega, rfl⟩) (fun e => absurd hb e) h
   ·rw [if_pos hn] at h; cases h
  ·rw [if_neg hb] at h
   by_cases hn : d.2.2.1 = w64 (ns + 1)
   ·rw [if_neg (fun e => e hn)] at h
    rw [w64_id (by omega) (by omega)] at hn
    exact step nb d.2.2.1 h1 h2 (by omega) (by omega) (by omega) (by omega) (fun e => absurd e hb) (fun _ => ⟨by omega, rfl⟩) h
   ·rw [if_pos hn] at h; cases h

theorem deedsF_srt {l : List D_api_Deed} (h : deedsF l = 0) : l.Pairwise (fun a b => leD a b = true) ∧ l.Pairwise (fun a b => dKey a ≠ dKey b) := by
 have hl := (deedsF_zero h).1
 unfold deedsF at h
 rw [if_neg (by omega)] at h
 obtain ⟨_, i2, i3⟩ := deedsGo_srt l none 0 0 (by omega) (by omega) (by omega) (by omega) (fun q hq => by cases hq) h
 refine ⟨i2.imp fun {a b} hab => ?_, i3⟩
 rw [leD_iff]
 unfold Lex at *
 omega

def insR (d : D_api_Deed) : List D_api_Deed → List D_api_Deed
 | [] => [d]
 | x :: r => if dCw d x < 0 then x :: insR d r else d :: x :: r
theorem insR_perm (d : D_api_Deed) : ∀ l, (insR d l).Perm (d :: l)
 | [] => List.Perm.refl _
 | x :: r => by
  simp only [insR]
  split
  ·exact ((insR_perm d r).cons x).trans (List.Perm.swap d x r)
  ·exact List.Perm.refl _
theorem insR_srt {d : D_api_Deed} (hd : deedF d = 0) : ∀ {l : List D_api_Deed}, (∀ x, x ∈ l → deedF x = 0) → l.Pairwise (fun a b => leD b a = true) → (insR d l).Pairwise (fun a b => leD b a = true)
 | [], _, _ => List.pairwise_singleton _ _
 | x :: r, hf, hs => by
  simp only [insR]
  have hx := hf x (by simp)
  obtain ⟨s1, s2⟩ := List.pairwise_cons.1 hs
  split
  ·rename_i hlt
   rw [dCw_lt hd hx] at hlt
   refine List.Pairwise.cons (fun y hy => ?_) (insR_srt hd (fun y hy => hf y (by simp [hy])) s2)
   rcases List.mem_cons.1 ((insR_perm d r).mem_iff.1 hy) with rfl | hy
   ·rw [leD_iff]; unfold Lex at *; omega
   ·exact s1 y hy
  ·rename_i hlt
   rw [dCw_lt hd hx] at hlt
   have hle : leD x d = true := (leD_iff x d).2 (Classical.not_not.1 hlt)
   refine List.Pairwise.cons (fun y hy => ?_) hs
   rcases List.mem_cons.1 hy with rfl | hy
   ·exact hle
   ·exact leD_trans _ _ _ (s1 y hy) hle

def insF (d : D_api_Deed) (l : List D_api_Deed) : List D_api_Deed := (insR d l.reverse).reverse
def hasK (x : List D_api_Deed) (d : D_api_Deed) : Bool := x.any fun e => (e.2.1 == d.2.1) && (e.2.2.1 == d.2.2.1)
def clashK (x : List D_api_Deed) (d : D_api_Deed) : Bool := x.any fun e => ((e.2.1 == d.2.1) && (e.2.2.1 == d.2.2.1)) && !deq e d
theorem hasK_iff {x : List D_api_Deed} {d : D_api_Deed} : hasK x d = true ↔ ∃ e, e ∈ x ∧ dKey e = dKey d := by
 unfold hasK
 rw [List.any_eq_true]
 constructor
 ·rintro ⟨e, he, h⟩
  simp only [Bool.and_eq_true, beq_iff_eq] at h
  exact ⟨e, he, Prod.ext h.1 h.2⟩
 ·rintro ⟨e, he, h⟩
  refine ⟨e, he, ?_⟩
  simp only [Bool.and_eq_true, beq_iff_eq]
  exact ⟨show e.2.1 = d.2.1 from (Prod.mk.inj h).1, show e.2.2.1 = d.2.2.1 from (Prod.mk.inj h).2⟩
theorem clashK_iff {x : List D_api_Deed} {d : D_api_Deed} : clashK x d = true ↔ ∃ e, e ∈ x ∧ dKey e = dKey d ∧ e ≠ d := by
 unfold clashK
 rw [List.any_eq_true]
 constructor
 ·rintro ⟨e, he, h⟩
  simp only [Bool.and_eq_true, beq_iff_eq, Bool.not_eq_true'] at h
  exact ⟨e, he, Prod.ext h.1.1 h.1.2, fun c => by have := (deq_iff e d).2 c; rw [h.2] at this; cases this⟩
 ·rintro ⟨e, he, h, hn⟩
  refine ⟨e, he, ?_⟩
  simp only [Bool.and_eq_true, beq_iff_eq, Bool.not_eq_true']
  exact ⟨⟨show e.2.1 = d.2.1 from (Prod.mk.inj h).1, show e.2.2.1 = d.2.2.1 from (Prod.mk.inj h).2⟩, Bool.eq_false_iff.2 fun c => hn ((deq_iff e d).1 c)⟩
def refOut (x : List D_api_Deed) (y out : List D_api_Deed) : List D_api_Deed := y.foldl (fun out d => if hasK x d = true then out else insF d out) out
def refMerge (x y : List D_api_Deed) : List D_api_Deed × Int :=
 if (y.any fun d => clashK x d) = true then ([], 12) else if deedsF (refOut x y x) ≠ 0 then ([], deedsF (refOut x y x)) else (refOut x y x, 0)

theorem insF_mem {d e : D_api_Deed} {l : List D_api_Deed} : e ∈ insF d l ↔ e = d ∨ e ∈ l := by
 unfold insF
 rw [List.mem_reverse, (insR_perm d l.reverse).mem_iff, List.mem_cons, List.mem_reverse]
theorem refOut_spec {x : List D_api_Deed} (hx : ∀ d, d ∈ x → deedF d = 0) : ∀ (y out : List D_api_Deed), (∀ d, d ∈ y → deedF d = 0) → (∀ d, d ∈ out → deedF d = 0) → y.Pairwise (fun a b => dKey a ≠ dKey b) → out.Pairwise (fun a b => leD a b = true) → out.Pairwise (fun a b => dKey a ≠ dKey b) →
  (∀ d, d ∈ y → hasK x d = false → ∀ e, e ∈ out → dKey e ≠ dKey d) →
  (refOut x y out).Pairwise (fun a b => leD a b = true) ∧ (refOut x y out).Pairwise (fun a b => dKey a ≠ dKey b) ∧ ∀ e, e ∈ refOut x y out ↔ e ∈ out ∨ (e ∈ y ∧ hasK x e = false)
 | [], out, _, _, _, h1, h2, _ => ⟨h1, h2, fun e => by simp [refOut]⟩
 | d :: y, out, hy, ho, hk, h1, h2, hn => by
  obtain ⟨k1, k2⟩ := List.pairwise_cons.1 hk
  have hd := hy d (by simp)
  by_cases hh : hasK x d = true
  ·have e : refOut x (d :: y) out = refOut x y out := by unfold refOut; rw [List.foldl_cons, if_pos hh]
   rw [e]
   obtain ⟨i1, i2, i3⟩ := refOut_spec hx y out (fun z hz => hy z (by simp [hz])) ho k2 h1 h2 (fun z hz => hn z (by simp [hz]))
   refine ⟨i1, i2, fun z => (i3 z).trans ?_⟩
   simp only [List.mem_cons]
   constructor
   ·rintro (h | ⟨h, g⟩)
    ·exact .inl h
    ·exact .inr ⟨.inr h, g⟩
   ·rintro (h | ⟨rfl | h, g⟩)
    ·exact .inl h
    ·rw [hh] at g; cases g
    ·exact .inr ⟨h, g⟩
  ·have hh' : hasK x d = false := Bool.eq_false_iff.2 hh
   have e : refOut x (d :: y) out = refOut x y (insF d out) := by unfold refOut; rw [List.foldl_cons, if_neg hh]
   rw [e]
   have hs : (insF d out).Pairwise (fun a b => leD a b = true) := by
    unfold insF
    rw [List.pairwise_reverse]
    exact insR_srt hd (fun z hz => ho z (List.mem_reverse.1 hz)) (by rw [List.pairwise_reverse]; exact h1)
   have hkk : (insF d out).Pairwise (fun a b => dKey a ≠ dKey b) := by
    have hp : (insF d out).Perm (d :: out) := by
     unfold insF
     exact ((List.reverse_perm _).trans (insR_perm d _)).trans ((List.reverse_perm out).cons d)
    refine (hp.pairwise_iff (fun {a b} h => Ne.symm h)).2 (List.Pairwise.cons (fun z hz => (hn d (by simp) hh' z hz).symm) h2)
   obtain ⟨i1, i2, i3⟩ := refOut_spec hx y (insF d out) (fun z hz => hy z (by simp [hz])) (fun z hz => by
    rcases insF_mem.1 hz with rfl | hz
    ·exact hd
    ·exact ho z hz) k2 hs hkk (fun z hz hzz e he => by
     rcases insF_mem.1 he with rfl | he
     ·exact k1 z hz
     ·exact hn z (by simp [hz]) hzz e he)
   refine ⟨i1, i2, fun z => (i3 z).trans ?_⟩
   rw [insF_mem]
   simp only [List.mem_cons]
   constructor
   ·rintro ((rfl | h) | ⟨h, g⟩)
    ·exact .inr ⟨.inl rfl, hh'⟩
    ·exact .inl h
    ·exact .inr ⟨.inr h, g⟩
   ·rintro (h | ⟨rfl | h, g⟩)
    ·exact .inl (.inr h)
    ·exact .inl (.inl rfl)
    ·exact .inr ⟨h, g⟩

theorem refMerge_eq {x y : List D_api_Deed} (hx : deedsF x = 0) (hy : deedsF y = 0) : refMerge x y = mergeF x y := by
 obtain ⟨x1, x2⟩ := deedsF_srt hx
 obtain ⟨y1, y2⟩ := deedsF_srt hy
 have hxf := (deedsF_zero hx).2
 have hyf := (deedsF_zero hy).2
 have inj : ∀ {l : List D_api_Deed}, l.Pairwise (fun a b => dKey a ≠ dKey b) → Unif l := by
  intro l hp d hd e he hk
  obtain ⟨i, hi, rfl⟩ := List.mem_iff_getElem.1 hd
  obtain ⟨j, hj, rfl⟩ := List.mem_iff_getElem.1 he
  rw [List.pairwise_iff_getElem] at hp
  rcases Nat.lt_trichotomy i j with h | h | h
  ·exact absurd hk (hp i j hi hj h)
  ·subst h; rfl
  ·exact absurd hk.symm (hp j i hj hi h)
 have hsp := dedup_spec (x ++ y) [] List.Pairwise.nil
 rw [List.nil_append] at hsp
 by_cases hc : (y.any fun d => clashK x d) = true
 ·have e1 : refMerge x y = ([], 12) := by unfold refMerge; rw [if_pos hc]
  rw [e1]
  obtain ⟨d, hd, hcd⟩ := List.any_eq_true.1 hc
  obtain ⟨e, he, hk, hne⟩ := clashK_iff.1 hcd
  have : ¬Unif (x ++ y) := fun h => hne (h e (List.mem_append_left _ he) d (List.mem_append_right _ hd) hk)
  unfold mergeF
  rw [hsp.2 this]
 ·have nc : ∀ d, d ∈ y → ∀ e, e ∈ x → dKey e = dKey d → e = d := fun d hd e he hk => Classical.byContradiction fun hne => hc (List.any_eq_true.2 ⟨d, hd, clashK_iff.2 ⟨e, he, hk, hne⟩⟩)
  have hu : Unif (x ++ y) := by
   intro d hd e he hk
   rcases List.mem_append.1 hd with hd | hd <;> rcases List.mem_append.1 he with he | he
   ·exact inj x2 d hd e he hk
   ·exact nc e he d hd hk
   ·exact (nc d hd e he hk.symm).symm
   ·exact inj y2 d hd e he hk
  obtain ⟨k, h1, h2, h3⟩ := hsp.1 hu
  obtain ⟨r1, r2, r3⟩ := refOut_spec hxf y x hyf hxf y2 x1 x2 (fun d _ hk e he h => by
   have := hasK_iff.2 ⟨e, he, h⟩
   rw [hk] at this; cases this)
  have hm : ∀ d, d ∈ refOut x y x ↔ d ∈ k := by
   intro d
   rw [r3, h3, List.mem_append]
   constructor
   ·rintro (h | ⟨h, _⟩)
    ·exact .inl h
    ·exact .inr h
   ·rintro (h | h)
    ·exact .inl h
    ·by_cases hk : hasK x d = true
     ·obtain ⟨e, he, hke⟩ := hasK_iff.1 hk
      exact .inl (nc d h e he hke ▸ he)
     ·exact .inr ⟨h, Bool.eq_false_iff.2 hk⟩
  have hk : Unif k := hu.of_mem fun d hd => (h3 d).1 hd
  have e2 : sortD (refOut x y x) = sortD k := sort_unique r2 h2 (hk.of_mem fun d hd => (hm d).1 hd) hm
  have e3 : sortD (refOut x y x) = refOut x y x := List.mergeSort_of_pairwise r1
  unfold refMerge mergeF
  rw [if_neg hc, h1]
  dsimp only
  rw [← e2, e3]

end Go.Md
