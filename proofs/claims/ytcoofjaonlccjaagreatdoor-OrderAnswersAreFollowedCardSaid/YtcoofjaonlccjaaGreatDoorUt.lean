/-
 Plain facts: deeds, followed one behind the other. No condition.
-/
import Derived.Test.YtcoofjaonlccjaaGreatDoorUs
import Derived.Test.YtcoofjaonlccjaaGreatDoorUq
import Derived.Test.YtcoofjaonlccjaaGreatDoorUo
set_option linter.all false
namespace Go.Md
open Go.Dn

theorem olineF_zero {day : Int} {p : Option D_api_Line} {x : D_api_Line} (h : olineF day p x = 0) : (1 ≤ x.1 ∧ x.1 ≤ 99999) ∧ (∀ q, p = some q → q.1 < x.1) ∧ isNm x.2.1 = true ∧ qOk x.2.2.1 false = true ∧ isNm x.2.2.2.1 = true ∧ inR x.2.2.2.2.1 0 1000000000 4 = true ∧ (day ≤ x.2.2.2.2.2 ∧ x.2.2.2.2.2 ≤ 3652059) := by
 unfold olineF at h
 split at h
 ·cases h
 ·rename_i h1
  split at h
  ·cases h
  ·rename_i h2
   split at h
   ·cases h
   ·rename_i h3
    split at h
    ·cases h
    ·rename_i h4
     split at h
     ·cases h
     ·rename_i h5
      split at h
      ·cases h
      ·rename_i h6
       split at h
       ·cases h
       ·rename_i h7
        refine ⟨Classical.not_not.1 h1, fun q hq => ?_, by simpa using h3, by simpa using h4, by simpa using h5, by simpa using h6, Classical.not_not.1 h7⟩
        subst hq
        have : ¬x.1 ≤ q.1 := fun e => h2 (decide_eq_true e)
        omega

theorem olinesGo_zero {day : Int} : ∀ {r : List D_api_Line} {p : Option D_api_Line}, olinesGo day r p = 0 →
  (∀ x, x ∈ r → isNm x.2.1 = true ∧ qOk x.2.2.1 false = true ∧ isNm x.2.2.2.1 = true ∧ inR x.2.2.2.2.1 0 1000000000 4 = true ∧ (1 ≤ x.1 ∧ x.1 ≤ 99999) ∧ (day ≤ x.2.2.2.2.2 ∧ x.2.2.2.2.2 ≤ 3652059)) ∧ (∀ q, p = some q → ∀ x, x ∈ r → q.1 < x.1) ∧ r.Pairwise (fun a b => a.1 < b.1)
 | [], p, _ => ⟨nofun, fun _ _ _ h => (nomatch h), List.Pairwise.nil⟩
 | y :: r, p, h => by
  simp only [olinesGo] at h
  by_cases hf : olineF day p y = 0
  ·rw [if_neg (fun e => e hf)] at h
   obtain ⟨a1, a2, a3⟩ := olinesGo_zero h
   obtain ⟨b1, b2, b3, b4, b5, b6, b7⟩ := olineF_zero hf
   refine ⟨fun x hx => ?_, fun q hq x hx => ?_, List.Pairwise.cons (fun x hx => a2 y rfl x hx) a3⟩
   ·rcases List.mem_cons.1 hx with rfl | hx
    ·exact ⟨b3, b4, b5, b6, b1, b7⟩
    ·exact a1 x hx
   ·rcases List.mem_cons.1 hx with rfl | hx
    ·exact b2 q hq
    ·have := b2 q hq
     have := a2 y rfl x hx
     omega
  ·rw [if_pos hf] at h
   exact absurd h hf

theorem ordF_zero {o : D_api_Order} (h : ordF o = 0) : (1 ≤ oDay o ∧ oDay o ≤ 3652059) ∧ (0 ≤ oExt o ∧ oExt o ≤ 1000) ∧ (oLns o).length ≤ 500 ∧ oLns o ≠ [] ∧ olinesGo (oDay o) (oLns o) none = 0 ∧ (isNm (oNum o) = true ∧ isNm (oBuy o) = true ∧ isNm (oSel o) = true ∧ oBuy o ≠ oSel o) := by
 unfold ordF at h
 split at h
 ·cases h
 ·rename_i h1
  split at h
  ·cases h
  ·rename_i h2
   split at h
   ·cases h
   ·rename_i h3
    split at h
    ·cases h
    ·rename_i h4
     split at h
     ·cases h
     ·rename_i h5
      split at h
      ·cases h
      ·rename_i h6
       refine ⟨Classical.not_not.1 h3, Classical.not_not.1 h4, by omega, h5, h, ?_, ?_, ?_, h2⟩
       ·cases hb : isNm (oNum o)
        ·exact absurd (.inl hb) h1
        ·rfl
       ·cases hb : isNm (oBuy o)
        ·exact absurd (.inr (.inl hb)) h1
        ·rfl
       ·cases hb : isNm (oSel o)
        ·exact absurd (.inr (.inr hb)) h1
        ·rfl

def lineOf (x : D_api_Line) : LineS := ⟨x.1, x.2.1, x.2.2.2.1, unitsZ x.2.2.1, 0, 0, 0, x.2.2.2.2.1, x.2.2.2.2.2, -1, 0, 0, 0⟩
abbrev linesOf (o : D_api_Order) : List LineS := (oLns o).map lineOf

theorem findGo_none {n : Int} : ∀ {A : List LineS} {i : Nat}, (∀ x, x ∈ A → x.no ≠ n) → findGo n i A = none
 | [], _, _ => rfl
 | x :: r, i, h => by
  simp only [findGo]
  rw [if_neg (fun e => h x (by simp) e.symm)]
  exact findGo_none (fun y hy => h y (by simp [hy]))

theorem take_succ' {α : Type} {l : List α} {i : Nat} {y : α} (h : l[i]? = some y) : l.take (i + 1) = l.take i ++ [y] := by
 rw [List.take_add_one, h]; rfl

theorem order_newFollower_eq {o : D_api_Order} (ho : ordF o = 0) (l : List D_api_Deed) : order_newFollower o l [] = some ((o, l, mapOf (linesOf o), [], [], 0, ()), (linesOf o).map LineS.tup, ()) := by
 obtain ⟨_, _, hlen, _, hgo, _⟩ := ordF_zero ho
 obtain ⟨hln, _, hpw⟩ := olinesGo_zero hgo
 obtain ⟨onum, obuy, osel, oday, oext, lns⟩ := o
 change lns.length ≤ 500 at hlen
 change ∀ x, x ∈ lns → _ at hln
 change lns.Pairwise _ at hpw
 unfold order_newFollower
 have := iter_for (f := order_newFollower_b3) (fun (_ : Unit) (i : Nat) => ((lns, (lns.length : Int), (i : Int), onum, obuy, osel, oday, oext, lns, l, [], [], 0, mapOf ((lns.take i).map lineOf), ((lns.take i).map lineOf).map LineS.tup, ()) : order_newFollower_x3)) lns
  (fun (_ : Unit) _ _ k => k ()) (fun _ => some (Sum.inr (onum, obuy, osel, oday, oext, lns, l, [], [], 0, mapOf (lns.map lineOf), (lns.map lineOf).map LineS.tup, ()))) (fun s i y again hy => by
   have hi : i < lns.length := (List.getElem?_eq_some_iff.1 hy).1
   unfold order_newFollower_b3
   dsimp only
   rw [decide_eq_true (show (i : Int) < (lns.length : Int) by omega), cond_true, idx_get hy, Option.bind_some, order_units_eq (hln y (List.mem_of_getElem? hy)).2.1, Option.bind_some]
   have hno : findGo y.1 0 ((lns.take i).map lineOf) = none := findGo_none fun z hz => by
    obtain ⟨q, hq, rfl⟩ := List.mem_map.1 hz
    obtain ⟨j, hj⟩ := List.mem_iff_getElem?.1 hq
    have hji : j < i := by
     have := (List.getElem?_eq_some_iff.1 hj).1
     simp at this; omega
    rw [List.getElem?_take_of_lt hji] at hj
    have h1 := List.pairwise_iff_getElem.1 hpw j i (by omega) hi hji
    have e1 : lns[j] = q := by have := List.getElem?_eq_getElem (show j < lns.length by omega); rw [hj] at this; exact (Option.some.inj this).symm
    have e2 : lns[i] = y := by have := List.getElem?_eq_getElem hi; rw [hy] at this; exact (Option.some.inj this).symm
    rw [e1, e2] at h1
    show q.1 ≠ y.1
    omega
   have hs := mset_map y.1 (lineOf y) rfl ((lns.take i).map lineOf) 0 hno
   rw [Nat.zero_add] at hs
   rw [List.length_map, w64_id (n := (i : Int) + 1) (by omega) (by omega)]
   have ht : (lns.take (i + 1)).map lineOf = (lns.take i).map lineOf ++ [lineOf y] := by rw [take_succ' hy, List.map_append]; rfl
   rw [ht]
   refine congrArg again ?_
   refine Prod.ext rfl (Prod.ext rfl (Prod.ext rfl (Prod.ext rfl (Prod.ext rfl (Prod.ext rfl (Prod.ext rfl (Prod.ext rfl (Prod.ext rfl (Prod.ext rfl (Prod.ext rfl (Prod.ext rfl (Prod.ext rfl (Prod.ext hs (Prod.ext ?_ rfl))))))))))))))
   show List.map LineS.tup _ ++ [_] = List.map LineS.tup (_ ++ [lineOf y])
   rw [List.map_append]; rfl) (fun s again => by
   unfold order_newFollower_b3
   dsimp only
   rw [decide_eq_false (show ¬((lns.length : Int) < (lns.length : Int)) by omega), cond_false, List.take_length]) ()
 have hfor : ∀ (r : List D_api_Line) (i : Nat) (β : Type) (f : Option β), forL (fun (_ : Unit) _ _ k => k ()) (fun _ => f) r i () = f := by
  intro r
  induction r with
  | nil => intro i β f; rfl
  | cons y r ih => intro i β f; exact ih (i + 1) β f
 refine (congrArg (fun z => joinB z _) ((this _ ?_).trans (hfor _ _ _ _))).trans rfl
 simp only [List.length_nil]
 omega

/-! ### the state of a line -/

def toldQ (n : Int) : D_api_Decimal := ((few 3 n).1, ((few 3 n).2 : Int))
theorem order_told_eq {n : Int} (h0 : 0 ≤ n) (h1 : n ≤ 1000000000000000) : order_told n = some (toldQ n, ()) := by
 unfold order_told
 rw [whole_Of_eq n (by omega) (by omega), Option.bind_some]
 have hb : n.natAbs < 4294967296 ^ 99 := Nat.lt_of_lt_of_le (show n.natAbs < 4294967296 ^ 2 by omega) (Nat.pow_le_pow_right (by omega) (by omega))
 have := amount_Fewest_eq n hb 3 (by omega)
 rw [show ((3 : Nat) : Int) = 3 from rfl] at this
 dsimp only
 rw [this, Option.bind_some, if_pos (by have := (few_val 3 n).2.2; omega)]
 rfl

def leastZ (d : D_api_Decimal) : D_api_Decimal := ((few d.2.toNat d.1).1, ((few d.2.toNat d.1).2 : Int))
theorem amount_Least_eq {d : D_api_Decimal} (h0 : 0 ≤ d.1) (h1 : d.1 ≤ 1000000000000000) (h2 : 0 ≤ d.2) (h3 : d.2 ≤ 9) : amount_Least d = some (leastZ d, ()) := by
 unfold amount_Least
 have loop : ∀ (n : Nat) (z : Int) (p : Nat), 0 ≤ z → z ≤ 1000000000000000 → p ≤ 9 → p < n → iter (X := amount_Least_x1) (β := amount_Least_r1) n (z, (p : Int), 0, 0, ()) amount_Least_b1 = some (Sum.inr ((few p z).1, ((few p z).2 : Int), 0, 0, ())) := by
  intro n
  induction n with
  | zero => intro z p _ _ _ h; omega
  | succ n ih =>
   intro z p hz hz1 hp hn
   rw [iter_succ]
   generalize hag : (fun y => iter n y amount_Least_b1) = again
   unfold amount_Least_b1
   dsimp only
   cases p with
   | zero => rfl
   | succ p =>
    rw [decide_eq_true (show ((p + 1 : Nat) : Int) > 0 by omega), cond_true, Option.bind_some]
    dsimp only
    rw [Int.tmod_eq_emod_of_nonneg hz]
    by_cases hm : z % 10 = 0
    ·rw [show (z % 10 == 0) = true by simp [hm], cond_true, Int.tdiv_eq_ediv_of_nonneg hz, w64_id (n := z / 10) (by omega) (by omega), w64_id (n := ((p + 1 : Nat) : Int) - 1) (by omega) (by omega),
      show ((p + 1 : Nat) : Int) - 1 = (p : Int) by omega, ← hag]
     refine (ih (z / 10) p (by omega) (by omega) (by omega) (by omega)).trans ?_
     rw [show few (p + 1) z = few p (z / 10) by rw [few, if_pos hm]]
    ·rw [show (z % 10 == 0) = false by simp [hm], cond_false, show few (p + 1) z = (z, p + 1) by rw [few, if_neg hm]]
 obtain ⟨k, hk⟩ : ∃ k : Nat, d.2 = k := ⟨d.2.toNat, by omega⟩
 rw [hk]
 have := loop (Int.natAbs d.1 + (Int.natAbs (k : Int) + (Int.natAbs (0 : Int) + (Int.natAbs (0 : Int) + 2)))) d.1 k h0 h1 (by omega) (by omega)
 rw [this]
 unfold leastZ
 rw [hk]
 rfl

def stateZ (x : LineS) : D_api_State := (x.no, x.art, x.unit, toldQ x.ord, leastZ x.price, x.due, toldQ x.shp, toldQ x.rcv, toldQ x.ret, toldQ x.opn)
def PrOk (x : LineS) : Prop := 0 ≤ x.price.1 ∧ x.price.1 ≤ 1000000000000000 ∧ 0 ≤ x.price.2 ∧ x.price.2 ≤ 9
theorem opn_le {x : LineS} (h : LOk x) : 0 ≤ x.opn ∧ x.opn ≤ 1000000000000 := by
 have := h.ret0; have := h.retr; have := h.rcvs; have := h.ord1
 unfold LineS.opn
 split <;> omega
theorem order_line_state_eq {A : List LineS} {k : Nat} {x : LineS} (h : A[k]? = some x) (hx : LOk x) (hp : PrOk x) : order_line_state (some k) (A.map LineS.tup) = some (stateZ x, ()) := by
 obtain ⟨p1, p2, p3, p4⟩ := hp
 obtain ⟨q1, q2⟩ := opn_le hx
 have := hx.ret0; have := hx.retr; have := hx.rcvs; have := hx.shp1; have := hx.ord0; have := hx.ord1
 unfold order_line_state
 simp only [Option.bind_some, tup_get h, order_line_open_eq h hx]
 rw [order_told_eq (n := x.ord) (by omega) (by omega), order_told_eq (n := x.shp) (by omega) (by omega), order_told_eq (n := x.rcv) (by omega) (by omega), order_told_eq (n := x.ret) (by omega) (by omega), order_told_eq (n := x.opn) (by omega) (by omega), amount_Least_eq p1 p2 p3 p4]
 rfl

end Go.Md

namespace Go.Md
open Go.Dn

theorem inR_price {d : D_api_Decimal} (h : inR d 0 1000000000 4 = true) : 0 ≤ d.1 ∧ d.1 ≤ 1000000000000000 ∧ 0 ≤ d.2 ∧ d.2 ≤ 9 := by
 unfold inR at h
 obtain ⟨⟨h1, h2, h3⟩, h4, h5, h6⟩ := of_decide_eq_true h
 refine ⟨by omega, by omega, h2, h3⟩

theorem answerZ_pr {l : List D_api_Deed} {d : D_api_Deed} {x : LineS} (hw : WOk l x) (hl : ∀ d, d ∈ l → deedF d = 0) (hp : PrOk x) : PrOk (answerZ l d x).2 := by
 unfold answerZ
 by_cases h1 : x.wish < 0
 ·rw [if_pos h1]; exact hp
 rw [if_neg h1]
 obtain ⟨w, hw1, hw2⟩ := hw.kind (by omega)
 rw [wishDeed_eq hw1]
 obtain ⟨_, _, _, hk, _, _, hu⟩ := deedF_zero (hl w (List.mem_of_getElem? hw1))
 obtain ⟨_, up, _⟩ := used_zero hu
 by_cases h2 : dNo w ≠ dTo d
 ·rw [if_pos h2]; exact hp
 rw [if_neg h2]
 by_cases h3 : dKind d = 5
 ·rw [if_pos h3]
  by_cases k2 : dKind w = 2
  ·rw [if_pos k2]
   split <;> exact hp
  ·rw [if_neg k2]
   by_cases k1 : dKind w = 1
   ·rw [if_pos k1]; exact hp
   ·rw [if_neg k1]
    by_cases k3 : dKind w = 3
    ·rw [if_pos k3]; exact hp
    ·rw [if_neg k3]
     have hk' : 1 ≤ dKind w ∧ dKind w ≤ 11 := hk
     exact inR_price (up (by unfold usP; exact decide_eq_true (.inr (by omega))))
 ·rw [if_neg h3]; exact hp

theorem moveZ_pr {ext : Int} {d : D_api_Deed} {x : LineS} (hp : PrOk x) : PrOk (moveZ ext d x).2 := by
 unfold moveZ
 split
 ·split
  ·exact hp
  ·split <;> exact hp
 ·split
  ·split <;> exact hp
  ·split <;> exact hp
theorem actZ_pr {o : D_api_Order} {l : List D_api_Deed} {i : Nat} {d : D_api_Deed} {x : LineS} (hw : WOk l x) (hl : ∀ d, d ∈ l → deedF d = 0) (hp : PrOk x) : PrOk (actZ o l i d x).2 := by
 have ha := answerZ_pr (d := d) hw hl hp
 have hm := moveZ_pr (ext := oExt o) (d := d) hp
 unfold actZ
 split
 ·unfold wishZ
  split
  ·exact hp
  ·split <;> exact hp
 ·split
  ·split <;> exact ha
  ·split
   ·split <;> exact hp
   ·split
    ·unfold takeZ
     split
     ·exact hp
     ·split <;> exact hp
    ·split
     ·split <;> exact hm
     ·exact hm

structure Good (l : List D_api_Deed) (A : List LineS) : Prop where
 sound : Sound l A
 pr : ∀ x, x ∈ A → PrOk x

theorem deedZ_good {o : D_api_Order} {l : List D_api_Deed} {i : Nat} {d : D_api_Deed} {A : List LineS} (hA : Good l A) (hl : ∀ d, d ∈ l → deedF d = 0) (hd : l[i]? = some d) : Good l (deedZ o l i d A).2 := by
 refine ⟨(deedZ_ok hA.sound hl hd).1, fun x hx => ?_⟩
 unfold deedZ at hx
 by_cases k1 : dKind d = 1
 ·rw [if_pos k1] at hx
  split at hx
  ·exact hA.pr x hx
  ·split at hx
   ·exact hA.pr x hx
   ·split at hx
    ·exact hA.pr x hx
    ·rcases List.mem_append.1 hx with hx | hx
     ·exact hA.pr x hx
     ·simp only [List.mem_singleton] at hx
      subst hx
      obtain ⟨_, _, _, _, _, _, hu⟩ := deedF_zero (hl d (List.mem_of_getElem? hd))
      exact inR_price ((used_zero hu).2.1 (by rw [k1]; rfl))
 ·rw [if_neg k1] at hx
  split at hx
  ·exact hA.pr x hx
  ·split at hx
   ·rename_i y hy
    rcases List.mem_or_eq_of_mem_set hx with hx | hx
    ·exact hA.pr x hx
    ·subst hx
     have hm := List.mem_of_getElem? hy
     exact actZ_pr (hA.sound.line y hm).2 hl (hA.pr y hm)
   ·exact hA.pr x hx

def lineL (n : Int) (A : List LineS) : Option LineS := (findL n A).bind fun k => A[k]?
theorem lineL_some {n : Int} {A : List LineS} {k : Nat} {x : LineS} (h : findL n A = some k) (hx : A[k]? = some x) : lineL n A = some x := by unfold lineL; rw [h]; exact hx

theorem deedZ_found {o : D_api_Order} {l : List D_api_Deed} {i : Nat} {d : D_api_Deed} {A : List LineS} (hA : Sound l A) (hl : ∀ d, d ∈ l → deedF d = 0) (hd : l[i]? = some d) (h0 : (deedZ o l i d A).1 = 0) :
  ∃ k x, findL (dLine d) (deedZ o l i d A).2 = some k ∧ (deedZ o l i d A).2[k]? = some x := by
 unfold deedZ at h0 ⊢
 by_cases k1 : dKind d = 1
 ·rw [if_pos k1] at h0 ⊢
  split at h0
  ·cases h0
  ·rename_i hf
   split at h0
   ·cases h0
   ·rename_i h5
    split at h0
    ·cases h0
    ·rename_i h6
     rw [if_neg h5, if_neg h6]
     refine ⟨A.length, newLine i d, ?_, by simp⟩
     show findGo (dLine d) 0 (A ++ [newLine i d]) = _
     rw [findGo_app, show findGo (dLine d) 0 A = none from hf, if_pos (show dLine d = (newLine i d).no from rfl)]
     simp
 ·rw [if_neg k1] at h0 ⊢
  split at h0
  ·cases h0
  ·rename_i k hk
   obtain ⟨x, hx, hxn⟩ := findL_some hk
   rw [hx]
   dsimp only
   obtain ⟨h1, h2⟩ := hA.line x (List.mem_of_getElem? hx)
   refine ⟨k, _, ?_, get_set hx _⟩
   show findGo (dLine d) 0 (A.set k _) = _
   rw [findGo_set A 0 (fun z hz => by rw [hx] at hz; cases hz; exact (actZ_ok (o := o) h1 h2 hl hd).2.2.1)]
   exact hk

def ptOf (wt : Int) (i : Nat) (d : D_api_Deed) (A : List LineS) (pts : List D_api_Point) : List D_api_Point :=
 if dLine d = wt then (match lineL (dLine d) A with | some x => pts ++ [((i : Int), stateZ x)] | none => pts) else pts
def runZ (o : D_api_Order) (l : List D_api_Deed) (wt day : Int) : List D_api_Deed → Nat → List LineS → List (Int × Int) → List D_api_Point → List LineS × List (Int × Int) × List D_api_Point
 | [], _, A, ref, pts => (A, ref, pts)
 | d :: r, i, A, ref, pts =>
  if day < d.1 then (A, ref, pts)
  else if (deedZ o l i d A).1 ≠ 0 then runZ o l wt day r (i + 1) (deedZ o l i d A).2 (ref ++ [((i : Int), (deedZ o l i d A).1)]) pts
  else runZ o l wt day r (i + 1) (deedZ o l i d A).2 ref (ptOf wt i d (deedZ o l i d A).2 pts)

theorem chk_true' {β : Type} {b : Bool} (h : b = true) (x : Option β) : chk b x = x := by rw [h]; rfl

theorem run_iter {onum obuy osel : List UInt8} {oday oext : Int} {olns : List D_api_Line} {l : List D_api_Deed} {wt day : Int} (he0 : 0 ≤ oext) (he1 : oext ≤ 1000) (hl : ∀ d, d ∈ l → deedF d = 0) (hlen : l.length ≤ 2000) :
  ∀ (r : List D_api_Deed) (i n : Nat) (A : List LineS) (ref : List (Int × Int)) (pts : List D_api_Point), l.drop i = r → i ≤ l.length → Good l A → ref.length ≤ i → pts.length ≤ i → r.length < n →
   iter (X := order_follower_run_x1) (β := order_follower_run_r1) n (day, l, (l.length : Int), (i : Int), onum, obuy, osel, oday, oext, olns, l, mapOf A, ref, pts, wt, A.map LineS.tup, ()) order_follower_run_b1 =
    some (Sum.inr (onum, obuy, osel, oday, oext, olns, l, mapOf (runZ (onum, obuy, osel, oday, oext, olns) l wt day r i A ref pts).1, (runZ (onum, obuy, osel, oday, oext, olns) l wt day r i A ref pts).2.1, (runZ (onum, obuy, osel, oday, oext, olns) l wt day r i A ref pts).2.2, wt, (runZ (onum, obuy, osel, oday, oext, olns) l wt day r i A ref pts).1.map LineS.tup, ())) := by
 intro r
 induction r with
 | nil =>
  intro i n A ref pts hd hi hA hr hp hn
  have : i = l.length := by
   have := congrArg List.length hd
   simp at this; omega
  subst this
  obtain ⟨n, rfl⟩ : ∃ m, n = m + 1 := ⟨n - 1, by omega⟩
  rw [iter_succ]
  unfold order_follower_run_b1
  dsimp only
  rw [decide_eq_false (show ¬((l.length : Int) < (l.length : Int)) by omega), cond_false]
  rfl
 | cons d r ih =>
  intro i n A ref pts hdr hi hA hr hp hn
  have hd : l[i]? = some d := by
   have := congrArg (·[0]?) hdr
   simpa [List.getElem?_drop] using this
  have hr' : l.drop (i + 1) = r := by
   have := congrArg List.tail hdr
   simpa [List.tail_drop] using this
  have hlt : i < l.length := (List.getElem?_eq_some_iff.1 hd).1
  obtain ⟨n, rfl⟩ : ∃ m, n = m + 1 := ⟨n - 1, by simp at hn; omega⟩
  rw [iter_succ]
  generalize hag : (fun y => iter n y order_follower_run_b1) = again
  unfold order_follower_run_b1
  dsimp only
  rw [decide_eq_true (show (i : Int) < (l.length : Int) by omega), cond_true, idx_get hd, Option.bind_some]
  have hdeed := order_follower_deed_eq (o := (onum, obuy, osel, oday, oext, olns)) (ref := ref) (pts := pts) (wt := wt) hA.sound hl hd he0 he1
  have hgood := deedZ_good (o := (onum, obuy, osel, oday, oext, olns)) hA hl hd
  by_cases hday : day < d.1
  ·rw [decide_eq_true (show d.1 > day from hday), cond_true]
   simp only [runZ, if_pos hday]
  ·rw [decide_eq_false (show ¬d.1 > day from hday), cond_false]
   rw [hdeed, Option.bind_some]
   dsimp only
   rw [w64_id (n := (i : Int) + 1) (by omega) (by omega)]
   simp only [runZ, if_neg hday]
   have hmax : maxLen = 9223372036854775807 := rfl
   have hi1 : (i : Int) + 1 = ((i + 1 : Nat) : Int) := by omega
   by_cases he : (deedZ (onum, obuy, osel, oday, oext, olns) l i d A).1 = 0
   ·rw [if_neg (fun h => h he), he]
    rw [show ((0 : Int) != 0) = false from rfl, cond_false]
    by_cases hw : dLine d = wt
    ·obtain ⟨k, x, hk, hx⟩ := deedZ_found hA.sound hl hd he
     have hxm := List.mem_of_getElem? hx
     rw [show (d.2.2.2.2.1 == wt) = true by simpa using hw, cond_true, mget_map, show findGo d.2.2.2.2.1 0 _ = some k from hk,
      order_line_state_eq hx (hgood.sound.line x hxm).1 (hgood.pr x hxm), Option.bind_some]
     rw [chk_true' (by rw [Bool.and_eq_true]; exact ⟨decide_eq_true (by omega), decide_eq_true (by omega)⟩)]
     have hpt : ptOf wt i d (deedZ (onum, obuy, osel, oday, oext, olns) l i d A).2 pts = pts ++ [((i : Int), stateZ x)] := by
      unfold ptOf
      rw [if_pos hw, lineL_some hk hx]
     rw [hpt, hi1, ← hag]
     exact ih (i + 1) n _ ref _ hr' (by omega) hgood (by omega) (by simp; omega) (by simp at hn; omega)
    ·rw [show (d.2.2.2.2.1 == wt) = false by simpa using hw, cond_false]
     have hpt : ptOf wt i d (deedZ (onum, obuy, osel, oday, oext, olns) l i d A).2 pts = pts := by
      unfold ptOf
      rw [if_neg hw]
     rw [hpt, hi1, ← hag]
     exact ih (i + 1) n _ ref pts hr' (by omega) hgood (by omega) (by omega) (by simp at hn; omega)
   ·rw [if_pos he, bne_of_ne he, cond_true]
    rw [chk_true' (by rw [Bool.and_eq_true]; exact ⟨decide_eq_true (by omega), decide_eq_true (by omega)⟩)]
    rw [hi1, ← hag]
    exact ih (i + 1) n _ _ pts hr' (by omega) hgood (by simp; omega) (by omega) (by simp at hn; omega)

theorem order_follower_run_eq {o : D_api_Order} {l : List D_api_Deed} {wt day : Int} {A : List LineS} (he : 0 ≤ oExt o ∧ oExt o ≤ 1000) (hl : ∀ d, d ∈ l → deedF d = 0) (hlen : l.length ≤ 2000) (hA : Good l A) :
  order_follower_run (o, l, mapOf A, [], [], wt, ()) day (A.map LineS.tup) = some ((o, l, mapOf (runZ o l wt day l 0 A [] []).1, (runZ o l wt day l 0 A [] []).2.1, (runZ o l wt day l 0 A [] []).2.2, wt, ()), (runZ o l wt day l 0 A [] []).1.map LineS.tup, ()) := by
 obtain ⟨onum, obuy, osel, oday, oext, olns⟩ := o
 unfold order_follower_run
 refine (congrArg (fun z => joinB z _) (run_iter (onum := onum) (obuy := obuy) (osel := osel) (oday := oday) (olns := olns) (wt := wt) (day := day) he.1 he.2 hl hlen l 0 _ A [] [] rfl (Nat.zero_le _) hA (Nat.zero_le _) (Nat.zero_le _) ?_)).trans rfl
 dsimp only
 omega

theorem lines_good {o : D_api_Order} (ho : ordF o = 0) (l : List D_api_Deed) : Good l (linesOf o) := by
 obtain ⟨_, _, _, _, hgo, _⟩ := ordF_zero ho
 obtain ⟨hln, _, _⟩ := olinesGo_zero hgo
 refine ⟨⟨fun x hx => ?_⟩, fun x hx => ?_⟩
 ·obtain ⟨q, hq, rfl⟩ := List.mem_map.1 hx
  obtain ⟨_, h2, _⟩ := hln q hq
  obtain ⟨u0, u1, _⟩ := unitsZ_le h2
  exact ⟨⟨by show (0 : Int) ≤ 0; omega, by show (0 : Int) ≤ 0; omega, by show (0 : Int) ≤ 0; omega, by show (0 : Int) ≤ _; omega, u0, u1, fun e => absurd rfl e⟩, ⟨by show (-1 : Int) ≤ -1; omega, fun h => by have : (0 : Int) ≤ -1 := h; omega⟩⟩
 ·obtain ⟨q, hq, rfl⟩ := List.mem_map.1 hx
  obtain ⟨_, _, _, h4, _⟩ := hln q hq
  exact inR_price h4

def allZ (o : D_api_Order) (l : List D_api_Deed) (wt day : Int) : List LineS × List (Int × Int) × List D_api_Point := runZ o l wt day l 0 (linesOf o) [] []
def chkF (o : D_api_Order) (l : List D_api_Deed) : Int := if ordF o ≠ 0 then ordF o else deedsF l
theorem chkF_zero {o : D_api_Order} {l : List D_api_Deed} (h : chkF o l = 0) : ordF o = 0 ∧ deedsF l = 0 := by
 unfold chkF at h
 split at h
 ·rename_i h1; exact absurd h h1
 ·rename_i h1; exact ⟨Classical.not_not.1 h1, h⟩

theorem start_eq {o : D_api_Order} {l : List D_api_Deed} (h : chkF o l = 0) (wt day : Int) : ∃ q, order_newFollower o l [] = some ((o, l, mapOf (linesOf o), [], [], 0, ()), (linesOf o).map LineS.tup, ()) ∧
  order_follower_run (o, l, mapOf (linesOf o), [], [], wt, ()) day ((linesOf o).map LineS.tup) = some ((o, l, mapOf (allZ o l wt day).1, (allZ o l wt day).2.1, (allZ o l wt day).2.2, wt, ()), (allZ o l wt day).1.map LineS.tup, ()) ∧ q = () := by
 obtain ⟨h1, h2⟩ := chkF_zero h
 obtain ⟨h3, h4⟩ := deedsF_zero h2
 exact ⟨(), order_newFollower_eq h1 l, order_follower_run_eq (ordF_zero h1).2.1 h4 h3 (lines_good h1 l), rfl⟩

theorem order_at_e_eq (o : D_api_Order) (l : List D_api_Deed) (day : Int) : order_at_e o l day [] = (if chkF o l ≠ 0 then some (none, chkF o l, [], ()) else if ¬(1 ≤ day ∧ day ≤ 3652059) then some (none, 1, [], ()) else none) := by
 unfold order_at_e
 rw [order_checked_eq, Option.bind_some, kit_IsDay_eq]
 dsimp only
 by_cases h : chkF o l = 0
 ·rw [if_neg (show ¬chkF o l ≠ 0 from fun e => e h), show (if ordF o ≠ 0 then ordF o else deedsF l) = 0 from h, show ((0 : Int) != 0) = false from rfl, cond_false, Option.bind_some]
  by_cases hd : 1 ≤ day ∧ day ≤ 3652059
  ·rw [if_neg (show ¬¬(1 ≤ day ∧ day ≤ 3652059) from fun e => e hd), decide_eq_true hd]
   obtain ⟨_, e1, e2, _⟩ := start_eq h 0 day
   dsimp only
   rw [Bool.not_true, cond_false, e1, Option.bind_some]
   dsimp only
   rw [e2]; rfl
  ·rw [if_pos hd, decide_eq_false hd]; rfl
 ·rw [if_pos (show chkF o l ≠ 0 from h), show ((if ordF o ≠ 0 then ordF o else deedsF l) != 0) = true from bne_of_ne h, cond_true]
  rfl
theorem order_at_eq {o : D_api_Order} {l : List D_api_Deed} {day : Int} (h : chkF o l = 0) (hd : 1 ≤ day ∧ day ≤ 3652059) : order_at o l day [] = some ((o, l, mapOf (allZ o l 0 day).1, (allZ o l 0 day).2.1, (allZ o l 0 day).2.2, 0, ()), 0, (allZ o l 0 day).1.map LineS.tup, ()) := by
 unfold order_at
 rw [order_checked_eq, Option.bind_some, kit_IsDay_eq]
 dsimp only
 rw [show (if ordF o ≠ 0 then ordF o else deedsF l) = 0 from h, show ((0 : Int) != 0) = false from rfl, cond_false, Option.bind_some, decide_eq_true hd]
 obtain ⟨_, e1, e2, _⟩ := start_eq h 0 day
 dsimp only
 rw [Bool.not_true, cond_false, e1, Option.bind_some]
 dsimp only
 rw [e2]; rfl

end Go.Md

namespace Go.Md
open Go.Dn
theorem awake9 : l9_awake = some (true, ()) := by kernel_rfl
end Go.Md

namespace Go.Md
open Go.Dn

structure Pts (l : List D_api_Deed) (wt : Int) (n : Nat) (A : List LineS) (pts : List D_api_Point) : Prop where
 pt : ∀ (j : Nat) (p : D_api_Point), pts[j]? = some p → 0 ≤ p.1 ∧ p.1 < n ∧ (∃ d, idx l p.1 = some d ∧ dLine d = wt) ∧ ∀ q, 0 < j → pts[j - 1]? = some q → q.1 < p.1
 last : ∀ p, pts.getLast? = some p → ∃ x, lineL wt A = some x ∧ p.2 = stateZ x

theorem orAlt_none {α β : Type} {f : α → Option β} {g : Option β} : orAlt (none : Option α) f g = g := rfl
end Go.Md

namespace Go.Md
open Go.Dn

theorem wishDeed_app {l : List D_api_Deed} {x : LineS} (d' : D_api_Deed) (hw : WOk l x) (h : ¬x.wish < 0) : wishDeed (l ++ [d']) x = wishDeed l x := by
 obtain ⟨w, hw1, _⟩ := hw.kind (by omega)
 have hlt := (List.getElem?_eq_some_iff.1 hw1).1
 rw [wishDeed_eq hw1]
 exact wishDeed_eq (by rw [List.getElem?_append_left hlt]; exact hw1)
theorem answerZ_app {l : List D_api_Deed} {d d' : D_api_Deed} {x : LineS} (hw : WOk l x) : answerZ (l ++ [d']) d x = answerZ l d x := by
 unfold answerZ
 by_cases h : x.wish < 0
 ·rw [if_pos h, if_pos h]
 ·rw [if_neg h, if_neg h, wishDeed_app d' hw h]
theorem actZ_app {o : D_api_Order} {l : List D_api_Deed} {i : Nat} {d d' : D_api_Deed} {x : LineS} (hw : WOk l x) : actZ o (l ++ [d']) i d x = actZ o l i d x := by
 unfold actZ
 rw [answerZ_app hw]
theorem deedZ_app {o : D_api_Order} {l : List D_api_Deed} {i : Nat} {d d' : D_api_Deed} {A : List LineS} (hA : Sound l A) : deedZ o (l ++ [d']) i d A = deedZ o l i d A := by
 unfold deedZ
 split
 ·rfl
 ·split
  ·rfl
  ·split
   ·rename_i x hx
    rw [actZ_app (hA.line x (List.mem_of_getElem? hx)).2]
   ·rfl

theorem runZ_ref {o : D_api_Order} {l : List D_api_Deed} {wt day : Int} : ∀ (r : List D_api_Deed) (i : Nat) (A : List LineS) (ref : List (Int × Int)) (pts : List D_api_Point), ref.length ≤ i → (∀ e, e ∈ ref → e.2 ≠ 0) →
  (runZ o l wt day r i A ref pts).2.1.length ≤ i + r.length ∧ ∀ e, e ∈ (runZ o l wt day r i A ref pts).2.1 → e.2 ≠ 0
 | [], i, A, ref, pts, h1, h2 => ⟨h1, h2⟩
 | d :: r, i, A, ref, pts, h1, h2 => by
  simp only [runZ, List.length_cons]
  split
  ·exact ⟨by show ref.length ≤ _; omega, h2⟩
  ·split
   ·rename_i he
    have := runZ_ref (o := o) (l := l) (wt := wt) (day := day) r (i + 1) (deedZ o l i d A).2 (ref ++ [((i : Int), (deedZ o l i d A).1)]) pts (by simp; omega) (fun e hm => by
     rcases List.mem_append.1 hm with hm | hm
     ·exact h2 e hm
     ·simp only [List.mem_singleton] at hm; subst hm; exact he)
    exact ⟨by have := this.1; omega, this.2⟩
   ·have := runZ_ref (o := o) (l := l) (wt := wt) (day := day) r (i + 1) (deedZ o l i d A).2 ref (ptOf wt i d (deedZ o l i d A).2 pts) (by omega) h2
    exact ⟨by have := this.1; omega, this.2⟩

theorem slices_Clone_Deed_eq (l : List D_api_Deed) (hl : l.length ≤ 2000) : slices_Clone_api_Deed l = some (l, ()) := by
 have hmax : maxLen = 9223372036854775807 := rfl
 have hc : (decide ((0 + (List.length l)) * 120 ≤ 140737488355328) && decide (0 + (List.length l) ≤ maxLen)) = true := by
  rw [Bool.and_eq_true]; exact ⟨decide_eq_true (by omega), decide_eq_true (by omega)⟩
 unfold slices_Clone_api_Deed
 rw [chk_true' hc]
 cases l with
 | nil => simp [both]
 | cons x r => rfl

end Go.Md

namespace Go.Md
open Go.Dn

end Go.Md

namespace Go.Md
open Go.Dn

def Lex (a b : D_api_Deed) : Prop := a.1 < b.1 ∨ (a.1 = b.1 ∧ (a.2.1 < b.2.1 ∨ (a.2.1 = b.2.1 ∧ a.2.2.1 ≤ b.2.2.1)))
end Go.Md

namespace Go.Md
open Go.Dn

end Go.Md

namespace Go.Md
open Go.Dn

theorem dCw_lt {a b : D_api_Deed} (ha : deedF a = 0) (hb : deedF b = 0) : dCw a b < 0 ↔ ¬Lex b a := by
 obtain ⟨a1, a2, a3, _⟩ := deedF_zero ha
 obtain ⟨b1, b2, b3, _⟩ := deedF_zero hb
 unfold dCw Lex
 rw [w64_id (n := a.1 - b.1) (by omega) (by omega), w64_id (n := a.2.1 - b.2.1) (by omega) (by omega), w64_id (n := a.2.2.1 - b.2.2.1) (by omega) (by omega)]
 by_cases h1 : a.1 - b.1 = 0
 ·rw [if_neg (show ¬(a.1 - b.1 ≠ 0) by omega)]
  by_cases h2 : a.2.1 - b.2.1 = 0
  ·rw [if_neg (show ¬(a.2.1 - b.2.1 ≠ 0) by omega)]; omega
  ·rw [if_pos h2]; omega
 ·rw [if_pos h1]; omega

end Go.Md
