/-
 Plain facts: the lines by their numbers; the plain laws are true of all data. No condition.
-/
import Derived.Test.YtcoofjaonlccjaaGreatDoorUt
import Derived.Test.YtcoofjaonlccjaaGreatDoorUx
set_option linter.all false
namespace Go.Md
open Go.Dn

structure Ids (A : List LineS) : Prop where
 nd : (A.map LineS.no).Nodup
 rg : ∀ x, x ∈ A → 1 ≤ x.no ∧ x.no ≤ 99999
 len : A.length ≤ 500
 ne : A ≠ []

theorem findGo_none_iff {n : Int} : ∀ {A : List LineS} {i : Nat}, findGo n i A = none → n ∉ A.map LineS.no
 | [], _, _ => by simp
 | x :: r, i, h => by
  simp only [findGo] at h
  by_cases hx : n = x.no
  ·rw [if_pos hx] at h; cases h
  ·rw [if_neg hx] at h
   have := findGo_none_iff h
   simp only [List.map_cons, List.mem_cons, not_or]
   exact ⟨hx, this⟩

theorem map_no_set {A : List LineS} {k : Nat} {y x : LineS} (hx : A[k]? = some x) (h : y.no = x.no) : (A.set k y).map LineS.no = A.map LineS.no := by
 rw [List.map_set]
 refine List.ext_getElem? fun i => ?_
 rw [List.getElem?_set]
 split
 ·rename_i e
  subst e
  have hl := (List.getElem?_eq_some_iff.1 hx).1
  simp only [List.length_map, hl, if_true, List.getElem?_map, hx, Option.map_some, h]
 ·rfl

theorem deedZ_ids {o : D_api_Order} {l : List D_api_Deed} {i : Nat} {d : D_api_Deed} {A : List LineS} (hA : Good l A) (hI : Ids A) (hl : ∀ d, d ∈ l → deedF d = 0) (hd : l[i]? = some d) : Ids (deedZ o l i d A).2 := by
 unfold deedZ
 by_cases k1 : dKind d = 1
 ·rw [if_pos k1]
  split
  ·exact hI
  ·rename_i hf
   split
   ·exact hI
   ·split
    ·exact hI
    ·rename_i h5 _
     obtain ⟨_, _, _, _, _, hln, _⟩ := deedF_zero (hl d (List.mem_of_getElem? hd))
     refine ⟨?_, fun x hx => ?_, ?_, by simp⟩
     ·rw [List.map_append, List.nodup_append]
      refine ⟨hI.nd, by simp, fun a ha b hb e => ?_⟩
      simp only [List.map_cons, List.map_nil, List.mem_singleton] at hb
      subst hb; subst e
      exact findGo_none_iff hf ha
     ·rcases List.mem_append.1 hx with hx | hx
      ·exact hI.rg x hx
      ·simp only [List.mem_singleton] at hx
       subst hx
       exact hln
     ·rw [List.length_append]
      show A.length + 1 ≤ 500
      omega
 ·rw [if_neg k1]
  split
  ·exact hI
  ·rename_i k hk
   split
   ·rename_i x hx
    obtain ⟨h1, h2⟩ := hA.sound.line x (List.mem_of_getElem? hx)
    obtain ⟨_, _, a3, _⟩ := actZ_ok (o := o) h1 h2 hl hd
    refine ⟨by rw [map_no_set hx a3]; exact hI.nd, fun y hy => ?_, by rw [List.length_set]; exact hI.len, fun e => hI.ne (by simpa using e)⟩
    rcases List.mem_or_eq_of_mem_set hy with hy | hy
    ·exact hI.rg y hy
    ·subst hy; rw [a3]; exact hI.rg x (List.mem_of_getElem? hx)
   ·exact hI

theorem runZ_ids {o : D_api_Order} {l : List D_api_Deed} {wt day : Int} (hl : ∀ d, d ∈ l → deedF d = 0) : ∀ (r : List D_api_Deed) (i : Nat) (A : List LineS) (ref : List (Int × Int)) (pts : List D_api_Point), l.drop i = r → Good l A → Ids A →
  Good l (runZ o l wt day r i A ref pts).1 ∧ Ids (runZ o l wt day r i A ref pts).1 := by
 intro r
 induction r with
 | nil => intro i A ref pts _ hA hI; exact ⟨hA, hI⟩
 | cons d r ih =>
  intro i A ref pts hdr hA hI
  have hd : l[i]? = some d := by
   have := congrArg (·[0]?) hdr
   simpa [List.getElem?_drop] using this
  have hr' : l.drop (i + 1) = r := by
   have := congrArg List.tail hdr
   simpa [List.tail_drop] using this
  have hgood := deedZ_good (o := o) hA hl hd
  have hids := deedZ_ids (o := o) hA hI hl hd
  simp only [runZ]
  split
  ·exact ⟨hA, hI⟩
  ·split
   ·exact ih (i + 1) _ _ _ hr' hgood hids
   ·exact ih (i + 1) _ _ _ hr' hgood hids

theorem lines_ids {o : D_api_Order} (ho : ordF o = 0) : Ids (linesOf o) := by
 obtain ⟨_, _, hlen, hne, hgo, _⟩ := ordF_zero ho
 obtain ⟨hln, _, hpw⟩ := olinesGo_zero hgo
 refine ⟨?_, fun x hx => ?_, by rw [List.length_map]; exact hlen, fun e => hne (by simpa using e)⟩
 ·rw [List.map_map]
  exact List.Pairwise.map _ (fun a b (h : a.1 < b.1) e => by
   have e' : a.1 = b.1 := e
   omega) hpw
 ·obtain ⟨q, hq, rfl⟩ := List.mem_map.1 hx
  exact (hln q hq).2.2.2.2.1

theorem allZ_ids {o : D_api_Order} {l : List D_api_Deed} (h : chkF o l = 0) (wt day : Int) : Good l (allZ o l wt day).1 ∧ Ids (allZ o l wt day).1 := by
 obtain ⟨h1, h2⟩ := chkF_zero h
 obtain ⟨h3, h4⟩ := deedsF_zero h2
 exact runZ_ids h4 l 0 _ [] [] rfl (lines_good h1 l) (lines_ids h1)

def srtL (A : List LineS) : List LineS := A.mergeSort fun x y => decide (x.no ≤ y.no)
theorem srtL_perm (A : List LineS) : (srtL A).Perm A := List.mergeSort_perm A _
theorem srtL_srt (A : List LineS) : (srtL A).Pairwise fun x y => x.no ≤ y.no := by
 have := List.pairwise_mergeSort (le := fun x y : LineS => decide (x.no ≤ y.no)) (fun a b c h1 h2 => by
  simp only [decide_eq_true_eq] at *; omega) (fun a b => by simp only [Bool.or_eq_true, decide_eq_true_eq]; omega) A
 exact this.imp fun h => by simpa using h
theorem mapGo_fst : ∀ (A : List LineS) (i : Nat), (mapGo i A).map (·.1) = A.map LineS.no
 | [], _ => rfl
 | x :: r, i => by simp only [mapGo, List.map_cons, mapGo_fst r]
theorem keysOk_lines {A : List LineS} (hI : Ids A) : keysOk (mapOf A) = true := by
 unfold keysOk
 rw [mapGo_fst, mapGo_len]
 have := hI.len
 simp only [Bool.and_eq_true, decide_eq_true_eq, List.all_eq_true]
 refine ⟨by omega, fun p hp => ?_, hI.nd⟩
 have hm : p.1 ∈ (mapOf A).map (·.1) := List.mem_map.2 ⟨p, hp, rfl⟩
 rw [mapGo_fst] at hm
 obtain ⟨x, hx, e⟩ := List.mem_map.1 hm
 have := hI.rg x hx
 omega
theorem keysI_lines (A : List LineS) : keysI (mapOf A) = (srtL A).map LineS.no := by
 unfold keysI
 rw [mapGo_fst]
 refine List.Perm.eq_of_pairwise (le := fun a b : Int => decide (a ≤ b) = true) (fun a b _ _ h1 h2 => ?_) ?_ ?_ ?_
 ·simp only [decide_eq_true_eq] at h1 h2; omega
 ·exact List.pairwise_mergeSort (le := fun x y : Int => decide (x ≤ y)) (fun a b c h1 h2 => by simp only [decide_eq_true_eq] at *; omega) (fun a b => by simp only [Bool.or_eq_true, decide_eq_true_eq]; omega) _
 ·exact List.pairwise_map.2 ((srtL_srt A).imp fun h => by simpa using h)
 ·exact (List.mergeSort_perm _ _).trans ((srtL_perm A).map _).symm

theorem findGo_get {n : Int} : ∀ {A : List LineS} {i k : Nat} {x : LineS}, (A.map LineS.no).Nodup → A[k]? = some x → x.no = n → findGo n i A = some (i + k)
 | [], _, _, _, _, h, _ => by simp at h
 | y :: r, i, 0, x, _, h, hn => by
  have e : y = x := by simpa using h
  subst e
  simp only [findGo, if_pos hn.symm, Nat.add_zero]
 | y :: r, i, k + 1, x, hnd, h, hn => by
  have h' : r[k]? = some x := by simpa using h
  rw [List.map_cons, List.nodup_cons] at hnd
  have hne : ¬n = y.no := fun e => hnd.1 (by
   rw [← e, ← hn]
   exact List.mem_map.2 ⟨x, List.mem_of_getElem? h', rfl⟩)
  simp only [findGo, if_neg hne]
  rw [findGo_get hnd.2 h' hn, show i + 1 + k = i + (k + 1) by omega]
theorem srtL_find {A : List LineS} (hI : Ids A) {x : LineS} (hx : x ∈ srtL A) : ∃ k, findL x.no A = some k ∧ A[k]? = some x := by
 obtain ⟨k, hk⟩ := List.getElem?_of_mem ((srtL_perm A).mem_iff.1 hx)
 exact ⟨k, by have := findGo_get (i := 0) hI.nd hk rfl; rwa [Nat.zero_add] at this, hk⟩
def hndL (A : List LineS) : List (Option Nat) := (srtL A).map fun x => findL x.no A

end Go.Md

namespace Go.Md
open Go.Dn

theorem hndL_eq (A : List LineS) : hndL A = (keysI (mapOf A)).map fun k => findL k A := by
 rw [keysI_lines, List.map_map]; rfl

theorem order_follower_sorted_eq {A : List LineS} (hI : Ids A) (o : D_api_Order) (l : List D_api_Deed) (ref : List D_api_Decimal) (pts : List D_api_Point) (wt : Int) :
  order_follower_sorted (o, l, mapOf A, ref, pts, wt, ()) = some (hndL A, (o, l, mapOf A, ref, pts, wt, ()), ()) := by
 obtain ⟨onum, obuy, osel, oday, oext, olns⟩ := o
 have hmax : maxLen = 9223372036854775807 := rfl
 unfold order_follower_sorted
 dsimp only
 rw [chk_true' (keysOk_lines hI)]
 have hkl : (keysI (mapOf A)).length ≤ 500 := by
  rw [keysI_lines, List.length_map, (srtL_perm A).length_eq]; exact hI.len
 rw [hndL_eq]
 generalize keysI (mapOf A) = ks at hkl
 have loop : ∀ n, ks.length < n → iter (X := order_follower_sorted_x3) (β := order_follower_sorted_r3) n ([], (ks.length : Int), 0, onum, obuy, osel, oday, oext, olns, l, wt, ks, ref, pts, mapOf A, ()) order_follower_sorted_b3 = some (Sum.inr (ks.map (fun k => findL k A), onum, obuy, osel, oday, oext, olns, l, wt, ref, pts, mapOf A, ())) := by
  intro n hn
  refine iter_post (Inv := fun i X => X = (((ks.map (fun k => findL k A)).take i, (ks.length : Int), (i : Int), onum, obuy, osel, oday, oext, olns, l, wt, ks, ref, pts, mapOf A, ()) : order_follower_sorted_x3)) ks.length (fun z => z = some (Sum.inr (ks.map (fun k => findL k A), onum, obuy, osel, oday, oext, olns, l, wt, ref, pts, mapOf A, ()))) ?_ ?_ n 0 _ rfl (Nat.zero_le _) (by omega)
  ·rintro i X again hi rfl hag
   unfold order_follower_sorted_b3
   dsimp only
   obtain ⟨y, hy⟩ : ∃ y, ks[i]? = some y := ⟨ks[i], List.getElem?_eq_getElem hi⟩
   have hlen : ((ks.map (fun k => findL k A)).take i).length = i := by rw [List.length_take, List.length_map]; omega
   rw [decide_eq_true (show (i : Int) < (ks.length : Int) by omega), cond_true, chk_true' (by simp), Int.toNat_natCast, hy, Option.bind_some, hlen, chk_true' (by
    rw [Bool.and_eq_true]; exact ⟨decide_eq_true (by omega), decide_eq_true (by omega)⟩), w64_id (n := (i : Int) + 1) (by omega) (by omega), mget_map]
   have e : (ks.map (fun k => findL k A)).take i ++ [findGo y 0 A] = (ks.map (fun k => findL k A)).take (i + 1) := by
    rw [List.take_add_one, List.getElem?_map, hy]; rfl
   rw [e]
   exact hag _ rfl
  ·rintro X again rfl
   unfold order_follower_sorted_b3
   dsimp only
   rw [decide_eq_false (show ¬(ks.length : Int) < (ks.length : Int) by omega), cond_false, List.take_of_length_le (by rw [List.length_map]; exact Nat.le_refl _)]
 have h2 := mapGo_len A 0
 rw [loop _ (by
  simp only [List.length_nil, Int.natAbs_natCast]
  omega)]
 rfl

theorem hnd_state {l : List D_api_Deed} {A : List LineS} (hA : Good l A) (hI : Ids A) {i : Nat} {x : LineS} (hx : (srtL A)[i]? = some x) : ∃ k, (hndL A)[i]? = some (some k) ∧ A[k]? = some x ∧ order_line_state (some k) (A.map LineS.tup) = some (stateZ x, ()) ∧ x ∈ A := by
 obtain ⟨k, hk, hxk⟩ := srtL_find hI (List.mem_of_getElem? hx)
 have hm := List.mem_of_getElem? hxk
 refine ⟨k, ?_, hxk, order_line_state_eq hxk (hA.sound.line x hm).1 (hA.pr x hm), hm⟩
 unfold hndL
 rw [List.getElem?_map, hx, Option.map_some, hk]

def lnF (o : D_api_Order) (l : List D_api_Deed) (day : Int) : Int := if chkF o l ≠ 0 then chkF o l else if 1 ≤ day ∧ day ≤ 3652059 then 0 else 1
end Go.Md

namespace Go.Md
open Go.Dn

structure Milli (d : D_api_Decimal) (n : Int) : Prop where
 p0 : 0 ≤ d.2
 p3 : d.2 ≤ 3
 val : d.1 * 10 ^ (3 - d.2).toNat = n
 bd : n.natAbs ≤ 2000000000000000

theorem Milli.unit {d : D_api_Decimal} {n : Int} (h : Milli d n) : d.1.natAbs ≤ n.natAbs := by
 have := h.val
 have h1 : (1 : Nat) ≤ 10 ^ (3 - d.2).toNat := Nat.one_le_pow _ _ (by omega)
 rw [← h.val, Int.natAbs_mul, Int.natAbs_pow]
 exact Nat.le_mul_of_pos_right _ h1

theorem Milli.neg {d : D_api_Decimal} {n : Int} (h : Milli d n) : Milli (-d.1, d.2) (-n) := ⟨h.p0, h.p3, by show -d.1 * 10 ^ (3 - d.2).toNat = -n; rw [Int.neg_mul, h.val], by rw [Int.natAbs_neg]; exact h.bd⟩
end Go.Md

namespace Go.Md
open Go.Dn

structure FOk (o : D_api_Order) (l : List D_api_Deed) (x : LineS) : Prop where
 art : isNm x.art = true
 unit : isNm x.unit = true
 pr : inR x.price 0 1000000000 4 = true
 due : oDay o ≤ x.due ∧ x.due ≤ 3652059
 wish : 0 ≤ x.wish → dKind (wishDeed l x) = 3 → oDay o ≤ dUntil (wishDeed l x)
 off : x.ono ≠ 0 → oDay o ≤ x.ount ∧ x.ount ≤ 3652059

theorem FOk.clr {o : D_api_Order} {l : List D_api_Deed} {x : LineS} (h : FOk o l x) : FOk o l x.clr := ⟨h.art, h.unit, h.pr, h.due, h.wish, fun e => absurd rfl e⟩

def ord0 : D_api_Order := ([], [], [], 0, 0, [])

end Go.Md

namespace Go.Md
open Go.Dn

def stepZ (o : D_api_Order) (l : List D_api_Deed) (wt : Int) (i : Nat) (d : D_api_Deed) (R : List LineS × List (Int × Int) × List D_api_Point) : List LineS × List (Int × Int) × List D_api_Point :=
 if (deedZ o l i d R.1).1 ≠ 0 then ((deedZ o l i d R.1).2, R.2.1 ++ [((i : Int), (deedZ o l i d R.1).1)], R.2.2)
 else ((deedZ o l i d R.1).2, R.2.1, ptOf wt i d (deedZ o l i d R.1).2 R.2.2)

theorem runZ_snoc {o : D_api_Order} {l : List D_api_Deed} {wt day : Int} (d' : D_api_Deed) (hd' : d'.1 ≤ day) (hl : ∀ d, d ∈ l → deedF d = 0) : ∀ (r : List D_api_Deed) (i : Nat) (A : List LineS) (ref : List (Int × Int)) (pts : List D_api_Point), l.drop i = r → i ≤ l.length → (∀ d, d ∈ r → d.1 ≤ day) → Sound l A →
  runZ o (l ++ [d']) wt day (r ++ [d']) i A ref pts = stepZ o (l ++ [d']) wt l.length d' (runZ o l wt day r i A ref pts) := by
 intro r
 induction r with
 | nil =>
  intro i A ref pts hd hi _ hA
  have : i = l.length := by
   have := congrArg List.length hd
   simp at this; omega
  subst this
  simp only [List.nil_append, runZ]
  rw [if_neg (by omega)]
  unfold stepZ
  rfl
 | cons d r ih =>
  intro i A ref pts hdr hi hday hA
  have hd : l[i]? = some d := by
   have := congrArg (·[0]?) hdr
   simpa [List.getElem?_drop] using this
  have hr' : l.drop (i + 1) = r := by
   have := congrArg List.tail hdr
   simpa [List.tail_drop] using this
  have hlt : i < l.length := (List.getElem?_eq_some_iff.1 hd).1
  have hs := (deedZ_ok (o := o) hA hl hd).1
  have hdd : ¬day < d.1 := by
   have := hday d (by simp)
   omega
  simp only [List.cons_append, runZ]
  rw [deedZ_app hA, if_neg hdd, if_neg hdd]
  split
  ·exact ih (i + 1) _ _ _ hr' (by omega) (fun d hd => hday d (by simp [hd])) hs
  ·exact ih (i + 1) _ _ _ hr' (by omega) (fun d hd => hday d (by simp [hd])) hs

theorem allZ_snoc {o : D_api_Order} {l : List D_api_Deed} (d' : D_api_Deed) (h : chkF o l = 0) (hd' : d'.1 ≤ 3652059) (wt : Int) : allZ o (l ++ [d']) wt 3652059 = stepZ o (l ++ [d']) wt l.length d' (allZ o l wt 3652059) := by
 obtain ⟨h1, h2⟩ := chkF_zero h
 obtain ⟨_, h4⟩ := deedsF_zero h2
 exact runZ_snoc d' hd' h4 l 0 _ [] [] rfl (Nat.zero_le _) (fun d hd => (deedF_zero (h4 d hd)).1.2) (lines_good h1 l).sound

/-! ### the next number -/

def nxt (l : List D_api_Deed) (b n : Int) : Int := l.foldl (fun n d => if d.2.1 = b then w64 (d.2.2.1 + 1) else n) n
def nextZ (l : List D_api_Deed) (b : Int) : Int := nxt l b 1
theorem nxt_snoc (l : List D_api_Deed) (b n : Int) (d : D_api_Deed) : nxt (l ++ [d]) b n = if d.2.1 = b then w64 (d.2.2.1 + 1) else nxt l b n := by
 unfold nxt
 rw [List.foldl_append]; rfl
theorem nxt_cons (l : List D_api_Deed) (b n : Int) (d : D_api_Deed) : nxt (d :: l) b n = nxt l b (if d.2.1 = b then w64 (d.2.2.1 + 1) else n) := rfl

theorem order_nextNo_z (l : List D_api_Deed) (b : Int) (hl : l.length ≤ 2000) : order_nextNo l b = some (nextZ l b, ()) := by
 unfold order_nextNo
 have : ∀ n, l.length < n → iter (X := order_nextNo_x3) (β := order_nextNo_r3) n (b, 1, l, (l.length : Int), 0, ()) order_nextNo_b3 = some (Sum.inr (nextZ l b, ())) := by
  intro n hn
  refine iter_post (Inv := fun i X => X = ((b, nxt (l.take i) b 1, l, (l.length : Int), (i : Int), ()) : order_nextNo_x3)) l.length (fun z => z = some (Sum.inr (nextZ l b, ()))) ?_ ?_ n 0 _ rfl (Nat.zero_le _) (by omega)
  ·rintro i X again hi rfl hag
   unfold order_nextNo_b3
   dsimp only
   obtain ⟨y, hy⟩ : ∃ y, l[i]? = some y := ⟨l[i], List.getElem?_eq_getElem hi⟩
   rw [decide_eq_true (show (i : Int) < (l.length : Int) by omega), cond_true, idx_get hy, Option.bind_some, w64_id (n := (i : Int) + 1) (by omega) (by omega)]
   have e := nxt_snoc (l.take i) b 1 y
   rw [← take_succ' hy] at e
   by_cases h : y.2.1 = b
   ·rw [show (y.2.1 == b) = true by simpa using h, cond_true]
    rw [if_pos h] at e
    rw [← e]
    exact hag _ rfl
   ·rw [beq_of_ne h, cond_false]
    rw [if_neg h] at e
    rw [← e]
    exact hag _ rfl
  ·rintro X again rfl
   unfold order_nextNo_b3
   dsimp only
   rw [decide_eq_false (show ¬(l.length : Int) < (l.length : Int) by omega), cond_false, List.take_length]
   rfl
 rw [this (Int.natAbs b + (Int.natAbs (1 : Int) + (List.length l + (Int.natAbs ((List.length l : Int)) + (Int.natAbs (0 : Int) + 2))))) (by omega)]
 rfl

theorem deedsGo_snoc {d' : D_api_Deed} (hd' : deedF d' = 0) : ∀ (r : List D_api_Deed) (p : Option D_api_Deed) (nb ns : Int), deedsGo r p nb ns = 0 → (∀ q, (r.getLast?.or p) = some q → dCw q d' < 0) →
  (d'.2.1 = 1 → d'.2.2.1 = nxt r 1 (w64 (nb + 1))) → (d'.2.1 ≠ 1 → d'.2.2.1 = nxt r 2 (w64 (ns + 1))) → deedsGo (r ++ [d']) p nb ns = 0
 | [], p, nb, ns, _, hq, h1, h2 => by
  simp only [List.nil_append, deedsGo]
  rw [if_neg (fun e => e hd')]
  have hp : ¬((p.any fun q => decide (0 ≤ dCw q d')) = true) := by
   cases p with
   | none => simp
   | some q =>
    have := hq q rfl
    intro e
    have := of_decide_eq_true (p := 0 ≤ dCw q d') e
    omega
  rw [if_neg hp]
  split
  ·rename_i e; rw [if_neg (fun h => h (h1 e))]
  ·rename_i e; rw [if_neg (fun h => h (h2 e))]
 | d :: r, p, nb, ns, h, hq, h1, h2 => by
  simp only [deedsGo] at h
  simp only [List.cons_append, deedsGo]
  by_cases hf : deedF d = 0
  rotate_left
  ·rw [if_pos hf] at h; exact absurd h hf
  rw [if_neg (fun e => e hf)] at h ⊢
  by_cases hpp : (p.any fun q => decide (0 ≤ dCw q d)) = true
  ·rw [if_pos hpp] at h; cases h
  rw [if_neg hpp] at h ⊢
  have hq' : ∀ q, (r.getLast?.or (some d)) = some q → dCw q d' < 0 := fun q e => hq q (by
   rw [List.getLast?_cons]
   cases hr : r.getLast? with
   | none => rw [hr] at e; simpa using e
   | some z => rw [hr] at e; simpa using e)
  obtain ⟨_, d2, _⟩ := deedF_zero hf
  by_cases hb : d.2.1 = 1
  ·rw [if_pos hb] at h ⊢
   by_cases hn : d.2.2.1 = w64 (nb + 1)
   ·rw [if_neg (fun e => e hn)] at h ⊢
    refine deedsGo_snoc hd' r (some d) _ _ h hq' (fun e => ?_) (fun e => ?_)
    ·rw [h1 e, nxt_cons, if_pos hb]
    ·rw [h2 e, nxt_cons, if_neg (by omega)]
   ·rw [if_pos hn] at h; cases h
  ·rw [if_neg hb] at h ⊢
   by_cases hn : d.2.2.1 = w64 (ns + 1)
   ·rw [if_neg (fun e => e hn)] at h ⊢
    refine deedsGo_snoc hd' r (some d) _ _ h hq' (fun e => ?_) (fun e => ?_)
    ·rw [h1 e, nxt_cons, if_neg hb]
    ·rw [h2 e, nxt_cons, if_pos (by omega)]
   ·rw [if_pos hn] at h; cases h

theorem deedsGo_cnt : ∀ (r : List D_api_Deed) (p : Option D_api_Deed) (nb ns : Int), deedsGo r p nb ns = 0 → 0 ≤ ns → ns ≤ 2000 → 1 ≤ nxt r 2 (w64 (ns + 1)) ∧ nxt r 2 (w64 (ns + 1)) ≤ ns + 1 + r.length
 | [], p, nb, ns, _, h0, h1 => by
  show 1 ≤ w64 (ns + 1) ∧ w64 (ns + 1) ≤ ns + 1 + ((0 : Nat) : Int)
  rw [w64_id (by omega) (by omega)]; omega
 | d :: r, p, nb, ns, h, h0, h1 => by
  simp only [deedsGo] at h
  by_cases hf : deedF d = 0
  rotate_left
  ·rw [if_pos hf] at h; exact absurd h hf
  rw [if_neg (fun e => e hf)] at h
  by_cases hpp : (p.any fun q => decide (0 ≤ dCw q d)) = true
  ·rw [if_pos hpp] at h; cases h
  rw [if_neg hpp] at h
  obtain ⟨_, d2, d3, _⟩ := deedF_zero hf
  rw [nxt_cons, List.length_cons]
  by_cases hb : d.2.1 = 1
  ·rw [if_pos hb] at h
   rw [if_neg (by omega)]
   by_cases hn : d.2.2.1 = w64 (nb + 1)
   ·rw [if_neg (fun e => e hn)] at h
    have := deedsGo_cnt r _ _ _ h h0 h1
    omega
   ·rw [if_pos hn] at h; cases h
  ·rw [if_neg hb] at h
   rw [if_pos (by omega)]
   by_cases hn : d.2.2.1 = w64 (ns + 1)
   ·rw [if_neg (fun e => e hn)] at h
    have := deedsGo_cnt r _ _ _ h (by omega) (by omega)
    rw [w64_id (n := ns + 1) (by omega) (by omega)] at hn
    omega
   ·rw [if_pos hn] at h; cases h

theorem deedF_ans {day n k ln to : Int} (h1 : 1 ≤ day ∧ day ≤ 3652059) (h2 : 1 ≤ n ∧ n ≤ 2000) (h3 : k = 5 ∨ k = 6) (h4 : 1 ≤ ln ∧ ln ≤ 99999) (h5 : 1 ≤ to ∧ to ≤ 2000) : deedF (day, 2, n, k, ln, [], (0, 0), [], (0, 0), 0, to) = 0 := by
 unfold deedF
 dsimp only
 rw [if_neg (fun e => e h1), if_neg (by omega), if_neg (fun e => e h2), if_neg (by omega), if_neg (fun e => e ⟨fun _ => rfl, fun _ => by omega⟩), if_neg (fun e => e h4)]
 unfold usedF
 dsimp only
 have hi : inTo to = true := decide_eq_true h5
 rcases h3 with rfl | rfl <;> (unfold usedFU; rw [hi]; rfl)

theorem answers_ok {o : D_api_Order} {l : List D_api_Deed} (h : chkF o l = 0) (hlen : l.length < 2000) {day k ln to : Int} (h1 : 1 ≤ day ∧ day ≤ 3652059) (hlast : ∀ q, l.getLast? = some q → q.1 ≤ day) (h3 : k = 5 ∨ k = 6) (h4 : 1 ≤ ln ∧ ln ≤ 99999) (h5 : 1 ≤ to ∧ to ≤ 2000) :
  deedsF (l ++ [(day, 2, nextZ l 2, k, ln, [], (0, 0), [], (0, 0), 0, to)]) = 0 := by
 obtain ⟨_, g2⟩ := chkF_zero h
 obtain ⟨g3, g4⟩ := deedsF_zero g2
 have hgo : deedsGo l none 0 0 = 0 := by
  unfold deedsF at g2
  rwa [if_neg (by omega)] at g2
 have hc := deedsGo_cnt l none 0 0 hgo (by omega) (by omega)
 have hz : nextZ l 2 = nxt l 2 (w64 (0 + 1)) := rfl
 rw [← hz] at hc
 have hd' := deedF_ans (k := k) h1 (show 1 ≤ nextZ l 2 ∧ nextZ l 2 ≤ 2000 by omega) h3 h4 h5
 unfold deedsF
 rw [if_neg (by simp; omega)]
 refine deedsGo_snoc hd' l none 0 0 hgo (fun q hq => ?_) (fun e => absurd (show (2 : Int) = 1 from e) (by omega)) (fun _ => rfl)
 have hq' : l.getLast? = some q := by cases hl : l.getLast? <;> (rw [hl] at hq; first | (simp at hq; done) | simpa using hq)
 have hqm := List.mem_of_getLast? hq'
 have hqf := g4 q hqm
 obtain ⟨q1, q2, q3, _⟩ := deedF_zero hqf
 have := hlast q hq'
 rw [dCw_lt hqf hd']
 unfold Lex
 show ¬(day < q.1 ∨ (day = q.1 ∧ (2 < q.2.1 ∨ (2 = q.2.1 ∧ nextZ l 2 ≤ q.2.2.1))))
 by_cases hb : q.2.1 = 2
 ·have e : nextZ l 2 = w64 (q.2.2.1 + 1) := by
   obtain ⟨ys, hys⟩ := List.getLast?_eq_some_iff.1 hq'
   have := nxt_snoc ys 2 1 q
   rw [if_pos hb] at this
   rw [← this, ← hys]; rfl
  rw [w64_id (by omega) (by omega)] at e
  omega
 ·omega

/-! ### Asked -/

def wsh (x : LineS) : Bool := decide (0 ≤ x.wish)
def askL (A : List LineS) : List Int := ((srtL A).filter wsh).map LineS.wish
theorem askL_len (A : List LineS) : (askL A).length = A.countP wsh := by
 unfold askL
 rw [List.length_map, ← List.countP_eq_length_filter]
 exact (srtL_perm A).countP_eq wsh
def srtI (l : List Int) : List Int := l.mergeSort fun x y => decide (x ≤ y)

theorem order_Asked_eq (o : D_api_Order) (l : List D_api_Deed) (day : Int) : order_Asked o l day = some (if lnF o l day = 0 then srtI (askL (allZ o l 0 day).1) else [], lnF o l day, ()) := by
 have hmax : maxLen = 9223372036854775807 := rfl
 unfold order_Asked
 rw [order_at_e_eq]
 unfold lnF
 by_cases h : chkF o l = 0
 rotate_left
 ·rw [if_pos (show chkF o l ≠ 0 from h), if_pos (show chkF o l ≠ 0 from h)]
  show (bif chkF o l != 0 then _ else _) = _
  rw [bne_of_ne h, cond_true, if_neg h]
 rw [if_neg (show ¬chkF o l ≠ 0 from fun e => e h), if_neg (show ¬chkF o l ≠ 0 from fun e => e h)]
 by_cases hd : 1 ≤ day ∧ day ≤ 3652059
 rotate_left
 ·rw [if_pos hd, if_neg hd]; rfl
 rw [if_neg (show ¬¬(1 ≤ day ∧ day ≤ 3652059) from fun e => e hd), if_pos hd, if_pos rfl]
 refine Eq.trans orAlt_none ?_
 rw [order_at_eq h hd, Option.bind_some]
 dsimp only
 rw [show ((0 : Int) != 0) = false from rfl, cond_false]
 obtain ⟨hg, hI⟩ := allZ_ids h 0 day
 rw [order_follower_sorted_eq hI o l, Option.bind_some]
 generalize (allZ o l 0 day).1 = A at hg hI
 have hSl : (srtL A).length ≤ 500 := by rw [(srtL_perm A).length_eq]; exact hI.len
 have hHl : (hndL A).length = (srtL A).length := by unfold hndL; rw [List.length_map]
 dsimp only
 rw [hHl]
 have loop : ∀ n, (srtL A).length < n → iter (X := order_Asked_x6) (β := order_Asked_r6) n ([], ((srtL A).length : Int), 0, hndL A, A.map LineS.tup, ()) order_Asked_b6 = some (Sum.inr (askL A, A.map LineS.tup, ())) := by
  intro n hn
  refine iter_post (Inv := fun i X => X = (((((srtL A).take i).filter wsh).map LineS.wish, ((srtL A).length : Int), (i : Int), hndL A, A.map LineS.tup, ()) : order_Asked_x6)) (srtL A).length (fun z => z = some (Sum.inr (askL A, A.map LineS.tup, ()))) ?_ ?_ n 0 _ rfl (Nat.zero_le _) (by omega)
  ·rintro i X again hi rfl hag
   unfold order_Asked_b6
   dsimp only
   obtain ⟨x, hx⟩ : ∃ y, (srtL A)[i]? = some y := ⟨(srtL A)[i], List.getElem?_eq_getElem hi⟩
   obtain ⟨k, hk, hkx, _, _⟩ := hnd_state hg hI hx
   have hlen : ((((srtL A).take i).filter wsh).map LineS.wish).length ≤ i := by
    rw [List.length_map]
    have := List.length_filter_le wsh ((srtL A).take i)
    rw [List.length_take] at this
    omega
   have e : (srtL A).take (i + 1) = (srtL A).take i ++ [x] := by rw [List.take_add_one, hx]; rfl
   rw [decide_eq_true (show (i : Int) < ((srtL A).length : Int) by omega), cond_true, hHl, chk_true' (by simp; omega), Int.toNat_natCast, hk, Option.bind_some, Option.bind_some, tup_get hkx, Option.bind_some]
   dsimp only
   by_cases h0 : 0 ≤ x.wish
   ·rw [decide_eq_true (show x.wish ≥ 0 from h0), cond_true, Option.bind_some, tup_get hkx, Option.bind_some, chk_true' (by
     rw [Bool.and_eq_true]; exact ⟨decide_eq_true (by omega), decide_eq_true (by omega)⟩), w64_id (n := (i : Int) + 1) (by omega) (by omega)]
    have e2 : (((srtL A).take i).filter wsh).map LineS.wish ++ [x.wish] = (((srtL A).take (i + 1)).filter wsh).map LineS.wish := by
     rw [e, List.filter_append, List.map_append, List.filter_cons, if_pos (show wsh x = true from decide_eq_true h0)]; rfl
    rw [e2]
    exact hag _ rfl
   ·rw [decide_eq_false (show ¬x.wish ≥ 0 from h0), cond_false, w64_id (n := (i : Int) + 1) (by omega) (by omega)]
    have e2 : (((srtL A).take i).filter wsh).map LineS.wish = (((srtL A).take (i + 1)).filter wsh).map LineS.wish := by
     rw [e, List.filter_append, List.filter_cons, if_neg (show ¬wsh x = true from fun h => h0 (of_decide_eq_true h)), List.filter_nil, List.append_nil]
    rw [e2]
    exact hag _ rfl
  ·rintro X again rfl
   unfold order_Asked_b6
   dsimp only
   rw [decide_eq_false (show ¬((srtL A).length : Int) < ((srtL A).length : Int) by omega), cond_false, List.take_of_length_le (Nat.le_refl _)]
   rfl
 rw [loop _ (by simp only [List.length_nil, Int.natAbs_natCast]; omega), joinB_inr]
 dsimp only
 have hl : (askL A).length < 4294967296 := by
  have := List.countP_le_length (p := wsh) (l := A)
  have := hI.len
  rw [askL_len]; omega
 have hs : slices_Sort_int (askL A) = some (srtI (askL A), ()) := by
  show (bif decide ((askL A).length < 4294967296) then _ else _) = _
  rw [decide_eq_true hl]; rfl
 rw [hs]; rfl

end Go.Md

namespace Go.Md
open Go.Dn

theorem runZ_refi {o : D_api_Order} {l : List D_api_Deed} {wt day : Int} : ∀ (r : List D_api_Deed) (i : Nat) (A : List LineS) (ref : List (Int × Int)) (pts : List D_api_Point), (∀ e, e ∈ ref → e.1 < (i : Int)) →
  ∀ e, e ∈ (runZ o l wt day r i A ref pts).2.1 → e.1 < ((i + r.length : Nat) : Int)
 | [], i, A, ref, pts, h, e, he => by
  have := h e he
  simp only [List.length_nil]; omega
 | d :: r, i, A, ref, pts, h, e, he => by
  simp only [runZ] at he
  rw [List.length_cons]
  split at he
  ·have := h e he; omega
  ·split at he
   ·have := runZ_refi r (i + 1) _ _ _ (fun e he => by
     rcases List.mem_append.1 he with he | he
     ·have := h e he; omega
     ·simp only [List.mem_singleton] at he; subst he
      show (i : Int) < _; omega) e he
    omega
   ·have := runZ_refi r (i + 1) _ _ _ (fun e he => by have := h e he; omega) e he
    omega

abbrev newD (l : List D_api_Deed) (d : D_api_Deed) : D_api_Deed := (d.1, d.2.1, nextZ l d.2.1, d.2.2.2)
def wrF (o : D_api_Order) (l : List D_api_Deed) (d : D_api_Deed) : List D_api_Deed × Int :=
 if chkF o l ≠ 0 then ([], chkF o l)
 else if d.2.2.1 ≠ 0 then ([], 3)
 else if deedsF (l ++ [newD l d]) ≠ 0 then ([], deedsF (l ++ [newD l d]))
 else if (deedZ o (l ++ [newD l d]) l.length (newD l d) (allZ o l 0 3652059).1).1 ≠ 0 then ([], (deedZ o (l ++ [newD l d]) l.length (newD l d) (allZ o l 0 3652059).1).1)
 else (l ++ [newD l d], 0)

theorem order_Write_z (o : D_api_Order) (l : List D_api_Deed) (d : D_api_Deed) : order_Write o l d = some ((wrF o l d).1, (wrF o l d).2, ()) := by
 unfold order_Write wrF newD
 rw [order_checked_eq, Option.bind_some]
 dsimp only
 by_cases h : chkF o l = 0
 rotate_left
 ·rw [show ((if ordF o ≠ 0 then ordF o else deedsF l) != 0) = true from bne_of_ne h, cond_true, if_pos h]; rfl
 rw [show (if ordF o ≠ 0 then ordF o else deedsF l) = 0 from h, show ((0 : Int) != 0) = false from rfl, cond_false, if_neg (show ¬chkF o l ≠ 0 from fun e => e h)]
 obtain ⟨h1, h2⟩ := chkF_zero h
 obtain ⟨h3, h4⟩ := deedsF_zero h2
 by_cases hno : d.2.2.1 = 0
 rotate_left
 ·rw [bne_of_ne hno, cond_true, if_pos hno]
 rw [if_neg (show ¬d.2.2.1 ≠ 0 from fun e => e hno), show (d.2.2.1 != 0) = false by rw [hno]; rfl, cond_false]
 rw [order_nextNo_z l d.2.1 h3, Option.bind_some, slices_Clone_Deed_eq l h3, Option.bind_some]
 dsimp only
 have hmax : maxLen = 9223372036854775807 := rfl
 rw [chk_true' (by rw [Bool.and_eq_true]; exact ⟨decide_eq_true (by omega), decide_eq_true (by omega)⟩)]
 generalize hd' : ((d.1, d.2.1, nextZ l d.2.1, d.2.2.2) : D_api_Deed) = d'
 rw [order_CheckDeeds_eq, Option.bind_some]
 dsimp only
 by_cases h5 : deedsF (l ++ [d']) = 0
 rotate_left
 ·rw [bne_of_ne h5, cond_true, if_pos h5]
 rw [if_neg (show ¬deedsF (l ++ [d']) ≠ 0 from fun e => e h5), h5, show ((0 : Int) != 0) = false from rfl, cond_false]
 have hc' : chkF o (l ++ [d']) = 0 := by unfold chkF; rw [if_neg (fun e => e h1)]; exact h5
 obtain ⟨_, e1, e2, _⟩ := start_eq hc' 0 3652059
 rw [e1, Option.bind_some]
 dsimp only
 rw [e2, Option.bind_some]
 dsimp only
 obtain ⟨h6, h7⟩ := deedsF_zero h5
 have hsn := allZ_snoc d' h (deedF_zero (h7 d' (by simp))).1.2 0
 have hri : ∀ e, e ∈ (allZ o l 0 3652059).2.1 → e.1 < (l.length : Int) := fun e he => by
  have := runZ_refi (o := o) (l := l) (wt := 0) (day := 3652059) l 0 (linesOf o) [] [] (fun e he => (nomatch he)) e he
  rwa [Nat.zero_add] at this
 obtain ⟨r1, _⟩ := runZ_ref (o := o) (l := l) (wt := 0) (day := 3652059) l 0 (linesOf o) [] [] (Nat.zero_le _) (fun e he => by cases he)
 change (allZ o l 0 3652059).2.1.length ≤ _ at r1
 generalize hR : (allZ o (l ++ [d']) 0 3652059).2.1 = ref at *
 have hR2 : ref = (stepZ o (l ++ [d']) 0 l.length d' (allZ o l 0 3652059)).2.1 := by rw [← hR, hsn]
 clear hR hsn
 by_cases hD : (deedZ o (l ++ [d']) l.length d' (allZ o l 0 3652059).1).1 = 0
 ·rw [if_neg (fun e => e hD)]
  unfold stepZ at hR2
  rw [if_neg (fun e => e hD)] at hR2
  change ref = (allZ o l 0 3652059).2.1 at hR2
  by_cases hr : ref = []
  ·rw [hr]; rfl
  have hlen : 0 < ref.length := List.length_pos_iff.2 hr
  obtain ⟨p, hp⟩ : ∃ p, ref[ref.length - 1]? = some p := ⟨ref[ref.length - 1], List.getElem?_eq_getElem (by omega)⟩
  have hpl := hri p (by rw [← hR2]; exact List.mem_of_getElem? hp)
  have hrl : ref.length ≤ 2000 := by rw [hR2]; omega
  have hck : (decide (0 ≤ (ref.length : Int) - 1) && decide ((ref.length : Int) - 1 < (ref.length : Int))) = true := by
   rw [Bool.and_eq_true]; exact ⟨decide_eq_true (by omega), decide_eq_true (by omega)⟩
  rw [decide_eq_true (show (ref.length : Int) > 0 by omega), cond_true, w64_id (n := (ref.length : Int) - 1) (by omega) (by omega), chk_true' hck, show ((ref.length : Int) - 1).toNat = ref.length - 1 by omega, hp, Option.bind_some, Option.bind_some]
  dsimp only
  rw [beq_of_ne (show p.1 ≠ (l.length : Int) by omega), cond_false]
 ·rw [if_pos hD]
  unfold stepZ at hR2
  rw [if_pos hD] at hR2
  dsimp only at hR2
  have hl1 : ref.length = (allZ o l 0 3652059).2.1.length + 1 := by rw [hR2]; simp
  have hp : ref[ref.length - 1]? = some ((l.length : Int), (deedZ o (l ++ [d']) l.length d' (allZ o l 0 3652059).1).1) := by rw [hl1, hR2]; simp
  have hck : (decide (0 ≤ (ref.length : Int) - 1) && decide ((ref.length : Int) - 1 < (ref.length : Int))) = true := by
   rw [Bool.and_eq_true]; exact ⟨decide_eq_true (by omega), decide_eq_true (by omega)⟩
  rw [decide_eq_true (show (ref.length : Int) > 0 by omega), cond_true, w64_id (n := (ref.length : Int) - 1) (by omega) (by omega), chk_true' hck, show ((ref.length : Int) - 1).toNat = ref.length - 1 by omega, hp, Option.bind_some, Option.bind_some]
  dsimp only
  rw [show ((l.length : Int) == (l.length : Int)) = true by simp, cond_true, chk_true' hck, Option.bind_some]

/-! ### Answer -/

abbrev isB (to : Int) (d : D_api_Deed) : Bool := decide (d.2.1 = 1 ∧ d.2.2.1 = to)
def idxB (l : List D_api_Deed) (to : Int) : Option Nat := l.findIdx? (isB to)
theorem idxB_some {l : List D_api_Deed} {to : Int} {i : Nat} (h : idxB l to = some i) : ∃ w, l[i]? = some w ∧ w.2.1 = 1 ∧ w.2.2.1 = to := by
 obtain ⟨h1, h2, _⟩ := List.findIdx?_eq_some_iff_getElem.1 h
 exact ⟨l[i], List.getElem?_eq_getElem h1, of_decide_eq_true h2⟩

theorem order_Answer_1_eq (d : D_api_Deed) (to : Int) : order_Answer_1 d to = some (isB to d, ()) := by
 unfold order_Answer_1 isB
 by_cases h1 : d.2.1 = 1
 ·rw [show (d.2.1 == 1) = true by simpa using h1, cond_true, Option.bind_some]
  by_cases h2 : d.2.2.1 = to
  ·rw [decide_eq_true ⟨h1, h2⟩, show (d.2.2.1 == to) = true by simpa using h2]
  ·rw [decide_eq_false (fun h => h2 h.2), beq_of_ne h2]
 ·rw [beq_of_ne h1, cond_false, Option.bind_some, decide_eq_false (fun h => h1 h.1)]

theorem slices_IndexFunc_Deed_eq (l : List D_api_Deed) (to : Int) (hl : l.length ≤ 2000) : slices_IndexFunc_api_Deed l to = some (match idxB l to with | some i => (i : Int) | none => -1, ()) := by
 unfold slices_IndexFunc_api_Deed
 have : ∀ n, l.length < n → iter (X := slices_IndexFunc_api_Deed_x2) (β := slices_IndexFunc_api_Deed_r2) n (l, to, (l.length : Int), 0, ()) slices_IndexFunc_api_Deed_b2 = some (match idxB l to with | some i => Sum.inl ((i : Int), ()) | none => Sum.inr ()) := by
  intro n hn
  refine iter_post (Inv := fun i X => X = ((l, to, (l.length : Int), (i : Int), ()) : slices_IndexFunc_api_Deed_x2) ∧ ∀ j, j < i → ∀ w, l[j]? = some w → ¬isB to w = true) l.length (fun z => z = some (match idxB l to with | some i => Sum.inl ((i : Int), ()) | none => Sum.inr ())) ?_ ?_ n 0 _ ⟨rfl, fun j hj => absurd hj (Nat.not_lt_zero _)⟩ (Nat.zero_le _) (by omega)
  ·rintro i X again hi ⟨rfl, hno⟩ hag
   unfold slices_IndexFunc_api_Deed_b2
   dsimp only
   obtain ⟨y, hy⟩ : ∃ y, l[i]? = some y := ⟨l[i], List.getElem?_eq_getElem hi⟩
   rw [decide_eq_true (show (i : Int) < (l.length : Int) by omega), cond_true, idx_get hy, Option.bind_some, order_Answer_1_eq, Option.bind_some]
   dsimp only
   cases hb : isB to y
   ·rw [cond_false, w64_id (n := (i : Int) + 1) (by omega) (by omega)]
    refine hag _ ⟨rfl, fun j hj w hw => ?_⟩
    by_cases e : j = i
    ·subst e; rw [hy] at hw; cases hw; rw [hb]; nofun
    ·exact hno j (by omega) w hw
   ·rw [cond_true]
    have : idxB l to = some i := List.findIdx?_eq_some_iff_getElem.2 ⟨hi, by
     have e : l[i] = y := by have := List.getElem?_eq_getElem hi; rw [hy] at this; exact (Option.some.inj this).symm
     rw [e]; exact hb, fun j hj => hno j hj _ (List.getElem?_eq_getElem (by omega))⟩
    rw [this]
  ·rintro X again ⟨rfl, hno⟩
   unfold slices_IndexFunc_api_Deed_b2
   dsimp only
   rw [decide_eq_false (show ¬(l.length : Int) < (l.length : Int) by omega), cond_false]
   have : idxB l to = none := List.findIdx?_eq_none_iff.2 fun w hw => by
    obtain ⟨j, hj⟩ := List.mem_iff_getElem?.1 hw
    exact Bool.eq_false_iff.2 (hno j (List.getElem?_eq_some_iff.1 hj).1 w hj)
   rw [this]
 rw [this _ (by omega)]
 cases idxB l to <;> rfl

def d0 : D_api_Deed := (0, 0, 0, 0, 0, [], (0, 0), [], (0, 0), 0, 0)
abbrev ansD (l : List D_api_Deed) (day k ln to : Int) : D_api_Deed := (day, 2, nextZ l 2, k, ln, [], (0, 0), [], (0, 0), 0, to)
def ansF (o : D_api_Order) (l : List D_api_Deed) (day to : Int) : D_api_Deed × Int :=
 if chkF o l ≠ 0 then (d0, chkF o l)
 else if ¬(1 ≤ day ∧ day ≤ 3652059) then (d0, 1)
 else if (l.getLast?.any fun q => decide (day < q.1)) = true then (d0, 8)
 else match idxB l to with
 | none => (d0, 5)
 | some i => match l[i]? with
  | none => (d0, 5)
  | some w => match lineL (dLine w) (allZ o l 0 3652059).1 with
   | none => (d0, 5)
   | some x =>
    if x.wish ≠ (i : Int) then (d0, 5)
    else if 2000 ≤ l.length then (d0, 2)
    else if usU (dKind w) = true ∧ dUntil w < day then (ansD l day 6 (dLine w) to, 0)
    else if (answerZ l (ansD l day 5 (dLine w) to) x).1 ≠ 0 then (ansD l day 6 (dLine w) to, 0)
    else (ansD l day 5 (dLine w) to, 0)

theorem last_eq (l : List D_api_Deed) (day : Int) (hl : l.length ≤ 2000) : (bif decide (((List.length l : Int)) > 0) then
     Option.bind (idx l (w64 (((List.length l : Int)) - 1))) fun y3 =>
     some (decide (day < y3.1), ())
    else
     some (false, ())) = some (l.getLast?.any fun q => decide (day < q.1), ()) := by
 by_cases h : l = []
 ·subst h; rfl
 ·have h0 : 0 < l.length := List.length_pos_iff.2 h
  obtain ⟨q, hq⟩ : ∃ q, l[l.length - 1]? = some q := ⟨l[l.length - 1], List.getElem?_eq_getElem (by omega)⟩
  rw [decide_eq_true (show ((l.length : Int)) > 0 by omega), cond_true, w64_id (n := (l.length : Int) - 1) (by omega) (by omega), show (l.length : Int) - 1 = ((l.length - 1 : Nat) : Int) by omega, idx_get hq, List.getLast?_eq_getElem?, hq]
  rfl

theorem order_Answer_eq (o : D_api_Order) (l : List D_api_Deed) (day to : Int) : order_Answer o l day to = some ((ansF o l day to).1, (ansF o l day to).2, ()) := by
 unfold order_Answer ansF
 rw [order_checked_eq, Option.bind_some]
 dsimp only
 by_cases h : chkF o l = 0
 rotate_left
 ·rw [show ((if ordF o ≠ 0 then ordF o else deedsF l) != 0) = true from bne_of_ne h, cond_true, if_pos h]; rfl
 rw [show (if ordF o ≠ 0 then ordF o else deedsF l) = 0 from h, show ((0 : Int) != 0) = false from rfl, cond_false, if_neg (show ¬chkF o l ≠ 0 from fun e => e h), kit_IsDay_eq, Option.bind_some]
 dsimp only
 obtain ⟨h1, h2⟩ := chkF_zero h
 obtain ⟨h3, h4⟩ := deedsF_zero h2
 by_cases hday : 1 ≤ day ∧ day ≤ 3652059
 rotate_left
 ·rw [decide_eq_false hday, Bool.not_false, cond_true, if_pos hday]; rfl
 rw [decide_eq_true hday, Bool.not_true, cond_false, if_neg (show ¬¬(1 ≤ day ∧ day ≤ 3652059) from fun e => e hday), last_eq l day h3, Option.bind_some]
 dsimp only
 cases hla : l.getLast?.any fun q => decide (day < q.1)
 rotate_left
 ·rw [cond_true, if_pos rfl]; rfl
 rw [cond_false, if_neg (show ¬false = true by nofun)]
 obtain ⟨_, e1, e2, _⟩ := start_eq h 0 3652059
 rw [e1, Option.bind_some]
 dsimp only
 rw [e2, Option.bind_some, slices_IndexFunc_Deed_eq l to h3, Option.bind_some]
 dsimp only
 obtain ⟨hg, hI⟩ := allZ_ids h 0 3652059
 generalize (allZ o l 0 3652059).1 = A at hg hI
 generalize (allZ o l 0 3652059).2.1 = ref
 generalize (allZ o l 0 3652059).2.2 = pts
 cases hix : idxB l to with
 | none => rfl
 | some i =>
  obtain ⟨w, hw, w1, w2⟩ := idxB_some hix
  dsimp only
  rw [decide_eq_false (show ¬(i : Int) < 0 by omega), cond_false, idx_get hw, Option.bind_some, hw]
  dsimp only
  rw [mget_map]
  unfold lineL
  cases hf : findL (dLine w) A with
  | none => rw [show findGo w.2.2.2.2.1 0 A = none from hf]; rfl
  | some k =>
   obtain ⟨x, hx, hxn⟩ := findL_some hf
   rw [show findGo w.2.2.2.2.1 0 A = some k from hf, show Option.isNone (some k) = false from rfl, cond_false, Option.bind_some, mget_map, show findGo w.2.2.2.2.1 0 A = some k from hf, Option.bind_some, tup_get hx, Option.bind_some, Option.bind_some, show ((some k).bind fun k => A[k]?) = some x from hx]
   dsimp only
   by_cases hwi : x.wish = (i : Int)
   rotate_left
   ·rw [bne_of_ne hwi, cond_true, if_pos hwi]; rfl
   rw [if_neg (show ¬x.wish ≠ (i : Int) from fun e => e hwi), show (x.wish != (i : Int)) = false by rw [hwi]; simp, cond_false]
   by_cases hlen : 2000 ≤ l.length
   ·rw [if_pos hlen, decide_eq_true (show (l.length : Int) ≥ 2000 by omega), cond_true]; rfl
   rw [if_neg hlen, decide_eq_false (show ¬(l.length : Int) ≥ 2000 by omega), cond_false, order_nextNo_z l 2 h3, Option.bind_some, order_usesOf_eq, Option.bind_some]
   dsimp only
   obtain ⟨hx1, hx2⟩ := hg.sound.line x (List.mem_of_getElem? hx)
   have hv : (bif usU w.2.2.2.1 then some (decide (w.2.2.2.2.2.2.2.2.2.1 < day), ()) else some (false, ())) = some (decide (usU (dKind w) = true ∧ dUntil w < day), ()) := by
    show (bif usU (dKind w) then some (decide (dUntil w < day), ()) else some (false, ())) = _
    cases usU (dKind w)
    ·simp
    ·simp
   rw [hv, Option.bind_some]
   by_cases hu : usU (dKind w) = true ∧ dUntil w < day
   ·rw [decide_eq_true hu, cond_true, if_pos hu]
   rw [decide_eq_false hu, cond_false, if_neg hu, mget_map, show findGo w.2.2.2.2.1 0 A = some k from hf, order_follower_answer_eq hx hx1 hx2 h4, Option.bind_some]
   dsimp only
   by_cases ha : (answerZ l (ansD l day 5 (dLine w) to) x).1 = 0
   ·rw [if_neg (fun e => e ha), show ((answerZ l (day, 2, nextZ l 2, 5, w.2.2.2.2.1, [], (0, 0), [], (0, 0), 0, to) x).1 != 0) = false by
     show ((answerZ l (ansD l day 5 (dLine w) to) x).1 != 0) = false
     rw [ha]; rfl, cond_false]
   ·rw [if_pos ha, show ((answerZ l (day, 2, nextZ l 2, 5, w.2.2.2.2.1, [], (0, 0), [], (0, 0), 0, to) x).1 != 0) = true from bne_of_ne ha, cond_true]

theorem answerZ_wish {l : List D_api_Deed} {d : D_api_Deed} {x : LineS} (h : (answerZ l d x).1 = 0) : (answerZ l d x).2.wish = -1 := by
 unfold answerZ at h ⊢
 split
 ·rename_i e; rw [if_pos e] at h; cases h
 ·rename_i e; rw [if_neg e] at h
  split
  ·rename_i e; rw [if_pos e] at h; cases h
  ·rename_i e; rw [if_neg e] at h
   split
   ·rename_i e; rw [if_pos e] at h
    split
    ·rename_i e; rw [if_pos e] at h
     split
     ·rename_i e; rw [if_pos e] at h; cases h
     ·rfl
    ·split
     ·rfl
     ·split <;> rfl
   ·rfl

theorem ansF_cases (o : D_api_Order) (l : List D_api_Deed) (day to : Int) : (∃ e, e ≠ 0 ∧ ansF o l day to = (d0, e)) ∨
  ∃ (i : Nat) (w : D_api_Deed) (k : Nat) (x : LineS) (kd : Int), chkF o l = 0 ∧ (1 ≤ day ∧ day ≤ 3652059) ∧ (∀ q, l.getLast? = some q → q.1 ≤ day) ∧ l[i]? = some w ∧ w.2.2.1 = to ∧ findL (dLine w) (allZ o l 0 3652059).1 = some k ∧ (allZ o l 0 3652059).1[k]? = some x ∧
   x.wish = (i : Int) ∧ l.length < 2000 ∧ (kd = 6 ∨ (kd = 5 ∧ (answerZ l (ansD l day 5 (dLine w) to) x).1 = 0)) ∧ ansF o l day to = (ansD l day kd (dLine w) to, 0) := by
 unfold ansF
 by_cases h : chkF o l = 0
 rotate_left
 ·rw [if_pos h]; exact .inl ⟨_, h, rfl⟩
 rw [if_neg (show ¬chkF o l ≠ 0 from fun e => e h)]
 by_cases hday : 1 ≤ day ∧ day ≤ 3652059
 rotate_left
 ·rw [if_pos hday]; exact .inl ⟨1, by omega, rfl⟩
 rw [if_neg (show ¬¬(1 ≤ day ∧ day ≤ 3652059) from fun e => e hday)]
 by_cases hla : (l.getLast?.any fun q => decide (day < q.1)) = true
 ·rw [if_pos hla]; exact .inl ⟨8, by omega, rfl⟩
 rw [if_neg hla]
 cases hix : idxB l to with
 | none => exact .inl ⟨5, by omega, rfl⟩
 | some i =>
  obtain ⟨w, hw, w1, w2⟩ := idxB_some hix
  dsimp only
  rw [hw]
  dsimp only
  unfold lineL
  cases hf : findL (dLine w) (allZ o l 0 3652059).1 with
  | none => exact .inl ⟨5, by omega, rfl⟩
  | some k =>
   obtain ⟨x, hx, hxn⟩ := findL_some hf
   rw [Option.bind_some, hx]
   dsimp only
   by_cases hwi : x.wish = (i : Int)
   rotate_left
   ·rw [if_pos hwi]; exact .inl ⟨5, by omega, rfl⟩
   rw [if_neg (show ¬x.wish ≠ (i : Int) from fun e => e hwi)]
   by_cases hlen : 2000 ≤ l.length
   ·rw [if_pos hlen]; exact .inl ⟨2, by omega, rfl⟩
   rw [if_neg hlen]
   have hlq : ∀ q, l.getLast? = some q → q.1 ≤ day := fun q hq => by
    have : ¬day < q.1 := fun e => hla (by rw [hq]; exact decide_eq_true e)
    omega
   by_cases hu : usU (dKind w) = true ∧ dUntil w < day
   ·rw [if_pos hu]; exact .inr ⟨i, w, k, x, 6, h, hday, hlq, hw, w2, hf, hx, hwi, by omega, .inl rfl, rfl⟩
   rw [if_neg hu]
   by_cases ha : (answerZ l (ansD l day 5 (dLine w) to) x).1 = 0
   ·rw [if_neg (fun e => e ha)]; exact .inr ⟨i, w, k, x, 5, h, hday, hlq, hw, w2, hf, hx, hwi, by omega, .inr ⟨rfl, ha⟩, rfl⟩
   ·rw [if_pos ha]; exact .inr ⟨i, w, k, x, 6, h, hday, hlq, hw, w2, hf, hx, hwi, by omega, .inl rfl, rfl⟩

theorem law_OrderAnswersAreFollowed (o : D_api_Order) (l : List D_api_Deed) (day to : Int) : l9_OrderAnswersAreFollowed o l day to = some (true, ()) := by
 unfold l9_OrderAnswersAreFollowed
 rw [order_Answer_eq, Option.bind_some]
 rcases ansF_cases o l day to with ⟨e, he, hw⟩ | ⟨i, w, k, x, kd, h, hday, hlq, hw, hto, hf, hx, hwi, hlen, hkd, hA⟩
 ·rw [hw]
  dsimp only
  rw [bne_of_ne he, cond_true, show ((d0.1 : Int) == 0) = true from rfl, cond_true, awake9]; rfl
 rw [hA]
 dsimp only
 rw [show ((0 : Int) != 0) = false from rfl, cond_false]
 obtain ⟨h1, h2⟩ := chkF_zero h
 obtain ⟨h3, h4⟩ := deedsF_zero h2
 obtain ⟨hg, hI⟩ := allZ_ids h 0 3652059
 obtain ⟨hx1, hx2⟩ := hg.sound.line x (List.mem_of_getElem? hx)
 have hwd : wishDeed l x = w := wishDeed_eq (by rw [hwi, Int.toNat_natCast]; exact hw)
 obtain ⟨_, _, wn, _, _, wl, _⟩ := deedF_zero (h4 w (List.mem_of_getElem? hw))
 have hk56 : kd = 5 ∨ kd = 6 := by rcases hkd with hk | hk; exact .inr hk; exact .inl hk.1
 have hok : deedsF (l ++ [ansD l day kd (dLine w) to]) = 0 := answers_ok h hlen hday hlq hk56 wl (by omega)
 have hans : (answerZ l (ansD l day kd (dLine w) to) x).1 = 0 := by
  rcases hkd with rfl | ⟨rfl, ha⟩
  ·unfold answerZ
   rw [if_neg (by omega), hwd, if_neg (fun e => e hto), if_neg (show ¬dKind (ansD l day 6 (dLine w) to) = 5 by show ¬(6 : Int) = 5; omega)]
  ·exact ha
 have hact : actZ o (l ++ [ansD l day kd (dLine w) to]) l.length (ansD l day kd (dLine w) to) x = (0, (answerZ l (ansD l day kd (dLine w) to) x).2.clr) := by
  rw [actZ_app hx2]
  unfold actZ
  rw [if_neg (show ¬dKind (ansD l day kd (dLine w) to) ≤ 4 by show ¬kd ≤ 4; omega), if_pos (show dKind (ansD l day kd (dLine w) to) ≤ 6 by show kd ≤ 6; omega), if_pos hans]
 have hdz : deedZ o (l ++ [ansD l day kd (dLine w) to]) l.length (ansD l day kd (dLine w) to) (allZ o l 0 3652059).1 = (0, (allZ o l 0 3652059).1.set k (answerZ l (ansD l day kd (dLine w) to) x).2.clr) := by
  rw [deedZ_act (show dKind (ansD l day kd (dLine w) to) ≠ 1 by show kd ≠ 1; omega) hf hx, hact]
 have hwr : order_Write o l (day, 2, 0, kd, dLine w, [], (0, 0), [], (0, 0), 0, to) = some (l ++ [ansD l day kd (dLine w) to], 0, ()) := by
  rw [order_Write_z]
  unfold wrF
  rw [if_neg (fun e => e h), if_neg (fun e => e rfl)]
  rw [show newD l (day, 2, 0, kd, dLine w, [], (0, 0), [], (0, 0), 0, to) = ansD l day kd (dLine w) to from rfl]
  rw [if_neg (fun e => e hok), hdz, if_neg (fun e => e rfl)]
 have hc' : chkF o (l ++ [ansD l day kd (dLine w) to]) = 0 := by unfold chkF; rw [if_neg (fun e => e h1)]; exact hok
 have ln0 : ∀ {m : List D_api_Deed}, chkF o m = 0 → lnF o m 3652059 = 0 := fun e => by
  unfold lnF
  rw [if_neg (fun c => c e), if_pos (by omega)]
 rw [order_Asked_eq, Option.bind_some, hwr, Option.bind_some]
 dsimp only
 rw [order_Asked_eq, Option.bind_some, ln0 h, ln0 hc']
 dsimp only
 rw [if_pos rfl, if_pos rfl, show ((0 : Int) == 0) = true from rfl, cond_true, cond_true, cond_true]
 have hA' : (allZ o (l ++ [ansD l day kd (dLine w) to]) 0 3652059).1 = (allZ o l 0 3652059).1.set k (answerZ l (ansD l day kd (dLine w) to) x).2.clr := by
  rw [allZ_snoc _ h (show (ansD l day kd (dLine w) to).1 ≤ 3652059 from hday.2) 0]
  unfold stepZ
  rw [hdz, if_neg (fun e => e rfl)]
 rw [hA']
 have hlt := (List.getElem?_eq_some_iff.1 hx).1
 have hge : (allZ o l 0 3652059).1[k] = x := by have := List.getElem?_eq_getElem hlt; rw [hx] at this; exact (Option.some.inj this).symm
 have hy : wsh (answerZ l (ansD l day kd (dLine w) to) x).2.clr = false := by
  show decide (0 ≤ (answerZ l (ansD l day kd (dLine w) to) x).2.wish) = false
  rw [answerZ_wish hans]; rfl
 have hxw : wsh x = true := decide_eq_true (by omega)
 have hcnt : ((allZ o l 0 3652059).1.set k (answerZ l (ansD l day kd (dLine w) to) x).2.clr).countP wsh + 1 = (allZ o l 0 3652059).1.countP wsh := by
  have hpos : 0 < (allZ o l 0 3652059).1.countP wsh := List.countP_pos_iff.2 ⟨x, List.mem_of_getElem? hx, hxw⟩
  have := List.countP_set (p := wsh) (a := (answerZ l (ansD l day kd (dLine w) to) x).2.clr) hlt
  rw [hge, hxw, hy] at this
  simp at this
  omega
 have hb := List.countP_le_length (p := wsh) (l := (allZ o l 0 3652059).1)
 have := hI.len
 unfold srtI
 rw [List.length_mergeSort, List.length_mergeSort, askL_len, askL_len, w64_id (by omega) (by omega)]
 rw [show (((((allZ o l 0 3652059).1.set k (answerZ l (ansD l day kd (dLine w) to) x).2.clr).countP wsh : Nat) : Int) == (((allZ o l 0 3652059).1.countP wsh : Nat) : Int) - 1) = true by
  rw [beq_iff_eq]; omega, cond_true, awake9]
 rfl

end Go.Md
