/-
 Plain facts: the lines by their numbers; the plain laws are true of all data. No condition.
-/
import Derived.Test.YtcoofjaonlccjaaGreatDoorRt
import Derived.Test.YtcoofjaonlccjaaGreatDoorRx
set_option linter.all false
namespace Go.Md
open Go.Dn

structure Ids (A : List LineS) : Prop where
 nd : (A.map LineS.no).Nodup
 rg : ∀ x, x ∈ A → 1 ≤ x.no ∧ x.no ≤ 99999
 len : A.length ≤ 500
 ne : A ≠ []

theorem findGo_none_iff {n : Int} : ∀ {A : List LineS} {i : Nat}, findGo n i A = none → n ∉ A.map LineS.no
 | [], _, _ => by simp
 | x :: r, i, h => by
  simp only [findGo] at h
  by_cases hx : n = x.no
  ·rw [if_pos hx] at h; cases h
  ·rw [if_neg hx] at h
   have := findGo_none_iff h
   simp only [List.map_cons, List.mem_cons, not_or]
   exact ⟨hx, this⟩

theorem map_no_set {A : List LineS} {k : Nat} {y x : LineS} (hx : A[k]? = some x) (h : y.no = x.no) : (A.set k y).map LineS.no = A.map LineS.no := by
 rw [List.map_set]
 refine List.ext_getElem? fun i => ?_
 rw [List.getElem?_set]
 split
 ·rename_i e
  subst e
  have hl := (List.getElem?_eq_some_iff.1 hx).1
  simp only [List.length_map, hl, if_true, List.getElem?_map, hx, Option.map_some, h]
 ·rfl

theorem deedZ_ids {o : D_api_Order} {l : List D_api_Deed} {i : Nat} {d : D_api_Deed} {A : List LineS} (hA : Good l A) (hI : Ids A) (hl : ∀ d, d ∈ l → deedF d = 0) (hd : l[i]? = some d) : Ids (deedZ o l i d A).2 := by
 unfold deedZ
 by_cases k1 : dKind d = 1
 ·rw [if_pos k1]
  split
  ·exact hI
  ·rename_i hf
   split
   ·exact hI
   ·split
    ·exact hI
    ·rename_i h5 _
     obtain ⟨_, _, _, _, _, hln, _⟩ := deedF_zero (hl d (List.mem_of_getElem? hd))
     refine ⟨?_, fun x hx => ?_, ?_, by simp⟩
     ·rw [List.map_append, List.nodup_append]
      refine ⟨hI.nd, by simp, fun a ha b hb e => ?_⟩
      simp only [List.map_cons, List.map_nil, List.mem_singleton] at hb
      subst hb; subst e
      exact findGo_none_iff hf ha
     ·rcases List.mem_append.1 hx with hx | hx
      ·exact hI.rg x hx
      ·simp only [List.mem_singleton] at hx
       subst hx
       exact hln
     ·rw [List.length_append]
      show A.length + 1 ≤ 500
      omega
 ·rw [if_neg k1]
  split
  ·exact hI
  ·rename_i k hk
   split
   ·rename_i x hx
    obtain ⟨h1, h2⟩ := hA.sound.line x (List.mem_of_getElem? hx)
    obtain ⟨_, _, a3, _⟩ := actZ_ok (o := o) h1 h2 hl hd
    refine ⟨by rw [map_no_set hx a3]; exact hI.nd, fun y hy => ?_, by rw [List.length_set]; exact hI.len, fun e => hI.ne (by simpa using e)⟩
    rcases List.mem_or_eq_of_mem_set hy with hy | hy
    ·exact hI.rg y hy
    ·subst hy; rw [a3]; exact hI.rg x (List.mem_of_getElem? hx)
   ·exact hI

theorem runZ_ids {o : D_api_Order} {l : List D_api_Deed} {wt day : Int} (hl : ∀ d, d ∈ l → deedF d = 0) : ∀ (r : List D_api_Deed) (i : Nat) (A : List LineS) (ref : List (Int × Int)) (pts : List D_api_Point), l.drop i = r → Good l A → Ids A →
  Good l (runZ o l wt day r i A ref pts).1 ∧ Ids (runZ o l wt day r i A ref pts).1 := by
 intro r
 induction r with
 | nil => intro i A ref pts _ hA hI; exact ⟨hA, hI⟩
 | cons d r ih =>
  intro i A ref pts hdr hA hI
  have hd : l[i]? = some d := by
   have := congrArg (·[0]?) hdr
   simpa [List.getElem?_drop] using this
  have hr' : l.drop (i + 1) = r := by
   have := congrArg List.tail hdr
   simpa [List.tail_drop] using this
  have hgood := deedZ_good (o := o) hA hl hd
  have hids := deedZ_ids (o := o) hA hI hl hd
  simp only [runZ]
  split
  ·exact ⟨hA, hI⟩
  ·split
   ·exact ih (i + 1) _ _ _ hr' hgood hids
   ·exact ih (i + 1) _ _ _ hr' hgood hids

theorem lines_ids {o : D_api_Order} (ho : ordF o = 0) : Ids (linesOf o) := by
 obtain ⟨_, _, hlen, hne, hgo, _⟩ := ordF_zero ho
 obtain ⟨hln, _, hpw⟩ := olinesGo_zero hgo
 refine ⟨?_, fun x hx => ?_, by rw [List.length_map]; exact hlen, fun e => hne (by simpa using e)⟩
 ·rw [List.map_map]
  exact List.Pairwise.map _ (fun a b (h : a.1 < b.1) e => by
   have e' : a.1 = b.1 := e
   omega) hpw
 ·obtain ⟨q, hq, rfl⟩ := List.mem_map.1 hx
  exact (hln q hq).2.2.2.2.1

theorem allZ_ids {o : D_api_Order} {l : List D_api_Deed} (h : chkF o l = 0) (wt day : Int) : Good l (allZ o l wt day).1 ∧ Ids (allZ o l wt day).1 := by
 obtain ⟨h1, h2⟩ := chkF_zero h
 obtain ⟨h3, h4⟩ := deedsF_zero h2
 exact runZ_ids h4 l 0 _ [] [] rfl (lines_good h1 l) (lines_ids h1)

def srtL (A : List LineS) : List LineS := A.mergeSort fun x y => decide (x.no ≤ y.no)
theorem srtL_perm (A : List LineS) : (srtL A).Perm A := List.mergeSort_perm A _
theorem srtL_srt (A : List LineS) : (srtL A).Pairwise fun x y => x.no ≤ y.no := by
 have := List.pairwise_mergeSort (le := fun x y : LineS => decide (x.no ≤ y.no)) (fun a b c h1 h2 => by
  simp only [decide_eq_true_eq] at *; omega) (fun a b => by simp only [Bool.or_eq_true, decide_eq_true_eq]; omega) A
 exact this.imp fun h => by simpa using h
theorem srtL_lt {A : List LineS} (hI : Ids A) : (srtL A).Pairwise fun x y => x.no < y.no := by
 have h1 := srtL_srt A
 have h2 : ((srtL A).map LineS.no).Nodup := ((srtL_perm A).map _).nodup_iff.2 hI.nd
 have h3 : (srtL A).Pairwise fun x y => x.no ≠ y.no := List.pairwise_map.1 h2
 exact (h1.and h3).imp fun ⟨a, b⟩ => by omega

theorem mapGo_fst : ∀ (A : List LineS) (i : Nat), (mapGo i A).map (·.1) = A.map LineS.no
 | [], _ => rfl
 | x :: r, i => by simp only [mapGo, List.map_cons, mapGo_fst r]
theorem keysOk_lines {A : List LineS} (hI : Ids A) : keysOk (mapOf A) = true := by
 unfold keysOk
 rw [mapGo_fst, mapGo_len]
 have := hI.len
 simp only [Bool.and_eq_true, decide_eq_true_eq, List.all_eq_true]
 refine ⟨by omega, fun p hp => ?_, hI.nd⟩
 have hm : p.1 ∈ (mapOf A).map (·.1) := List.mem_map.2 ⟨p, hp, rfl⟩
 rw [mapGo_fst] at hm
 obtain ⟨x, hx, e⟩ := List.mem_map.1 hm
 have := hI.rg x hx
 omega
theorem keysI_lines (A : List LineS) : keysI (mapOf A) = (srtL A).map LineS.no := by
 unfold keysI
 rw [mapGo_fst]
 refine List.Perm.eq_of_pairwise (le := fun a b : Int => decide (a ≤ b) = true) (fun a b _ _ h1 h2 => ?_) ?_ ?_ ?_
 ·simp only [decide_eq_true_eq] at h1 h2; omega
 ·exact List.pairwise_mergeSort (le := fun x y : Int => decide (x ≤ y)) (fun a b c h1 h2 => by simp only [decide_eq_true_eq] at *; omega) (fun a b => by simp only [Bool.or_eq_true, decide_eq_true_eq]; omega) _
 ·exact List.pairwise_map.2 ((srtL_srt A).imp fun h => by simpa using h)
 ·exact (List.mergeSort_perm _ _).trans ((srtL_perm A).map _).symm

theorem findGo_get {n : Int} : ∀ {A : List LineS} {i k : Nat} {x : LineS}, (A.map LineS.no).Nodup → A[k]? = some x → x.no = n → findGo n i A = some (i + k)
 | [], _, _, _, _, h, _ => by simp at h
 | y :: r, i, 0, x, _, h, hn => by
  have e : y = x := by simpa using h
  subst e
  simp only [findGo, if_pos hn.symm, Nat.add_zero]
 | y :: r, i, k + 1, x, hnd, h, hn => by
  have h' : r[k]? = some x := by simpa using h
  rw [List.map_cons, List.nodup_cons] at hnd
  have hne : ¬n = y.no := fun e => hnd.1 (by
   rw [← e, ← hn]
   exact List.mem_map.2 ⟨x, List.mem_of_getElem? h', rfl⟩)
  simp only [findGo, if_neg hne]
  rw [findGo_get hnd.2 h' hn, show i + 1 + k = i + (k + 1) by omega]
theorem srtL_find {A : List LineS} (hI : Ids A) {x : LineS} (hx : x ∈ srtL A) : ∃ k, findL x.no A = some k ∧ A[k]? = some x := by
 obtain ⟨k, hk⟩ := List.getElem?_of_mem ((srtL_perm A).mem_iff.1 hx)
 exact ⟨k, by have := findGo_get (i := 0) hI.nd hk rfl; rwa [Nat.zero_add] at this, hk⟩
def hndL (A : List LineS) : List (Option Nat) := (srtL A).map fun x => findL x.no A

theorem wishDeed_take {l : List D_api_Deed} {k : Nat} {x : LineS} (hw : WOk (l.take k) x) (h : ¬x.wish < 0) : wishDeed l x = wishDeed (l.take k) x := by
 obtain ⟨w, hw1, _⟩ := hw.kind (by omega)
 rw [wishDeed_eq hw1]
 refine wishDeed_eq ?_
 rw [List.getElem?_take] at hw1
 split at hw1
 ·exact hw1
 ·cases hw1
theorem deedZ_take {o : D_api_Order} {l : List D_api_Deed} {k i : Nat} {d : D_api_Deed} {A : List LineS} (hA : Sound (l.take k) A) : deedZ o l i d A = deedZ o (l.take k) i d A := by
 have ha : ∀ x, WOk (l.take k) x → answerZ l d x = answerZ (l.take k) d x := fun x hw => by
  unfold answerZ
  by_cases h : x.wish < 0
  ·rw [if_pos h, if_pos h]
  ·rw [if_neg h, if_neg h, wishDeed_take hw h]
 unfold deedZ
 split
 ·rfl
 ·split
  ·rfl
  ·split
   ·rename_i x hx
    have : actZ o l i d x = actZ o (l.take k) i d x := by
     unfold actZ
     rw [ha x (hA.line x (List.mem_of_getElem? hx)).2]
    rw [this]
   ·rfl
theorem runZ_take {o : D_api_Order} {l : List D_api_Deed} {k : Nat} {wt day : Int} (hk : ∀ d, l[k]? = some d → day < d.1) (hl : ∀ d, d ∈ l.take k → deedF d = 0) : ∀ (r : List D_api_Deed) (i : Nat) (A : List LineS) (ref : List (Int × Int)) (pts : List D_api_Point), (l.take k).drop i = r → i ≤ (l.take k).length → Sound (l.take k) A →
  runZ o l wt day (l.drop i) i A ref pts = runZ o (l.take k) wt day r i A ref pts := by
 intro r
 induction r with
 | nil =>
  intro i A ref pts hdr hi hA
  have hi' : i = (l.take k).length := by
   have := congrArg List.length hdr
   simp only [List.length_drop, List.length_nil] at this
   omega
  rw [List.length_take] at hi'
  cases hc : l.drop i with
  | nil => rfl
  | cons d q =>
   have hd : l[i]? = some d := by
    have := congrArg (·[0]?) hc
    simpa [List.getElem?_drop] using this
   have hlt := (List.getElem?_eq_some_iff.1 hd).1
   have hik : i = k := by omega
   rw [hik] at hd
   simp only [runZ, if_pos (hk d hd)]
 | cons d r ih =>
  intro i A ref pts hdr hi hA
  have hd : (l.take k)[i]? = some d := by
   have := congrArg (·[0]?) hdr
   simpa [List.getElem?_drop] using this
  have hr' : (l.take k).drop (i + 1) = r := by
   have := congrArg List.tail hdr
   simpa [List.tail_drop] using this
  have hlt : i < (l.take k).length := (List.getElem?_eq_some_iff.1 hd).1
  have hd' : l[i]? = some d := by
   rw [List.getElem?_take] at hd
   split at hd
   ·exact hd
   ·cases hd
  have hdl : l.drop i = d :: l.drop (i + 1) := by
   have hl2 := (List.getElem?_eq_some_iff.1 hd').1
   rw [List.drop_eq_getElem_cons hl2]
   have := (List.getElem?_eq_some_iff.1 hd').2
   rw [this]
  have hok := (deedZ_ok (o := o) hA hl hd).1
  rw [hdl]
  simp only [runZ]
  rw [deedZ_take hA]
  split
  ·rfl
  ·split
   ·exact ih (i + 1) _ _ _ hr' (by omega) hok
   ·exact ih (i + 1) _ _ _ hr' (by omega) hok
theorem allZ_take {o : D_api_Order} {l : List D_api_Deed} {k : Nat} (wt day : Int) (h : chkF o (l.take k) = 0) (hk : ∀ d, l[k]? = some d → day < d.1) : allZ o l wt day = allZ o (l.take k) wt day := by
 obtain ⟨h1, h2⟩ := chkF_zero h
 obtain ⟨h3, h4⟩ := deedsF_zero h2
 exact runZ_take hk h4 _ 0 _ [] [] rfl (Nat.zero_le _) (lines_good h1 _).sound

end Go.Md

namespace Go.Md
open Go.Dn

theorem hndL_eq (A : List LineS) : hndL A = (keysI (mapOf A)).map fun k => findL k A := by
 rw [keysI_lines, List.map_map]; rfl

theorem order_follower_sorted_eq {A : List LineS} (hI : Ids A) (o : D_api_Order) (l : List D_api_Deed) (ref : List D_api_Decimal) (pts : List D_api_Point) (wt : Int) :
  order_follower_sorted (o, l, mapOf A, ref, pts, wt, ()) = some (hndL A, (o, l, mapOf A, ref, pts, wt, ()), ()) := by
 obtain ⟨onum, obuy, osel, oday, oext, olns⟩ := o
 have hmax : maxLen = 9223372036854775807 := rfl
 unfold order_follower_sorted
 dsimp only
 rw [chk_true' (keysOk_lines hI)]
 have hkl : (keysI (mapOf A)).length ≤ 500 := by
  rw [keysI_lines, List.length_map, (srtL_perm A).length_eq]; exact hI.len
 rw [hndL_eq]
 generalize keysI (mapOf A) = ks at hkl
 have loop : ∀ n, ks.length < n → iter (X := order_follower_sorted_x3) (β := order_follower_sorted_r3) n ([], (ks.length : Int), 0, onum, obuy, osel, oday, oext, olns, l, wt, ks, ref, pts, mapOf A, ()) order_follower_sorted_b3 = some (Sum.inr (ks.map (fun k => findL k A), onum, obuy, osel, oday, oext, olns, l, wt, ref, pts, mapOf A, ())) := by
  intro n hn
  refine iter_post (Inv := fun i X => X = (((ks.map (fun k => findL k A)).take i, (ks.length : Int), (i : Int), onum, obuy, osel, oday, oext, olns, l, wt, ks, ref, pts, mapOf A, ()) : order_follower_sorted_x3)) ks.length (fun z => z = some (Sum.inr (ks.map (fun k => findL k A), onum, obuy, osel, oday, oext, olns, l, wt, ref, pts, mapOf A, ()))) ?_ ?_ n 0 _ rfl (Nat.zero_le _) (by omega)
  ·rintro i X again hi rfl hag
   unfold order_follower_sorted_b3
   dsimp only
   obtain ⟨y, hy⟩ : ∃ y, ks[i]? = some y := ⟨ks[i], List.getElem?_eq_getElem hi⟩
   have hlen : ((ks.map (fun k => findL k A)).take i).length = i := by rw [List.length_take, List.length_map]; omega
   rw [decide_eq_true (show (i : Int) < (ks.length : Int) by omega), cond_true, chk_true' (by simp), Int.toNat_natCast, hy, Option.bind_some, hlen, chk_true' (by
    rw [Bool.and_eq_true]; exact ⟨decide_eq_true (by omega), decide_eq_true (by omega)⟩), w64_id (n := (i : Int) + 1) (by omega) (by omega), mget_map]
   have e : (ks.map (fun k => findL k A)).take i ++ [findGo y 0 A] = (ks.map (fun k => findL k A)).take (i + 1) := by
    rw [List.take_add_one, List.getElem?_map, hy]; rfl
   rw [e]
   exact hag _ rfl
  ·rintro X again rfl
   unfold order_follower_sorted_b3
   dsimp only
   rw [decide_eq_false (show ¬(ks.length : Int) < (ks.length : Int) by omega), cond_false, List.take_of_length_le (by rw [List.length_map]; exact Nat.le_refl _)]
 have h2 := mapGo_len A 0
 rw [loop _ (by
  simp only [List.length_nil, Int.natAbs_natCast]
  omega)]
 rfl

theorem hnd_state {l : List D_api_Deed} {A : List LineS} (hA : Good l A) (hI : Ids A) {i : Nat} {x : LineS} (hx : (srtL A)[i]? = some x) : ∃ k, (hndL A)[i]? = some (some k) ∧ A[k]? = some x ∧ order_line_state (some k) (A.map LineS.tup) = some (stateZ x, ()) ∧ x ∈ A := by
 obtain ⟨k, hk, hxk⟩ := srtL_find hI (List.mem_of_getElem? hx)
 have hm := List.mem_of_getElem? hxk
 refine ⟨k, ?_, hxk, order_line_state_eq hxk (hA.sound.line x hm).1 (hA.pr x hm), hm⟩
 unfold hndL
 rw [List.getElem?_map, hx, Option.map_some, hk]

def lnF (o : D_api_Order) (l : List D_api_Deed) (day : Int) : Int := if chkF o l ≠ 0 then chkF o l else if 1 ≤ day ∧ day ≤ 3652059 then 0 else 1
theorem order_LinesAt_eq (o : D_api_Order) (l : List D_api_Deed) (day : Int) : order_LinesAt o l day = some (if lnF o l day = 0 then (srtL (allZ o l 0 day).1).map stateZ else [], lnF o l day, ()) := by
 have hmax : maxLen = 9223372036854775807 := rfl
 unfold order_LinesAt
 rw [order_at_e_eq]
 unfold lnF
 by_cases h : chkF o l = 0
 rotate_left
 ·rw [if_pos (show chkF o l ≠ 0 from h), if_pos (show chkF o l ≠ 0 from h)]
  show (bif chkF o l != 0 then _ else _) = _
  rw [bne_of_ne h, cond_true, if_neg h]
 rw [if_neg (show ¬chkF o l ≠ 0 from fun e => e h), if_neg (show ¬chkF o l ≠ 0 from fun e => e h)]
 by_cases hd : 1 ≤ day ∧ day ≤ 3652059
 rotate_left
 ·rw [if_pos hd, if_neg hd]; rfl
 rw [if_neg (show ¬¬(1 ≤ day ∧ day ≤ 3652059) from fun e => e hd), if_pos hd, if_pos rfl]
 refine Eq.trans orAlt_none ?_
 rw [order_at_eq h hd, Option.bind_some]
 dsimp only
 rw [show ((0 : Int) != 0) = false from rfl, cond_false]
 obtain ⟨hg, hI⟩ := allZ_ids h 0 day
 rw [order_follower_sorted_eq hI o l, Option.bind_some]
 generalize (allZ o l 0 day).1 = A at hg hI
 have hSl : (srtL A).length ≤ 500 := by rw [(srtL_perm A).length_eq]; exact hI.len
 have hHl : (hndL A).length = (srtL A).length := by unfold hndL; rw [List.length_map]
 dsimp only
 rw [hHl]
 have loop : ∀ n, (srtL A).length < n → iter (X := order_LinesAt_x6) (β := order_LinesAt_r6) n ([], ((srtL A).length : Int), 0, hndL A, A.map LineS.tup, ()) order_LinesAt_b6 = some (Sum.inr ((srtL A).map stateZ, A.map LineS.tup, ())) := by
  intro n hn
  refine iter_post (Inv := fun i X => X = ((((srtL A).map stateZ).take i, ((srtL A).length : Int), (i : Int), hndL A, A.map LineS.tup, ()) : order_LinesAt_x6)) (srtL A).length (fun z => z = some (Sum.inr ((srtL A).map stateZ, A.map LineS.tup, ()))) ?_ ?_ n 0 _ rfl (Nat.zero_le _) (by omega)
  ·rintro i X again hi rfl hag
   unfold order_LinesAt_b6
   dsimp only
   obtain ⟨x, hx⟩ : ∃ y, (srtL A)[i]? = some y := ⟨(srtL A)[i], List.getElem?_eq_getElem hi⟩
   obtain ⟨k, hk, _, hst, _⟩ := hnd_state hg hI hx
   have hlen : (((srtL A).map stateZ).take i).length = i := by rw [List.length_take, List.length_map]; omega
   rw [decide_eq_true (show (i : Int) < ((srtL A).length : Int) by omega), cond_true, hHl, chk_true' (by simp; omega), Int.toNat_natCast, hk, Option.bind_some, hst, Option.bind_some, hlen, chk_true' (by
    rw [Bool.and_eq_true]; exact ⟨decide_eq_true (by omega), decide_eq_true (by omega)⟩), w64_id (n := (i : Int) + 1) (by omega) (by omega)]
   have e : ((srtL A).map stateZ).take i ++ [stateZ x] = ((srtL A).map stateZ).take (i + 1) := by
    rw [List.take_add_one, List.getElem?_map, hx]; rfl
   dsimp only
   rw [e]
   exact hag _ rfl
  ·rintro X again rfl
   unfold order_LinesAt_b6
   dsimp only
   rw [decide_eq_false (show ¬((srtL A).length : Int) < ((srtL A).length : Int) by omega), cond_false, List.take_of_length_le (by rw [List.length_map]; exact Nat.le_refl _)]
 rw [loop _ (by simp only [List.length_nil, Int.natAbs_natCast]; omega)]
 rfl

theorem slices_Equal_State_self (l : List D_api_State) (hl : l.length ≤ 2001) : slices_Equal_api_State l l = some (true, ()) := by
 unfold slices_Equal_api_State
 rw [show ((l.length : Int) != (l.length : Int)) = false by simp, cond_false]
 have : ∀ n, l.length < n → iter (X := slices_Equal_api_State_x4) (β := slices_Equal_api_State_r4) n (l, l, (l.length : Int), 0, ()) slices_Equal_api_State_b4 = some (Sum.inr ()) := by
  intro n hn
  refine iter_post (Inv := fun i X => X = ((l, l, (l.length : Int), (i : Int), ()) : slices_Equal_api_State_x4)) l.length (fun z => z = some (Sum.inr ())) ?_ ?_ n 0 _ rfl (Nat.zero_le _) (by omega)
  ·rintro i X again hi rfl hag
   unfold slices_Equal_api_State_b4
   dsimp only
   obtain ⟨y, hy⟩ : ∃ y, l[i]? = some y := ⟨l[i], List.getElem?_eq_getElem hi⟩
   rw [decide_eq_true (show (i : Int) < (l.length : Int) by omega), cond_true, idx_get hy, Option.bind_some, Option.bind_some, w64_id (n := (i : Int) + 1) (by omega) (by omega)]
   simp only [beq_self_eq_true, Bool.and_self, Bool.not_true, cond_false]
   exact hag _ rfl
  ·rintro X again rfl
   unfold slices_Equal_api_State_b4
   dsimp only
   rw [decide_eq_false (show ¬(l.length : Int) < (l.length : Int) by omega), cond_false]
 rw [this _ (by omega)]
 rfl

theorem r9_Below_eq (x n : Int) (h0 : 0 < n) (h1 : n ≤ 9223372036854775807) : ∃ k, r9_Below x n = some (k, ()) ∧ 0 ≤ k ∧ k < n := by
 unfold r9_Below
 have hne : (n != (0 : Int)) = true := by simp; omega
 rw [chk_true' hne]
 have hb := Int.tmod_lt_of_pos x h0
 have hb2 : -n < Int.tmod x n := Int.lt_tmod_of_pos x h0
 by_cases h : Int.tmod x n < 0
 ·rw [decide_eq_true h, cond_true]
  refine ⟨_, rfl, ?_⟩
  rw [w64_id (by omega) (by omega)]; omega
 ·rw [decide_eq_false h, cond_false]
  exact ⟨_, rfl, by omega, hb⟩

theorem r9_Below_len (x : Int) (len : Nat) (hx : -9223372036854775808 ≤ x ∧ x ≤ 9223372036854775807) (hl : len ≤ 9223372036854775807) : ∃ k, r9_Below x (w64 ((len : Int) + 1)) = some (k, ()) ∧ 0 ≤ k ∧ k ≤ (len : Int) := by
 by_cases h : len = 9223372036854775807
 ·subst h
  rw [show w64 (((9223372036854775807 : Nat) : Int) + 1) = -9223372036854775808 from rfl]
  unfold r9_Below
  rw [chk_true' (by decide), Int.tmod_neg]
  have hm : Int.tmod x 9223372036854775808 = if x = -9223372036854775808 then 0 else x := by
   by_cases e : x = -9223372036854775808
   ·rw [if_pos e, e]; rfl
   ·rw [if_neg e]
    by_cases h0 : 0 ≤ x
    ·exact Int.tmod_eq_of_lt h0 (by omega)
    ·have := Int.tmod_eq_of_lt (a := -x) (b := 9223372036854775808) (by omega) (by omega)
     rw [Int.neg_tmod] at this
     omega
  rw [hm]
  by_cases e : x = -9223372036854775808
  ·rw [if_pos e]
   exact ⟨0, rfl, by omega, by omega⟩
  ·rw [if_neg e]
   by_cases h0 : x < 0
   ·rw [decide_eq_true h0, cond_true]
    refine ⟨_, rfl, ?_⟩
    have e : w64 (x + -9223372036854775808) = x + -9223372036854775808 + 18446744073709551616 := by
     show IntKind.wrap .i64 _ = _
     rw [IntKind.wrap_i64]; omega
    rw [e]; omega
   ·rw [decide_eq_false h0, cond_false]
    exact ⟨x, rfl, by omega, by omega⟩
 ·rw [w64_id (by omega) (by omega)]
  obtain ⟨k, h1, h2, h3⟩ := r9_Below_eq x ((len : Int) + 1) (by omega) (by omega)
  exact ⟨k, h1, h2, by omega⟩

theorem lnF_zero {o : D_api_Order} {l : List D_api_Deed} {day : Int} (h : lnF o l day = 0) : chkF o l = 0 ∧ 1 ≤ day ∧ day ≤ 3652059 := by
 unfold lnF at h
 split at h
 ·rename_i h1; exact absurd h h1
 ·rename_i h1
  split at h
  ·rename_i h2; exact ⟨Classical.not_not.1 h1, h2⟩
  ·cases h

theorem law_OrderLaterDeedsChangeNothing (o : D_api_Order) (l : List D_api_Deed) (day k : Int) (hk : -9223372036854775808 ≤ k ∧ k ≤ 9223372036854775807) (hl : l.length ≤ 9223372036854775807) : l9_OrderLaterDeedsChangeNothing o l day k = some (true, ()) := by
 unfold l9_OrderLaterDeedsChangeNothing
 obtain ⟨j, hj, hj0, hj1⟩ := r9_Below_len k l.length hk hl
 rw [hj, Option.bind_some, order_LinesAt_eq, Option.bind_some]
 dsimp only
 rw [chk_true' (by simp; omega), List.drop_zero, order_LinesAt_eq, Option.bind_some]
 dsimp only
 by_cases h1 : lnF o l day = 0
 rotate_left
 ·rw [bne_of_ne h1, cond_true, Option.bind_some, cond_true, awake9]; rfl
 rw [h1, show ((0 : Int) != 0) = false from rfl, cond_false]
 by_cases h2 : lnF o (l.take j.toNat) day = 0
 rotate_left
 ·rw [bne_of_ne h2, cond_true, Option.bind_some, cond_true, awake9]; rfl
 rw [h2, show ((0 : Int) != 0) = false from rfl, cond_false, if_pos rfl, if_pos rfl]
 obtain ⟨g1, g2⟩ := lnF_zero h1
 obtain ⟨g3, _⟩ := lnF_zero h2
 have fin : (∀ d, l[j.toNat]? = some d → day < d.1) → Option.bind (slices_Equal_api_State ((srtL (allZ o l 0 day).1).map stateZ) ((srtL (allZ o (l.take j.toNat) 0 day).1).map stateZ)) (fun r7 => bif r7.1 then Option.bind (l9_awake) fun r8 => some (r8.1, ()) else some (false, ())) = some (true, ()) := fun hk => by
  rw [allZ_take 0 day g3 hk]
  have hI := (allZ_ids g3 0 day).2
  rw [slices_Equal_State_self _ (by rw [List.length_map, (srtL_perm _).length_eq]; have := hI.len; omega), Option.bind_some, cond_true, awake9]
  rfl
 by_cases h3 : j < (l.length : Int)
 ·rw [decide_eq_true h3, cond_true]
  obtain ⟨d, hd⟩ : ∃ d, l[j.toNat]? = some d := ⟨l[j.toNat], List.getElem?_eq_getElem (by omega)⟩
  have hix : idx l j = some d := by
   have := idx_get (i := j.toNat) hd
   rwa [Int.toNat_of_nonneg hj0] at this
  rw [hix, Option.bind_some, Option.bind_some]
  by_cases h4 : d.1 ≤ day
  ·rw [decide_eq_true h4, cond_true, awake9]; rfl
  ·rw [decide_eq_false h4, cond_false, fin (fun d' hd' => by rw [hd] at hd'; cases hd'; omega)]
   rfl
 ·rw [decide_eq_false h3, cond_false, Option.bind_some, cond_false, fin (fun d' hd' => by
   have := (List.getElem?_eq_some_iff.1 hd').1
   omega)]
  rfl

end Go.Md

namespace Go.Md
open Go.Dn

theorem r1_Normal_few (z : Int) (hz : z.natAbs ≤ 9000000000000000000) (p : Nat) (hp : p ≤ 1000) : r1_Normal (z, (p : Int)) = some (((few p z).1, ((few p z).2 : Int)), ()) := by
 have loop : ∀ (n : Nat) (z : Int) (p : Nat), z.natAbs ≤ 9000000000000000000 → p ≤ 1000 → p < n → iter (X := r1_Normal_x1) (β := r1_Normal_r1) n (z, (p : Int), 0, 0, ()) r1_Normal_b1 = some (Sum.inr ((few p z).1, ((few p z).2 : Int), 0, 0, ())) := by
  intro n
  induction n with
  | zero => intro z p _ _ h; omega
  | succ n ih =>
   intro z p hz hp hn
   rw [iter_succ]
   generalize hag : (fun y => iter n y r1_Normal_b1) = again
   unfold r1_Normal_b1
   dsimp only
   cases p with
   | zero => rw [bif_neg (by omega)]; rfl
   | succ p =>
    rw [bif_pos (by omega)]
    by_cases hm : z % 10 = 0
    ·have h1 : Int.tmod z 10 = 0 := Int.tmod_eq_zero_of_dvd (Int.dvd_of_emod_eq_zero hm)
     have h2 : Int.tdiv z 10 = z / 10 := Int.tdiv_eq_ediv_of_dvd (Int.dvd_of_emod_eq_zero hm)
     have e : few (p + 1) z = few p (z / 10) := by simp [few, hm]
     rw [h1, h2, show ((0 : Int) == 0) = true from rfl, cond_true, w64_id (by omega) (by omega), w64_id (by omega) (by omega), e, ← hag, show ((p + 1 : Nat) : Int) - 1 = (p : Int) by omega]
     exact ih (z / 10) p (by omega) (by omega) (by omega)
    ·have h1 : (Int.tmod z 10 == 0) = false := by
      simp only [beq_eq_false_iff_ne, ne_eq]
      intro h
      exact hm (Int.emod_eq_zero_of_dvd (Int.dvd_of_tmod_eq_zero h))
     have e : few (p + 1) z = (z, p + 1) := by simp [few, hm]
     rw [h1, cond_false, e]
 unfold r1_Normal
 dsimp only
 rw [loop _ z p hz hp (by omega), joinB_inr]

structure Milli (d : D_api_Decimal) (n : Int) : Prop where
 p0 : 0 ≤ d.2
 p3 : d.2 ≤ 3
 val : d.1 * 10 ^ (3 - d.2).toNat = n
 bd : n.natAbs ≤ 2000000000000000

theorem Milli.unit {d : D_api_Decimal} {n : Int} (h : Milli d n) : d.1.natAbs ≤ n.natAbs := by
 have := h.val
 have h1 : (1 : Nat) ≤ 10 ^ (3 - d.2).toNat := Nat.one_le_pow _ _ (by omega)
 rw [← h.val, Int.natAbs_mul, Int.natAbs_pow]
 exact Nat.le_mul_of_pos_right _ h1

theorem r9_milli_eq {d : D_api_Decimal} {n : Int} (h : Milli d n) : r9_milli d = some (n, ()) := by
 obtain ⟨u, p⟩ := d
 have hu := h.unit
 have hb := h.bd
 have p0 := h.p0
 have p3 := h.p3
 obtain ⟨k, hk⟩ : ∃ k : Nat, (3 - p : Int) = (k : Int) := ⟨(3 - p).toNat, by dsimp only at p3; omega⟩
 have hk3 : k ≤ 3 := by dsimp only at p0; omega
 have hv : u * 10 ^ k = n := by
  have := h.val
  dsimp only at this
  rwa [hk, Int.toNat_natCast] at this
 dsimp only at hu
 unfold r9_milli
 dsimp only
 rw [hk, w64_id (n := (k : Int)) (by omega) (by omega)]
 have hm : ∀ i, i ≤ k → (u * 10 ^ i).natAbs ≤ n.natAbs := fun i hi => by
  rw [← hv, Int.natAbs_mul, Int.natAbs_mul, Int.natAbs_pow, Int.natAbs_pow]
  exact Nat.mul_le_mul_left _ (Nat.pow_le_pow_right (by decide) hi)
 have loop : ∀ m, k < m → iter (X := r9_milli_x3) (β := r9_milli_r3) m (u, (k : Int), 0, ()) r9_milli_b3 = some (Sum.inr (n, ())) := by
  intro m hm'
  refine iter_post (Inv := fun i X => X = ((u * 10 ^ i, (k : Int), (i : Int), ()) : r9_milli_x3)) k (fun z => z = some (Sum.inr (n, ()))) ?_ ?_ m 0 _ (by simp) (Nat.zero_le _) (by omega)
  ·rintro i X again hi rfl hag
   unfold r9_milli_b3
   dsimp only
   have h1 := hm (i + 1) (by omega)
   have e : u * 10 ^ i * 10 = u * 10 ^ (i + 1) := by rw [Int.pow_succ, Int.mul_assoc]
   rw [decide_eq_true (show (i : Int) < (k : Int) by omega), cond_true, e, w64_id (n := u * 10 ^ (i + 1)) (by omega) (by omega), w64_id (n := (i : Int) + 1) (by omega) (by omega)]
   exact hag _ rfl
  ·rintro X again rfl
   unfold r9_milli_b3
   dsimp only
   rw [decide_eq_false (show ¬(k : Int) < (k : Int) by omega), cond_false, hv]
 rw [loop _ (by simp only [Int.natAbs_natCast]; omega)]
 rfl

theorem milli_told {n : Int} (h : n.natAbs ≤ 2000000000000000) : Milli (toldQ n) n := by
 obtain ⟨h1, h2, h3⟩ := few_val 3 n
 refine ⟨by show (0 : Int) ≤ ((few 3 n).2 : Int); omega, by show ((few 3 n).2 : Int) ≤ 3; omega, ?_, h⟩
 show (few 3 n).1 * 10 ^ (3 - ((few 3 n).2 : Int)).toNat = n
 rw [show (3 - ((few 3 n).2 : Int)).toNat = 3 - (few 3 n).2 by omega]
 exact h2

theorem r9_plus_eq {a b : D_api_Decimal} {m n : Int} (ha : Milli a m) (hb : Milli b n) : r9_plus a b = some (toldQ (m + n), ()) := by
 have h1 := ha.bd
 have h2 := hb.bd
 unfold r9_plus
 rw [r9_milli_eq ha, Option.bind_some, r9_milli_eq hb, Option.bind_some]
 dsimp only
 rw [w64_id (by omega) (by omega)]
 have := r1_Normal_few (m + n) (by omega) 3 (by omega)
 rw [show ((3 : Nat) : Int) = 3 from rfl] at this
 rw [this]
 rfl
theorem Milli.neg {d : D_api_Decimal} {n : Int} (h : Milli d n) : Milli (-d.1, d.2) (-n) := ⟨h.p0, h.p3, by show -d.1 * 10 ^ (3 - d.2).toNat = -n; rw [Int.neg_mul, h.val], by rw [Int.natAbs_neg]; exact h.bd⟩
theorem r9_minus_eq {a b : D_api_Decimal} {m n : Int} (ha : Milli a m) (hb : Milli b n) : r9_minus a b = some (toldQ (m - n), ()) := by
 have h2 := hb.unit
 have h3 := hb.bd
 unfold r9_minus
 rw [Int.zero_sub, w64_id (n := -b.1) (by omega) (by omega), r9_plus_eq ha hb.neg, Option.bind_some, Int.sub_eq_add_neg]

theorem few_sign (p : Nat) (n : Int) : ((few p n).1 < 0 ↔ n < 0) ∧ ((few p n).1 = 0 ↔ n = 0) := by
 obtain ⟨_, h2, _⟩ := few_val p n
 have hp : (0 : Int) < 10 ^ (p - (few p n).2) := Int.pow_pos (by decide)
 generalize (few p n).1 = u at h2
 generalize (10 : Int) ^ (p - (few p n).2) = q at h2 hp
 subst h2
 refine ⟨⟨fun h => Int.mul_neg_of_neg_of_pos h hp, fun h => ?_⟩, ⟨fun h => by rw [h, Int.zero_mul], fun h => ?_⟩⟩
 ·rcases Classical.em (u < 0) with h1 | h1
  ·exact h1
  ·have := Int.mul_nonneg (show 0 ≤ u by omega) (Int.le_of_lt hp); omega
 ·rcases Int.mul_eq_zero.1 h with h1 | h1
  ·exact h1
  ·omega

theorem r9_away_eq {s : D_api_State} {m n : Int} (h1 : Milli s.2.2.2.2.2.2.1 m) (h2 : Milli s.2.2.2.2.2.2.2.2.1 n) : r9_away s = some (toldQ (m - n), ()) := by
 unfold r9_away
 rw [r9_minus_eq h1 h2]; rfl

theorem r9_reopened_eq {s : D_api_State} {c m n : Int} (h0 : Milli s.2.2.2.1 c) (h1 : Milli s.2.2.2.2.2.2.1 m) (h2 : Milli s.2.2.2.2.2.2.2.2.1 n) (hb : (m - n).natAbs ≤ 2000000000000000) :
  r9_reopened s = some ((s.1, s.2.1, s.2.2.1, s.2.2.2.1, s.2.2.2.2.1, s.2.2.2.2.2.1, s.2.2.2.2.2.2.1, s.2.2.2.2.2.2.2.1, s.2.2.2.2.2.2.2.2.1, toldQ (if c - m + n > 0 then c - m + n else 0)), ()) := by
 unfold r9_reopened
 rw [r9_away_eq h1 h2, Option.bind_some, r9_minus_eq h0 (milli_told hb), Option.bind_some]
 dsimp only
 have e : c - (m - n) = c - m + n := by omega
 rw [e]
 by_cases h : c - m + n < 0
 ·rw [decide_eq_true (show (toldQ (c - m + n)).1 < 0 from (few_sign 3 _).1.2 h), cond_true, if_neg (by omega)]
  unfold toldQ
  rw [few_zero]
  rfl
 ·rw [decide_eq_false (show ¬(toldQ (c - m + n)).1 < 0 from fun h' => h ((few_sign 3 _).1.1 h')), cond_false]
  by_cases h0 : c - m + n > 0
  ·rw [if_pos h0]
  ·rw [if_neg h0, show c - m + n = 0 by omega]

theorem dec_told {n : Int} (h : n.natAbs ≤ 1000000000000000) : DecOk (toldQ n) ∧ dec9 (toldQ n) = n * 1000000 := by
 obtain ⟨h1, h2, h3⟩ := few_val 3 n
 refine ⟨⟨by show (few 3 n).1.natAbs ≤ _; omega, by show (0 : Int) ≤ ((few 3 n).2 : Int); omega, by show ((few 3 n).2 : Int) ≤ 9; omega⟩, ?_⟩
 show (few 3 n).1 * 10 ^ (9 - ((few 3 n).2 : Int)).toNat = n * 1000000
 rw [show (9 - ((few 3 n).2 : Int)).toNat = (3 - (few 3 n).2) + 6 by omega, Int.pow_add, ← Int.mul_assoc, h2]
 rfl

theorem r9_cmp_told {m n : Int} (hm : m.natAbs ≤ 1000000000000000) (hn : n.natAbs ≤ 1000000000000000) : r9_cmp (toldQ m) (toldQ n) = some ((m - n).sign, ()) := by
 obtain ⟨a1, a2⟩ := dec_told hm
 obtain ⟨b1, b2⟩ := dec_told hn
 rw [r9_cmp_eq a1 b1, a2, b2]
 have : m * 1000000 - n * 1000000 = (m - n) * 1000000 := by omega
 rw [this, Int.sign_mul, show Int.sign 1000000 = 1 from rfl, Int.mul_one]

theorem r9_AddsUp_eq {x : LineS} (hx : LOk x) : r9_AddsUp (stateZ x) = some (true, ()) := by
 have := hx.ret0; have := hx.retr; have := hx.rcvs; have := hx.shp1; have := hx.ord0; have := hx.ord1
 unfold r9_AddsUp
 rw [r9_reopened_eq (s := stateZ x) (milli_told (n := x.ord) (by omega)) (milli_told (n := x.shp) (by omega)) (milli_told (n := x.ret) (by omega)) (by omega), Option.bind_some]
 unfold stateZ
 dsimp only
 have e : x.opn = if x.ord - x.shp + x.ret > 0 then x.ord - x.shp + x.ret else 0 := rfl
 rw [← e]
 simp only [beq_self_eq_true, Bool.and_self, Bool.and_true, cond_true]
 rw [r9_cmp_told (m := x.rcv) (n := x.shp) (by omega) (by omega), Option.bind_some, decide_eq_true (show (x.rcv - x.shp).sign ≤ 0 from Int.sign_nonpos_iff.2 (by omega)), cond_true,
  r9_cmp_told (m := x.ret) (n := x.rcv) (by omega) (by omega), Option.bind_some, decide_eq_true (show (x.ret - x.rcv).sign ≤ 0 from Int.sign_nonpos_iff.2 (by omega)), cond_true]
 have s1 : (toldQ x.ret).1 ≥ 0 := by
  have := (few_sign 3 x.ret).1
  show (few 3 x.ret).1 ≥ 0
  omega
 have s2 : (toldQ x.ord).1 ≥ 0 := by
  have := (few_sign 3 x.ord).1
  show (few 3 x.ord).1 ≥ 0
  omega
 rw [decide_eq_true s1, cond_true, decide_eq_true s2]
 rfl

theorem law_OrderQuantitiesAddUp (o : D_api_Order) (l : List D_api_Deed) (day : Int) : l9_OrderQuantitiesAddUp o l day = some (true, ()) := by
 unfold l9_OrderQuantitiesAddUp
 rw [order_LinesAt_eq, Option.bind_some]
 dsimp only
 by_cases h : lnF o l day = 0
 rotate_left
 ·rw [bne_of_ne h, cond_true, if_neg h]
  show Option.bind (Option.bind l9_awake _) _ = _
  rw [awake9]; rfl
 rw [h, show ((0 : Int) != 0) = false from rfl, cond_false, if_pos rfl]
 obtain ⟨g1, _⟩ := lnF_zero h
 obtain ⟨hg, hI⟩ := allZ_ids g1 0 day
 generalize (allZ o l 0 day).1 = A at hg hI
 have hlt := srtL_lt hI
 have hlen : (srtL A).length ≤ 500 := by rw [(srtL_perm A).length_eq]; exact hI.len
 have hne : 0 < (srtL A).length := by
  rw [(srtL_perm A).length_eq]
  exact List.length_pos_iff.2 hI.ne
 generalize hm : (srtL A).map stateZ = S
 have hSl : S.length = (srtL A).length := by rw [← hm, List.length_map]
 have loop : ∀ n, S.length < n → iter (X := l9_OrderQuantitiesAddUp_x5) (β := l9_OrderQuantitiesAddUp_r5) n (S, S, (S.length : Int), 0, ()) l9_OrderQuantitiesAddUp_b5 = some (Sum.inr (S, ())) := by
  intro n hn
  refine iter_post (Inv := fun i X => X = ((S, S, (S.length : Int), (i : Int), ()) : l9_OrderQuantitiesAddUp_x5)) S.length (fun z => z = some (Sum.inr (S, ()))) ?_ ?_ n 0 _ rfl (Nat.zero_le _) (by omega)
  ·rintro i X again hi rfl hag
   unfold l9_OrderQuantitiesAddUp_b5
   dsimp only
   obtain ⟨x, hx⟩ : ∃ y, (srtL A)[i]? = some y := ⟨(srtL A)[i], List.getElem?_eq_getElem (by omega)⟩
   have hy : S[i]? = some (stateZ x) := by rw [← hm, List.getElem?_map, hx]; rfl
   have hxm := (srtL_perm A).mem_iff.1 (List.mem_of_getElem? hx)
   rw [decide_eq_true (show (i : Int) < (S.length : Int) by omega), cond_true, idx_get hy, Option.bind_some, r9_AddsUp_eq (hg.sound.line x hxm).1, Option.bind_some]
   dsimp only
   rw [Bool.not_true, cond_false, w64_id (n := (i : Int) + 1) (by omega) (by omega)]
   cases i with
   | zero =>
    rw [decide_eq_false (show ¬((0 : Nat) : Int) > 0 by omega), cond_false, Option.bind_some, cond_false]
    exact hag _ rfl
   | succ i =>
    obtain ⟨x', hx'⟩ : ∃ y, (srtL A)[i]? = some y := ⟨(srtL A)[i], List.getElem?_eq_getElem (by omega)⟩
    have hy' : S[i]? = some (stateZ x') := by rw [← hm, List.getElem?_map, hx']; rfl
    have hl : x'.no < x.no := by
     have h1 := (List.getElem?_eq_some_iff.1 hx).2
     have h2 := (List.getElem?_eq_some_iff.1 hx').2
     have := List.pairwise_iff_getElem.1 hlt i (i + 1) (by omega) (by omega) (by omega)
     rwa [h1, h2] at this
    rw [decide_eq_true (show ((i + 1 : Nat) : Int) > 0 by omega), cond_true, w64_id (n := ((i + 1 : Nat) : Int) - 1) (by omega) (by omega), show ((i + 1 : Nat) : Int) - 1 = (i : Int) by omega,
     idx_get hy', Option.bind_some, decide_eq_false (show ¬(stateZ x).1 ≤ (stateZ x').1 by show ¬x.no ≤ x'.no; omega), Option.bind_some, cond_false]
    exact hag _ rfl
  ·rintro X again rfl
   unfold l9_OrderQuantitiesAddUp_b5
   dsimp only
   rw [decide_eq_false (show ¬(S.length : Int) < (S.length : Int) by omega), cond_false]
 rw [loop _ (by simp only [Int.natAbs_natCast]; omega), joinB_inr]
 dsimp only
 rw [decide_eq_true (show (S.length : Int) > 0 by omega), cond_true, awake9]
 rfl

end Go.Md

namespace Go.Md
open Go.Dn

structure FOk (o : D_api_Order) (l : List D_api_Deed) (x : LineS) : Prop where
 art : isNm x.art = true
 unit : isNm x.unit = true
 pr : inR x.price 0 1000000000 4 = true
 due : oDay o ≤ x.due ∧ x.due ≤ 3652059
 wish : 0 ≤ x.wish → dKind (wishDeed l x) = 3 → oDay o ≤ dUntil (wishDeed l x)
 off : x.ono ≠ 0 → oDay o ≤ x.ount ∧ x.ount ≤ 3652059

theorem isDay_iff {n : Int} (h : isDay n = true) : 1 ≤ n ∧ n ≤ 3652059 := of_decide_eq_true h

theorem FOk.clr {o : D_api_Order} {l : List D_api_Deed} {x : LineS} (h : FOk o l x) : FOk o l x.clr := ⟨h.art, h.unit, h.pr, h.due, h.wish, fun e => absurd rfl e⟩

theorem answerZ_f {o : D_api_Order} {l : List D_api_Deed} {d : D_api_Deed} {x : LineS} (hw : WOk l x) (hl : ∀ d, d ∈ l → deedF d = 0) (hf : FOk o l x) : FOk o l (answerZ l d x).2 := by
 have nw : ∀ {y : LineS}, y.wish = -1 → (0 ≤ y.wish → dKind (wishDeed l y) = 3 → oDay o ≤ dUntil (wishDeed l y)) := fun e h => by rw [e] at h; omega
 unfold answerZ
 by_cases h1 : x.wish < 0
 ·rw [if_pos h1]; exact hf
 rw [if_neg h1]
 obtain ⟨w, hw1, hw2⟩ := hw.kind (by omega)
 have hwe := wishDeed_eq hw1
 have hfw := hf.wish (by omega)
 rw [hwe] at hfw
 rw [hwe]
 obtain ⟨_, _, _, hk, _, _, hu⟩ := deedF_zero (hl w (List.mem_of_getElem? hw1))
 obtain ⟨_, up, uu, _⟩ := used_zero hu
 by_cases h2 : dNo w ≠ dTo d
 ·rw [if_pos h2]; exact hf
 rw [if_neg h2]
 by_cases h3 : dKind d = 5
 ·rw [if_pos h3]
  by_cases k2 : dKind w = 2
  ·rw [if_pos k2]
   split
   ·exact hf
   ·exact ⟨hf.art, hf.unit, hf.pr, hf.due, nw rfl, hf.off⟩
  ·rw [if_neg k2]
   by_cases k1 : dKind w = 1
   ·rw [if_pos k1]; exact ⟨hf.art, hf.unit, hf.pr, hf.due, nw rfl, hf.off⟩
   ·rw [if_neg k1]
    by_cases k3 : dKind w = 3
    ·rw [if_pos k3]
     have hd := isDay_iff (uu (by unfold usU; exact decide_eq_true (.inr (.inl k3))))
     exact ⟨hf.art, hf.unit, hf.pr, ⟨hfw k3, hd.2⟩, nw rfl, hf.off⟩
    ·rw [if_neg k3]
     have hk' : 1 ≤ dKind w ∧ dKind w ≤ 11 := hk
     exact ⟨hf.art, hf.unit, up (by unfold usP; exact decide_eq_true (.inr (by omega))), hf.due, nw rfl, hf.off⟩
 ·rw [if_neg h3]; exact ⟨hf.art, hf.unit, hf.pr, hf.due, nw rfl, hf.off⟩

theorem moveZ_f {o : D_api_Order} {l : List D_api_Deed} {ext : Int} {d : D_api_Deed} {x : LineS} (hf : FOk o l x) : FOk o l (moveZ ext d x).2 := by
 unfold moveZ
 split
 ·split
  ·exact hf
  ·split
   ·exact hf
   ·exact ⟨hf.art, hf.unit, hf.pr, hf.due, hf.wish, hf.off⟩
 ·split
  ·split
   ·exact hf
   ·exact ⟨hf.art, hf.unit, hf.pr, hf.due, hf.wish, hf.off⟩
  ·split
   ·exact hf
   ·exact ⟨hf.art, hf.unit, hf.pr, hf.due, hf.wish, hf.off⟩

theorem actZ_f {o : D_api_Order} {l : List D_api_Deed} {i : Nat} {d : D_api_Deed} {x : LineS} (hw : WOk l x) (hl : ∀ d, d ∈ l → deedF d = 0) (hd : l[i]? = some d) (hf : FOk o l x) : FOk o l (actZ o l i d x).2 := by
 have ha := answerZ_f (d := d) hw hl hf
 have hm := moveZ_f (ext := oExt o) (d := d) hf
 obtain ⟨_, _, _, hk, _, _, hu⟩ := deedF_zero (hl d (List.mem_of_getElem? hd))
 obtain ⟨_, _, uu, _⟩ := used_zero hu
 unfold actZ
 split
 ·unfold wishZ
  split
  ·exact hf
  ·rename_i h1
   split
   ·exact hf
   ·refine ⟨hf.art, hf.unit, hf.pr, hf.due, fun _ h3 => ?_, hf.off⟩
    have e : wishDeed l { x with wish := (i : Int) } = d := wishDeed_eq (x := { x with wish := (i : Int) }) (by show l[((i : Int)).toNat]? = some d; simpa using hd)
    rw [e] at h3 ⊢
    rcases Int.lt_or_le (dUntil d) (oDay o) with h | h
    ·exact absurd ⟨h3, h⟩ h1
    ·exact h
 ·split
  ·split
   ·exact ha.clr
   ·exact ha
  ·split
   ·rename_i k7
    split
    ·rename_i h0
     have hd := isDay_iff (uu (by unfold usU; exact decide_eq_true (.inr (.inr k7))))
     refine ⟨hf.art, hf.unit, hf.pr, hf.due, hf.wish, fun _ => ⟨?_, hd.2⟩⟩
     unfold offeredZ at h0
     split at h0
     ·cases h0
     ·show oDay o ≤ dUntil d
      omega
    ·exact hf
   ·split
    ·unfold takeZ
     split
     ·exact hf
     ·split
      ·exact hf
      ·rename_i h0
       have := hf.off (fun e => h0 (.inl e))
       exact ⟨hf.art, hf.unit, hf.pr, this, hf.wish, fun e => absurd rfl e⟩
    ·split
     ·split
      ·exact hm.clr
      ·exact hm
     ·exact hm

theorem deedZ_f {o : D_api_Order} {l : List D_api_Deed} {i : Nat} {d : D_api_Deed} {A : List LineS} (hA : Good l A) (hF : ∀ x, x ∈ A → FOk o l x) (hl : ∀ d, d ∈ l → deedF d = 0) (hd : l[i]? = some d) : ∀ x, x ∈ (deedZ o l i d A).2 → FOk o l x := by
 unfold deedZ
 by_cases k1 : dKind d = 1
 ·rw [if_pos k1]
  split
  ·exact hF
  ·split
   ·exact hF
   ·split
    ·exact hF
    ·rename_i h5 h6
     intro x hx
     rcases List.mem_append.1 hx with hx | hx
     ·exact hF x hx
     ·simp only [List.mem_singleton] at hx
      subst hx
      obtain ⟨_, _, _, _, _, _, hu⟩ := deedF_zero (hl d (List.mem_of_getElem? hd))
      obtain ⟨_, up, uu, ua, _⟩ := used_zero hu
      have hdy := isDay_iff (uu (by unfold usU; exact decide_eq_true (.inl k1)))
      obtain ⟨a1, a2⟩ := ua (by unfold usA; exact decide_eq_true k1)
      refine ⟨a1, a2, up (by unfold usP; exact decide_eq_true (.inl k1)), ⟨by show oDay o ≤ dUntil d; omega, hdy.2⟩, fun _ h3 => ?_, fun e => absurd rfl e⟩
      have e : wishDeed l (newLine i d) = d := wishDeed_eq (x := newLine i d) (by show l[((i : Int)).toNat]? = some d; simpa using hd)
      rw [e, k1] at h3; cases h3
 ·rw [if_neg k1]
  split
  ·exact hF
  ·split
   ·rename_i y hy
    intro x hx
    rcases List.mem_or_eq_of_mem_set hx with hx | hx
    ·exact hF x hx
    ·subst hx
     have hm := List.mem_of_getElem? hy
     exact actZ_f (hA.sound.line y hm).2 hl hd (hF y hm)
   ·exact hF

theorem runZ_f {o : D_api_Order} {l : List D_api_Deed} {wt day : Int} (hl : ∀ d, d ∈ l → deedF d = 0) : ∀ (r : List D_api_Deed) (i : Nat) (A : List LineS) (ref : List (Int × Int)) (pts : List D_api_Point), l.drop i = r → Good l A → (∀ x, x ∈ A → FOk o l x) →
  ∀ x, x ∈ (runZ o l wt day r i A ref pts).1 → FOk o l x := by
 intro r
 induction r with
 | nil => intro i A ref pts _ hA hI; exact hI
 | cons d r ih =>
  intro i A ref pts hdr hA hI
  have hd : l[i]? = some d := by
   have := congrArg (·[0]?) hdr
   simpa [List.getElem?_drop] using this
  have hr' : l.drop (i + 1) = r := by
   have := congrArg List.tail hdr
   simpa [List.tail_drop] using this
  have hgood := deedZ_good (o := o) hA hl hd
  have hids := deedZ_f (o := o) hA hI hl hd
  simp only [runZ]
  split
  ·exact hI
  ·split
   ·exact ih (i + 1) _ _ _ hr' hgood hids
   ·exact ih (i + 1) _ _ _ hr' hgood hids

theorem lines_f {o : D_api_Order} (ho : ordF o = 0) (l : List D_api_Deed) : ∀ x, x ∈ linesOf o → FOk o l x := by
 obtain ⟨_, _, _, _, hgo, _⟩ := ordF_zero ho
 obtain ⟨hln, _, _⟩ := olinesGo_zero hgo
 intro x hx
 obtain ⟨q, hq, rfl⟩ := List.mem_map.1 hx
 obtain ⟨h1, _, h3, h4, _, h6⟩ := hln q hq
 exact ⟨h1, h3, h4, h6, fun h => by have : (0 : Int) ≤ -1 := h; omega, fun e => absurd rfl e⟩

theorem allZ_f {o : D_api_Order} {l : List D_api_Deed} (h : chkF o l = 0) (wt day : Int) : ∀ x, x ∈ (allZ o l wt day).1 → FOk o l x := by
 obtain ⟨h1, h2⟩ := chkF_zero h
 obtain ⟨h3, h4⟩ := deedsF_zero h2
 exact runZ_f h4 l 0 _ [] [] rfl (lines_good h1 l) (lines_f h1 l)

/-! ### the latest order -/

def outLine (x : LineS) : D_api_Line := (x.no, x.art, toldQ x.ord, x.unit, leastZ x.price, x.due)
def isOn (x : LineS) : Bool := decide (0 < x.ord)
def latL (A : List LineS) : List D_api_Line := ((srtL A).filter isOn).map outLine
def latO (o : D_api_Order) (A : List LineS) : D_api_Order := (o.1, o.2.1, o.2.2.1, o.2.2.2.1, o.2.2.2.2.1, latL A)
def ord0 : D_api_Order := ([], [], [], 0, 0, [])

theorem latL_len (A : List LineS) : (latL A).length ≤ A.length := by
 unfold latL
 rw [List.length_map]
 have := List.length_filter_le isOn (srtL A)
 rwa [(srtL_perm A).length_eq] at this

theorem order_Latest_eq (o : D_api_Order) (l : List D_api_Deed) : order_Latest o l = some (if chkF o l ≠ 0 then (ord0, chkF o l, ()) else if latL (allZ o l 0 3652059).1 = [] then (ord0, 9, ()) else (latO o (allZ o l 0 3652059).1, 0, ())) := by
 have hmax : maxLen = 9223372036854775807 := rfl
 unfold order_Latest
 rw [order_at_e_eq]
 by_cases h : chkF o l = 0
 rotate_left
 ·rw [if_pos (show chkF o l ≠ 0 from h), if_pos (show chkF o l ≠ 0 from h)]
  show (bif chkF o l != 0 then _ else _) = _
  rw [bne_of_ne h, cond_true]; rfl
 rw [if_neg (show ¬chkF o l ≠ 0 from fun e => e h), if_neg (show ¬chkF o l ≠ 0 from fun e => e h), if_neg (show ¬¬((1 : Int) ≤ 3652059 ∧ (3652059 : Int) ≤ 3652059) from fun e => e (by omega))]
 refine Eq.trans orAlt_none ?_
 rw [order_at_eq h (by omega), Option.bind_some]
 dsimp only
 rw [show ((0 : Int) != 0) = false from rfl, cond_false]
 obtain ⟨hg, hI⟩ := allZ_ids h 0 3652059
 rw [order_follower_sorted_eq hI o l, Option.bind_some]
 generalize (allZ o l 0 3652059).1 = A at hg hI
 obtain ⟨onum, obuy, osel, oday, oext, olns⟩ := o
 have hSl : (srtL A).length ≤ 500 := by rw [(srtL_perm A).length_eq]; exact hI.len
 have hHl : (hndL A).length = (srtL A).length := by unfold hndL; rw [List.length_map]
 dsimp only
 rw [hHl]
 have loop : ∀ n, (srtL A).length < n → iter (X := order_Latest_x7) (β := order_Latest_r7) n (((srtL A).length : Int), 0, [], [], [], 0, 0, [], onum, obuy, osel, oday, oext, [], hndL A, A.map LineS.tup, ()) order_Latest_b7 = some (Sum.inr ([], [], [], 0, 0, [], onum, obuy, osel, oday, oext, latL A, A.map LineS.tup, ())) := by
  intro n hn
  refine iter_post (Inv := fun i X => X = ((((srtL A).length : Int), (i : Int), [], [], [], 0, 0, [], onum, obuy, osel, oday, oext, (((srtL A).take i).filter isOn).map outLine, hndL A, A.map LineS.tup, ()) : order_Latest_x7)) (srtL A).length (fun z => z = some (Sum.inr ([], [], [], 0, 0, [], onum, obuy, osel, oday, oext, latL A, A.map LineS.tup, ()))) ?_ ?_ n 0 _ rfl (Nat.zero_le _) (by omega)
  ·rintro i X again hi rfl hag
   unfold order_Latest_b7
   dsimp only
   obtain ⟨x, hx⟩ : ∃ y, (srtL A)[i]? = some y := ⟨(srtL A)[i], List.getElem?_eq_getElem hi⟩
   obtain ⟨k, hk, hkx, hst, _⟩ := hnd_state hg hI hx
   have hlen : ((((srtL A).take i).filter isOn).map outLine).length ≤ i := by
    rw [List.length_map]
    have := List.length_filter_le isOn ((srtL A).take i)
    rw [List.length_take] at this
    omega
   have e : (srtL A).take (i + 1) = (srtL A).take i ++ [x] := by rw [List.take_add_one, hx]; rfl
   rw [decide_eq_true (show (i : Int) < ((srtL A).length : Int) by omega), cond_true, hHl, chk_true' (by simp; omega), Int.toNat_natCast, hk, Option.bind_some, Option.bind_some, tup_get hkx, Option.bind_some]
   dsimp only
   by_cases h0 : 0 < x.ord
   ·rw [decide_eq_true (show x.ord > 0 from h0), cond_true, hst, Option.bind_some, chk_true' (by
     rw [Bool.and_eq_true]; exact ⟨decide_eq_true (by omega), decide_eq_true (by omega)⟩), w64_id (n := (i : Int) + 1) (by omega) (by omega)]
    have e2 : (((srtL A).take i).filter isOn).map outLine ++ [outLine x] = (((srtL A).take (i + 1)).filter isOn).map outLine := by
     rw [e, List.filter_append, List.map_append, List.filter_cons, if_pos (show isOn x = true from decide_eq_true h0)]; rfl
    have := hag ((((srtL A).length : Int), ((i + 1 : Nat) : Int), [], [], [], 0, 0, [], onum, obuy, osel, oday, oext, (((srtL A).take (i + 1)).filter isOn).map outLine, hndL A, A.map LineS.tup, ()) : order_Latest_x7) rfl
    rw [← e2] at this
    exact this
   ·rw [decide_eq_false (show ¬x.ord > 0 from h0), cond_false, w64_id (n := (i : Int) + 1) (by omega) (by omega)]
    have e2 : (((srtL A).take i).filter isOn).map outLine = (((srtL A).take (i + 1)).filter isOn).map outLine := by
     rw [e, List.filter_append, List.filter_cons, if_neg (show ¬isOn x = true from fun h => h0 (of_decide_eq_true h)), List.filter_nil, List.append_nil]
    rw [e2]
    exact hag _ rfl
  ·rintro X again rfl
   unfold order_Latest_b7
   dsimp only
   rw [decide_eq_false (show ¬((srtL A).length : Int) < ((srtL A).length : Int) by omega), cond_false, List.take_of_length_le (Nat.le_refl _)]
   rfl
 rw [loop _ (by simp only [Int.natAbs_natCast]; omega), joinB_inr]
 dsimp only
 by_cases h0 : latL A = []
 ·rw [if_pos h0, h0]; rfl
 ·have : 0 < (latL A).length := List.length_pos_iff.2 h0
  rw [if_neg h0, show (((latL A).length : Int) == 0) = false by simp; omega, cond_false]
  rfl

theorem leastZ_inR {d : D_api_Decimal} (h : inR d 0 1000000000 4 = true) : inR (leastZ d) 0 1000000000 4 = true := by
 unfold inR at h ⊢
 obtain ⟨⟨h1, h2, h3⟩, h4, h5, h6⟩ := of_decide_eq_true h
 obtain ⟨u, p⟩ := d
 dsimp only at h1 h2 h3 h4 h5 h6
 obtain ⟨f1, f2, f3⟩ := few_val p.toNat u
 have e1 : (leastZ (u, p)).1 = (few p.toNat u).1 := rfl
 have e2 : (leastZ (u, p)).2 = ((few p.toNat u).2 : Int) := rfl
 generalize hv : (few p.toNat u).1 = v at f2 f3 e1
 generalize hq : (few p.toNat u).2 = q at f1 f2 e2
 refine decide_eq_true ⟨⟨by rw [e1]; omega, by rw [e2]; omega, by rw [e2]; omega⟩, by rw [e2]; omega, ?_, ?_⟩
 ·rw [e1, e2, Int.zero_mul]
  rw [Int.zero_mul] at h5
  have hp : (0 : Int) < 10 ^ (p.toNat - q) := Int.pow_pos (by decide)
  rcases Classical.em (0 ≤ v) with h | h
  ·exact h
  ·have := Int.mul_neg_of_neg_of_pos (show v < 0 by omega) hp
   omega
 ·rw [e1, e2, Int.toNat_natCast]
  have hp : (0 : Int) < 10 ^ (p.toNat - q) := Int.pow_pos (by decide)
  have e3 : (10 : Int) ^ p.toNat = 10 ^ q * 10 ^ (p.toNat - q) := by rw [← Int.pow_add]; congr 1; omega
  rw [← f2, e3, ← Int.mul_assoc] at h6
  exact Int.le_of_mul_le_mul_right h6 hp

theorem few_few : ∀ (p : Nat) (z : Int), few (few p z).2 (few p z).1 = few p z
 | 0, z => rfl
 | p + 1, z => by
  by_cases h : z % 10 = 0
  ·have e : few (p + 1) z = few p (z / 10) := by simp [few, h]
   rw [e]; exact few_few p (z / 10)
  ·have e : few (p + 1) z = (z, p + 1) := by simp [few, h]
   rw [e]; exact e
theorem leastZ_leastZ (d : D_api_Decimal) : leastZ (leastZ d) = leastZ d := by
 unfold leastZ
 dsimp only
 rw [Int.toNat_natCast, few_few]

theorem toldQ_qOk {n : Int} (h0 : 0 < n) (h1 : n ≤ 1000000000000) : qOk (toldQ n) false = true := by
 obtain ⟨f1, f2, f3⟩ := few_val 3 n
 have hs := few_sign 3 n
 have e1 : (toldQ n).1 = (few 3 n).1 := rfl
 have e2 : (toldQ n).2 = ((few 3 n).2 : Int) := rfl
 unfold qOk inR
 rw [Bool.and_eq_true]
 refine ⟨decide_eq_true ⟨⟨by rw [e1]; omega, by rw [e2]; omega, by rw [e2]; omega⟩, by rw [e2]; omega, ?_, ?_⟩, ?_⟩
 ·rw [e1, Int.zero_mul]; omega
 ·rw [e1, e2, Int.toNat_natCast]
  have hp : (0 : Int) < 10 ^ (3 - (few 3 n).2) := Int.pow_pos (by decide)
  have e3 : (1000000000 : Int) * 10 ^ (few 3 n).2 * 10 ^ (3 - (few 3 n).2) = 1000000000000 := by
   rw [Int.mul_assoc, ← Int.pow_add, show (few 3 n).2 + (3 - (few 3 n).2) = 3 by omega]; rfl
  refine Int.le_of_mul_le_mul_right ?_ hp
  rw [f2, e3]; exact h1
 ·rw [e1, Bool.or_false, Bool.not_eq_true', beq_eq_false_iff_ne]
  intro h; have := hs.2.1 h; omega
theorem unitsZ_told (n : Int) : unitsZ (toldQ n) = n := by
 obtain ⟨f1, f2, _⟩ := few_val 3 n
 show (few 3 n).1 * 10 ^ (3 - ((few 3 n).2 : Int)).toNat = n
 rw [show (3 - ((few 3 n).2 : Int)).toNat = 3 - (few 3 n).2 by omega]
 exact f2

theorem olinesGo_of {day : Int} : ∀ (L : List LineS) (p : Option D_api_Line), (∀ x, x ∈ L → 1 ≤ x.no ∧ x.no ≤ 99999) → (∀ x, x ∈ L → isNm x.art = true ∧ isNm x.unit = true ∧ inR x.price 0 1000000000 4 = true ∧ (day ≤ x.due ∧ x.due ≤ 3652059) ∧ 0 < x.ord ∧ x.ord ≤ 1000000000000) →
  L.Pairwise (fun a b => a.no < b.no) → (∀ q, p = some q → ∀ x, x ∈ L → q.1 < x.no) → olinesGo day (L.map outLine) p = 0
 | [], _, _, _, _, _ => rfl
 | x :: r, p, h1, h2, h3, h4 => by
  obtain ⟨a1, a2, a3, a4, a5, a6⟩ := h2 x (by simp)
  have hn := h1 x (by simp)
  have hl : olineF day p (outLine x) = 0 := by
   unfold olineF
   have e1 : (outLine x).1 = x.no := rfl
   have e2 : (outLine x).2.1 = x.art := rfl
   have e3 : (outLine x).2.2.1 = toldQ x.ord := rfl
   have e4 : (outLine x).2.2.2.1 = x.unit := rfl
   have e5 : (outLine x).2.2.2.2.1 = leastZ x.price := rfl
   have e6 : (outLine x).2.2.2.2.2 = x.due := rfl
   rw [e1, e2, e3, e4, e5, e6, a1, a2, toldQ_qOk a5 a6, leastZ_inR a3, if_neg (fun e => e hn)]
   have hp : ¬((p.any fun q => decide (x.no ≤ q.1)) = true) := by
    cases p with
    | none => simp
    | some q =>
     have := h4 q rfl x (by simp)
     simp; omega
   rw [if_neg hp, if_neg (by simp), if_neg (by simp), if_neg (by simp), if_neg (by simp), if_neg (fun e => e a4)]
  simp only [List.map_cons, olinesGo]
  rw [if_neg (fun e => e hl)]
  rw [List.pairwise_cons] at h3
  refine olinesGo_of r (some (outLine x)) (fun y hy => h1 y (by simp [hy])) (fun y hy => h2 y (by simp [hy])) h3.2 (fun q hq y hy => ?_)
  cases hq
  exact h3.1 y hy

theorem latO_ok {o : D_api_Order} {l : List D_api_Deed} {A : List LineS} (ho : ordF o = 0) (hA : Good l A) (hI : Ids A) (hF : ∀ x, x ∈ A → FOk o l x) (hne : latL A ≠ []) : ordF (latO o A) = 0 := by
 obtain ⟨b1, b2, _, _, _, b3, b4, b5, b6⟩ := ordF_zero ho
 have hlen : (latL A).length ≤ 500 := Nat.le_trans (latL_len A) hI.len
 have hmem : ∀ x, x ∈ (srtL A).filter isOn → x ∈ A ∧ 0 < x.ord := fun x hx => by
  rw [List.mem_filter] at hx
  exact ⟨(srtL_perm A).mem_iff.1 hx.1, of_decide_eq_true hx.2⟩
 have hgo : olinesGo (oDay o) (latL A) none = 0 := by
  refine olinesGo_of _ none (fun x hx => hI.rg x (hmem x hx).1) (fun x hx => ?_) ((srtL_lt hI).filter isOn) (fun q hq => by cases hq)
  obtain ⟨m1, m2⟩ := hmem x hx
  have f := hF x m1
  exact ⟨f.art, f.unit, f.pr, f.due, m2, (hA.sound.line x m1).1.ord1⟩
 unfold ordF
 show (if isNm (oNum o) = false ∨ isNm (oBuy o) = false ∨ isNm (oSel o) = false then 5 else if oBuy o = oSel o then 12 else if ¬(1 ≤ oDay o ∧ oDay o ≤ 3652059) then 1 else if ¬(0 ≤ oExt o ∧ oExt o ≤ 1000) then 1 else if latL A = [] then 9 else if 500 < (latL A).length then 2 else olinesGo (oDay o) (latL A) none) = 0
 rw [b3, b4, b5, if_neg (by simp), if_neg b6, if_neg (fun e => e b1), if_neg (fun e => e b2), if_neg hne, if_neg (by omega)]
 exact hgo

theorem latL_self {o : D_api_Order} {A : List LineS} (hI : Ids A) : latL (allZ (latO o A) [] 0 3652059).1 = latL A := by
 have e1 : (allZ (latO o A) [] 0 3652059).1 = (latL A).map lineOf := rfl
 rw [e1]
 have hl : ∀ x : LineS, lineOf (outLine x) = ⟨x.no, x.art, x.unit, x.ord, 0, 0, 0, leastZ x.price, x.due, -1, 0, 0, 0⟩ := fun x => by
  unfold lineOf outLine
  dsimp only
  rw [unitsZ_told]
 have e2 : (latL A).map lineOf = ((srtL A).filter isOn).map fun x => (⟨x.no, x.art, x.unit, x.ord, 0, 0, 0, leastZ x.price, x.due, -1, 0, 0, 0⟩ : LineS) := by
  unfold latL
  rw [List.map_map]
  exact List.map_congr_left fun x _ => hl x
 rw [e2]
 have hs : ((srtL A).filter isOn).Pairwise fun a b => a.no < b.no := (srtL_lt hI).filter isOn
 have hon : ∀ x, x ∈ (srtL A).filter isOn → isOn x = true := fun x hx => (List.mem_filter.1 hx).2
 show _ = ((srtL A).filter isOn).map outLine
 generalize (srtL A).filter isOn = L at hs hon
 unfold latL
 have h3 : srtL (L.map fun x => (⟨x.no, x.art, x.unit, x.ord, 0, 0, 0, leastZ x.price, x.due, -1, 0, 0, 0⟩ : LineS)) = L.map fun x => (⟨x.no, x.art, x.unit, x.ord, 0, 0, 0, leastZ x.price, x.due, -1, 0, 0, 0⟩ : LineS) := by
  unfold srtL
  refine List.mergeSort_of_pairwise ?_
  exact List.pairwise_map.2 (hs.imp fun h => decide_eq_true (Int.le_of_lt h))
 rw [h3, List.filter_eq_self.2 (fun y hy => by
  obtain ⟨x, hx, rfl⟩ := List.mem_map.1 hy
  exact hon x hx), List.map_map]
 refine List.map_congr_left fun x _ => ?_
 show (x.no, x.art, toldQ x.ord, x.unit, leastZ (leastZ x.price), x.due) = outLine x
 rw [leastZ_leastZ]
 rfl

theorem slices_Equal_Line_self (l : List D_api_Line) (hl : l.length ≤ 2001) : slices_Equal_api_Line l l = some (true, ()) := by
 unfold slices_Equal_api_Line
 rw [show ((l.length : Int) != (l.length : Int)) = false by simp, cond_false]
 have : ∀ n, l.length < n → iter (X := slices_Equal_api_Line_x4) (β := slices_Equal_api_Line_r4) n (l, l, (l.length : Int), 0, ()) slices_Equal_api_Line_b4 = some (Sum.inr ()) := by
  intro n hn
  refine iter_post (Inv := fun i X => X = ((l, l, (l.length : Int), (i : Int), ()) : slices_Equal_api_Line_x4)) l.length (fun z => z = some (Sum.inr ())) ?_ ?_ n 0 _ rfl (Nat.zero_le _) (by omega)
  ·rintro i X again hi rfl hag
   unfold slices_Equal_api_Line_b4
   dsimp only
   obtain ⟨y, hy⟩ : ∃ y, l[i]? = some y := ⟨l[i], List.getElem?_eq_getElem hi⟩
   rw [decide_eq_true (show (i : Int) < (l.length : Int) by omega), cond_true, idx_get hy, Option.bind_some, Option.bind_some, w64_id (n := (i : Int) + 1) (by omega) (by omega)]
   simp only [beq_self_eq_true, Bool.and_self, Bool.not_true, cond_false]
   exact hag _ rfl
  ·rintro X again rfl
   unfold slices_Equal_api_Line_b4
   dsimp only
   rw [decide_eq_false (show ¬(l.length : Int) < (l.length : Int) by omega), cond_false]
 rw [this _ (by omega)]
 rfl

theorem r9_SameOrder_self (o : D_api_Order) (hl : (oLns o).length ≤ 2001) : r9_SameOrder o o = some (true, ()) := by
 unfold r9_SameOrder
 simp only [beq_self_eq_true, cond_true]
 rw [slices_Equal_Line_self _ hl]
 rfl

theorem law_OrderLatestIsAnOrder (o : D_api_Order) (l : List D_api_Deed) : l9_OrderLatestIsAnOrder o l = some (true, ()) := by
 unfold l9_OrderLatestIsAnOrder
 rw [order_Latest_eq, Option.bind_some]
 by_cases h : chkF o l = 0
 rotate_left
 ·rw [if_pos (show chkF o l ≠ 0 from h)]
  dsimp only
  rw [bne_of_ne h, cond_true]
  show Option.bind (Option.bind l9_awake _) _ = _
  rw [awake9]; rfl
 rw [if_neg (show ¬chkF o l ≠ 0 from fun e => e h)]
 obtain ⟨hg, hI⟩ := allZ_ids h 0 3652059
 have hF := allZ_f h 0 3652059
 obtain ⟨ho, _⟩ := chkF_zero h
 generalize (allZ o l 0 3652059).1 = A at hg hI hF
 by_cases h0 : latL A = []
 ·rw [if_pos h0]
  dsimp only
  rw [show ((9 : Int) != 0) = true from rfl, cond_true]
  show Option.bind (Option.bind l9_awake _) _ = _
  rw [awake9]; rfl
 rw [if_neg h0]
 dsimp only
 rw [show ((0 : Int) != 0) = false from rfl, cond_false]
 have h1 := latO_ok ho hg hI hF h0
 have h2 : chkF (latO o A) [] = 0 := by
  unfold chkF
  rw [if_neg (fun e => e h1)]; rfl
 rw [order_Latest_eq, if_neg (show ¬chkF (latO o A) [] ≠ 0 from fun e => e h2), latL_self hI, if_neg h0, Option.bind_some]
 have e : latO (latO o A) (allZ (latO o A) [] 0 3652059).1 = latO o A := by
  show (o.1, o.2.1, o.2.2.1, o.2.2.2.1, o.2.2.2.2.1, latL (allZ (latO o A) [] 0 3652059).1) = _
  rw [latL_self hI]; rfl
 rw [e, order_CheckOrder_eq, h1]
 dsimp only
 rw [Option.bind_some]
 dsimp only
 rw [show ((0 : Int) == 0) = true from rfl, cond_true, cond_true, r9_SameOrder_self _ (by
  have := latL_len A
  have := hI.len
  show (latL A).length ≤ 2001
  omega), Option.bind_some, cond_true, awake9]
 rfl

end Go.Md

namespace Go.Md
open Go.Dn

end Go.Md

namespace Go.Md
open Go.Dn

def d0 : D_api_Deed := (0, 0, 0, 0, 0, [], (0, 0), [], (0, 0), 0, 0)
end Go.Md
