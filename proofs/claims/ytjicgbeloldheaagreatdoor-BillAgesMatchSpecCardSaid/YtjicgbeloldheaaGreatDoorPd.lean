/-
  Plain facts: OpenAt and Ages. No condition.
-/
import Derived.Test.YtjicgbeloldheaaGreatDoorPc
set_option linter.all false
namespace Go.Md
open Go.Dn

def lateD (day : Int) (x : Bd) : Int := max 0 (day - (x.1.2.1 + x.1.2.2.2.1))
def owedOf (day : Int) (x : Bd) : D_api_Owed := (x.1.1, told (owes x), lateD day x)

theorem bill_late_eq {ar : List Bd} {h : Nat} {x : Bd} (day : Int) (hd0 : -9000000000000000000 ≤ day) (hd1 : day ≤ 9000000000000000000) (hx : ar[h]? = some x) (ok : BdOk x) : bill_debt_late (some h) day ar = some (lateD day x, ()) := by
  have a1 := ok.d.day0; have a2 := ok.d.day1; have a3 := ok.d.days0; have a4 := ok.d.days1
  unfold bill_debt_late bill_debt_last lateD
  simp only [Option.bind_some, hx]
  rw [w64_id (n := x.1.2.1 + x.1.2.2.2.1) (by omega) (by omega), w64_id (by omega) (by omega)]
  congr 2
  split <;> omega

/-- What OpenAt returns. -/
theorem bill_OpenAt_eq (ds : List D_api_Debt) (ps : List D_api_Payment) (day : Int) :
    ((if debtsF ds ≠ 0 then debtsF ds else paysF ps) ≠ 0 ∧ bill_OpenAt ds ps day = some ([], (if debtsF ds ≠ 0 then debtsF ds else paysF ps), ())) ∨
    (debtsF ds = 0 ∧ paysF ps = 0 ∧ ¬(1 ≤ day ∧ day ≤ 3652059) ∧ bill_OpenAt ds ps day = some ([], 1, ())) ∨
    (debtsF ds = 0 ∧ paysF ps = 0 ∧ (1 ≤ day ∧ day ≤ 3652059) ∧ ∃ order, Srt (keyD (arena0 ds)) order ∧ SamE (keyD (arena0 ds)) ((List.range ds.length).map some) order ∧
      bill_OpenAt ds ps day = some (((payAll (fun n => lastM n ds 0 none) order day ps [] (arena0 ds)).2.filter (thereD day)).map (owedOf day), 0, ())) := by
  unfold bill_OpenAt
  rw [bill_bothFault_eq, Option.bind_some]
  dsimp only
  by_cases hf : (if debtsF ds ≠ 0 then debtsF ds else paysF ps) = 0
  · right
    have h1 : debtsF ds = 0 := by
      by_cases h : debtsF ds = 0
      · exact h
      · rw [if_pos h] at hf; exact hf
    have h2 : paysF ps = 0 := by rw [if_neg (not_not_intro h1)] at hf; exact hf
    rw [hf, show ((0 : Int) != 0) = false from rfl, cond_false, kit_IsDay_eq, Option.bind_some]
    dsimp only
    by_cases hday : 1 ≤ day ∧ day ≤ 3652059
    · right
      obtain ⟨hl, hds⟩ := debtsF_zero h1
      obtain ⟨hpl, hps⟩ := paysF_zero h2
      obtain ⟨order, g1, g2, g3⟩ := bill_payments_eq ds hds hl ps hps hpl day
      refine ⟨h1, h2, hday, order, g1, g2, ?_⟩
      rw [decide_eq_true hday, Bool.not_true, cond_false, g3, Option.bind_some]
      dsimp only
      have ha := payAll_ok (find := fun n => lastM n ds 0 none) (order := order) (day := day) (rest := []) hps (arena0_ok hds) (by simp)
      generalize payAll (fun n => lastM n ds 0 none) order day ps [] (arena0 ds) = res at ha
      obtain ⟨rest, ar⟩ := res
      dsimp only at ha ⊢
      have hal : ar.length = ds.length := ha.1.len
      have loop : ∀ (hnd : List (Option Nat)), hnd = (List.range ds.length).map some → ∀ fuel, hnd.length < fuel → iter (X := bill_OpenAt_x9) (β := bill_OpenAt_r9) fuel (day, [], hnd, (hnd.length : Int), 0, ar, ()) bill_OpenAt_b9 = some (Sum.inr ((ar.filter (thereD day)).map (owedOf day), ar, ())) := by
        intro hnd hh fuel hfu
        have hlen : hnd.length = ds.length := by rw [hh]; simp
        refine iter_post (Inv := fun i x => x = (day, ((ar.take i).filter (thereD day)).map (owedOf day), hnd, (hnd.length : Int), (i : Int), ar, ())) hnd.length (fun r => r = some (Sum.inr ((ar.filter (thereD day)).map (owedOf day), ar, ()))) ?_ ?_ fuel 0 _ (by simp) (by omega) (by omega)
        · rintro i _ again hi rfl ih
          unfold bill_OpenAt_b9
          dsimp only
          have hx : ar[i]? = some (ar[i]'(by omega)) := getElem?_of _
          generalize ar[i]'(by omega) = x at hx
          have hk := ha.1.get hx
          have hb := hk.le
          have o0 := hk.owes0
          have hg : hnd[i]? = some (some i) := by rw [hh]; exact range_get hal (by omega)
          rw [bif_pos (by omega), idx_nat, hg, Option.bind_some, bill_there_eq day hx, Option.bind_some]
          dsimp only
          cases ht : thereD day x with
          | false =>
            rw [cond_false, w64_id (by omega) (by omega)]
            refine ih _ ?_
            rw [take_succ_get hx, List.filter_append]
            simp [ht]
          | true =>
            rw [cond_true]
            simp only [Option.bind_some, hx]
            change (Option.bind (bill_toldMoney (owes x)) fun r8 => Option.bind (bill_debt_late (some i) day ar) fun r9 => _) = _
            have hfl : ((ar.take i).filter (thereD day)).length ≤ i := by
              have := List.length_filter_le (thereD day) (ar.take i)
              rw [List.length_take] at this; omega
            rw [bill_toldMoney_eq _ (by omega), Option.bind_some, bill_late_eq day (by omega) (by omega) hx hk, Option.bind_some]
            dsimp only
            rw [chk_pos (chk_app (by rw [List.length_map]; omega) (by rw [List.length_map]; omega)), w64_id (by omega) (by omega)]
            refine ih _ ?_
            rw [take_succ_get hx, List.filter_append, List.map_append]
            simp [ht, owedOf]
        · rintro _ again rfl
          unfold bill_OpenAt_b9
          dsimp only
          rw [bif_neg (by omega), List.take_of_length_le (by omega)]
      rw [loop _ rfl _ (by omega), joinB_inr]
    · left
      rw [decide_eq_false hday, Bool.not_false, cond_true]
      exact ⟨h1, h2, hday, rfl⟩
  · left
    refine ⟨hf, ?_⟩
    rw [show ((if debtsF ds ≠ 0 then debtsF ds else paysF ps) != 0) = true by simpa using hf, cond_true]

theorem bill_money_all (n : Int) (h : n.natAbs ≤ 9000000000000000000) : bill_money n = some (if (few 4 n).1.natAbs ≤ 1000000000000000 then (told n, 0, ()) else ((0, 0), 1, ())) := by
  unfold bill_money
  rw [whole_Of_eq n (by omega) (by omega), Option.bind_some]
  dsimp only
  have := amount_Fewest_eq n (Nat.lt_of_lt_of_le (by omega) pow32_big) 4 (by omega)
  rw [show ((4 : Nat) : Int) = 4 from rfl] at this
  rw [this, Option.bind_some]
  split <;> rfl

/-- What is wrong with the steps of Ages. -/
def stepF (l : List Int) (i : Nat) (n : Int) : Int := if ¬(1 ≤ n ∧ n ≤ 3652059) then 1 else (match i with
  | 0 => 0
  | j + 1 => (match l[j]? with
    | some q => if n ≤ q then 8 else 0
    | none => 0))
/-- Which of the steps. -/
def bkt (steps : List Int) (late : Int) : Nat := (steps.takeWhile fun s => decide (s ≤ late)).length
theorem bkt_le (steps : List Int) (late : Int) : bkt steps late ≤ steps.length := (List.takeWhile_sublist _).length_le
def addAt (s : List Int) (k : Nat) (v : Int) : List Int := s.set k (s.getD k 0 + v)
def ageSums (steps : List Int) (day : Int) (ar : List Bd) : List Int := (ar.filter (thereD day)).foldl (fun s x => addAt s (bkt steps (lateD day x)) (owes x)) (List.replicate (steps.length + 1) 0)
theorem addAt_len (s : List Int) (k : Nat) (v : Int) : (addAt s k v).length = s.length := by simp [addAt]
theorem addAt_sum {s : List Int} {k : Nat} (hk : k < s.length) (v : Int) : (addAt s k v).sum = s.sum + v := by
  unfold addAt
  have h : s[k]? = some s[k] := getElem?_of hk
  rw [sum_set h, List.getD_eq_getElem?_getD, h]; simp; omega
theorem foldAges {steps : List Int} {day : Int} : ∀ (l : List Bd) (s : List Int), s.length = steps.length + 1 → (∀ x ∈ l, BdOk x) → (∀ n ∈ s, 0 ≤ n) →
    (l.foldl (fun s x => addAt s (bkt steps (lateD day x)) (owes x)) s).length = steps.length + 1 ∧ (l.foldl (fun s x => addAt s (bkt steps (lateD day x)) (owes x)) s).sum = s.sum + (l.map owes).sum ∧ ∀ n ∈ l.foldl (fun s x => addAt s (bkt steps (lateD day x)) (owes x)) s, 0 ≤ n
  | [], s, hs, _, hn => ⟨hs, by simp, hn⟩
  | x :: l, s, hs, hk, hn => by
    have hb := bkt_le steps (lateD day x)
    rw [List.foldl_cons]
    have h0 := (hk x (by simp)).owes0
    obtain ⟨h1, h2, h3⟩ := foldAges (steps := steps) (day := day) l (addAt s (bkt steps (lateD day x)) (owes x)) (by rw [addAt_len]; exact hs) (fun y hy => hk y (by simp [hy])) (fun n hn' => by
      unfold addAt at hn'
      rcases List.mem_or_eq_of_mem_set hn' with h | h
      · exact hn n h
      · rw [h, List.getD_eq_getElem?_getD, getElem?_of (show bkt steps (lateD day x) < s.length by omega)]
        have := hn (s[bkt steps (lateD day x)]'(by omega)) (List.getElem_mem _)
        simp only [Option.getD_some]; omega)
    refine ⟨h1, ?_, h3⟩
    rw [h2, addAt_sum (by omega), List.map_cons, List.sum_cons]; omega
theorem le_sum {l : List Int} (h : ∀ n ∈ l, 0 ≤ n) : (0 ≤ l.sum) ∧ ∀ n ∈ l, n ≤ l.sum := by
  induction l with
  | nil => simp
  | cons a l ih =>
    obtain ⟨h1, h2⟩ := ih (fun n hn => h n (by simp [hn]))
    have ha := h a (by simp)
    rw [List.sum_cons]
    refine ⟨by omega, fun n hn => ?_⟩
    rcases List.mem_cons.1 hn with rfl | hn
    · omega
    · have := h2 n hn; omega
theorem sum_owes_le {l : List Bd} (h : ∀ x ∈ l, BdOk x) : 0 ≤ (l.map owes).sum ∧ (l.map owes).sum ≤ l.length * 10000000000000 := by
  induction l with
  | nil => simp
  | cons a l ih =>
    obtain ⟨h1, h2⟩ := ih (fun x hx => h x (by simp [hx]))
    have := (h a (by simp)).le
    have := (h a (by simp)).owes0
    rw [List.map_cons, List.sum_cons, List.length_cons]
    omega

end Go.Md

namespace Go.Md
open Go.Dn

theorem iter_scan2 {X α B : Type} {f : X → (X → Option B) → Option B} (mk : Nat → X) (l : List α) (g : Nat → α → Int) (fin : Option B) (out : Int → Option B)
    (hstep : ∀ i y again, l[i]? = some y → f (mk i) again = if g i y = 0 then again (mk (i + 1)) else out (g i y)) (hend : ∀ again, f (mk l.length) again = fin) :
    ∀ (r : List α) (i n : Nat), l.drop i = r → i ≤ l.length → r.length < n → iter n (mk i) f = if scanF g i r = 0 then fin else out (scanF g i r)
  | _, _, 0, _, _, hn => absurd hn (Nat.not_lt_zero _)
  | [], i, n + 1, hd, hi, _ => by
    have : i = l.length := by
      have := congrArg List.length hd
      simp at this; omega
    subst this
    rw [iter_succ, hend]; rfl
  | y :: r, i, n + 1, hd, hi, hn => by
    have hy : l[i]? = some y := by
      have := congrArg (·[0]?) hd
      simpa [List.getElem?_drop] using this
    have hr : l.drop (i + 1) = r := by
      have := congrArg List.tail hd
      simpa [List.tail_drop] using this
    have hi' : i < l.length := (List.getElem?_eq_some_iff.1 hy).1
    rw [iter_succ, hstep i y _ hy]
    by_cases hg : g i y = 0
    · have e : scanF g i (y :: r) = scanF g (i + 1) r := by simp [scanF, hg]
      rw [if_pos hg, e]
      exact iter_scan2 mk l g fin out hstep hend r (i + 1) n hr hi' (by simp at hn; omega)
    · have e : scanF g i (y :: r) = g i y := by simp [scanF, hg]
      rw [if_neg hg, e, if_neg hg]

theorem takeWhile_len {p : Int → Bool} : ∀ {l : List Int} {k : Nat}, (∀ j y, j < k → l[j]? = some y → p y = true) → (∀ y, l[k]? = some y → p y = false) → k ≤ l.length → (l.takeWhile p).length = k
  | [], k, _, _, hk => by simp at hk; subst hk; rfl
  | a :: l, 0, _, h2, _ => by
    have := h2 a rfl
    simp [List.takeWhile, this]
  | a :: l, k + 1, h1, h2, hk => by
    have ha := h1 0 a (by omega) rfl
    rw [List.takeWhile_cons, ha]
    simp only [if_true, List.length_cons]
    rw [takeWhile_len (k := k) (fun j y hj hy => h1 (j + 1) y (by omega) (by simpa using hy)) (fun y hy => h2 y (by simpa using hy)) (by simp at hk; omega)]

/-- The bucket. -/
theorem bucket_loop {ar : List Bd} {h : Nat} {x : Bd} (day : Int) (hd0 : -9000000000000000000 ≤ day) (hd1 : day ≤ 9000000000000000000) (hx : ar[h]? = some x) (ok : BdOk x) (steps : List Int) (hsl : steps.length ≤ 20) (g1 : List (Option Nat)) (g2 g3 : Int) (sums : List Int) (fuel : Nat) (hf : steps.length < fuel) :
    iter (X := bill_Ages_x23) (β := bill_Ages_r23) fuel (day, steps, some h, 0, g1, g2, g3, sums, ar, ()) bill_Ages_b23 = some (Sum.inr (day, steps, some h, (bkt steps (lateD day x) : Int), g1, g2, g3, sums, ar, ())) := by
  have key : ∀ (n k : Nat), k ≤ steps.length → steps.length - k < n → (∀ j y, j < k → steps[j]? = some y → decide (y ≤ lateD day x) = true) →
      iter (X := bill_Ages_x23) (β := bill_Ages_r23) n (day, steps, some h, (k : Int), g1, g2, g3, sums, ar, ()) bill_Ages_b23 = some (Sum.inr (day, steps, some h, (bkt steps (lateD day x) : Int), g1, g2, g3, sums, ar, ())) := by
    intro n
    induction n with
    | zero => intro k _ h; omega
    | succ n ih =>
      intro k hk hn hall
      rw [iter_succ]
      generalize hag : (fun y => iter n y bill_Ages_b23) = again
      unfold bill_Ages_b23
      dsimp only
      by_cases hlt : k < steps.length
      · have hy : steps[k]? = some steps[k] := getElem?_of hlt
        rw [bif_pos (by omega), bill_late_eq day hd0 hd1 hx ok, Option.bind_some, idx_nat, hy, Option.bind_some]
        dsimp only
        by_cases hge : lateD day x ≥ steps[k]
        · rw [bif_pos hge, w64_id (by omega) (by omega), ← hag]
          exact ih (k + 1) (by omega) (by omega) (fun j y hj hjy => by
            rcases Nat.lt_or_eq_of_le (Nat.lt_succ_iff.1 hj) with h | h
            · exact hall j y h hjy
            · subst h; rw [hy] at hjy; cases hjy; simpa using hge)
        · rw [bif_neg hge]
          have : bkt steps (lateD day x) = k := takeWhile_len hall (fun y hy' => by rw [hy] at hy'; cases hy'; simpa using hge) hk
          rw [this]
      · rw [bif_neg (by omega)]
        have : bkt steps (lateD day x) = k := takeWhile_len hall (fun y hy' => by rw [List.getElem?_eq_none (by omega)] at hy'; cases hy') hk
        rw [this]
  exact key fuel 0 (by omega) (by omega) (fun j y hj => by omega)

/-- The sums. -/
theorem ages_loop {ds : List D_api_Debt} {ar : List Bd} (ha : ArOk ds ar) (hl : ds.length ≤ 200) (day : Int) (hd0 : -9000000000000000000 ≤ day) (hd1 : day ≤ 9000000000000000000) (steps : List Int) (hsl : steps.length ≤ 20) (hnd : List (Option Nat)) (hh : hnd = (List.range ds.length).map some) (fuel : Nat) (hfu : hnd.length < fuel) :
    iter (X := bill_Ages_x19) (β := bill_Ages_r19) fuel (day, steps, hnd, (hnd.length : Int), 0, List.replicate (steps.length + 1) 0, ar, ()) bill_Ages_b19 = some (Sum.inr (ageSums steps day ar, ar, ())) := by
  have hal : ar.length = ds.length := ha.len
  have hlen : hnd.length = ds.length := by rw [hh]; simp
  have hz : ∀ n ∈ List.replicate (steps.length + 1) (0 : Int), 0 ≤ n := fun n hn => by rw [List.mem_replicate] at hn; omega
  refine iter_post (Inv := fun i x => x = (day, steps, hnd, (hnd.length : Int), (i : Int), ageSums steps day (ar.take i), ar, ())) hnd.length (fun r => r = some (Sum.inr (ageSums steps day ar, ar, ()))) ?_ ?_ fuel 0 _ (by simp [ageSums]) (by omega) (by omega)
  · rintro i _ again hi rfl ih
    unfold bill_Ages_b19
    dsimp only
    have hx : ar[i]? = some (ar[i]'(by omega)) := getElem?_of _
    generalize ar[i]'(by omega) = x at hx
    have hk := ha.get hx
    have hb := hk.le
    have o0 := hk.owes0
    have hg : hnd[i]? = some (some i) := by rw [hh]; exact range_get hal (by omega)
    rw [bif_pos (by omega), idx_nat, hg, Option.bind_some, bill_there_eq day hx, Option.bind_some]
    dsimp only
    have okt : ∀ y ∈ (ar.take i).filter (thereD day), BdOk y := fun y hy => ha.ok y (List.mem_of_mem_take (List.mem_filter.1 hy).1)
    obtain ⟨f1, f2, f3⟩ := foldAges (steps := steps) (day := day) ((ar.take i).filter (thereD day)) (List.replicate (steps.length + 1) 0) (by simp) okt hz
    change (ageSums steps day (ar.take i)).length = _ at f1
    change (ageSums steps day (ar.take i)).sum = _ at f2
    change ∀ n ∈ ageSums steps day (ar.take i), _ at f3
    have hfl : ((ar.take i).filter (thereD day)).length ≤ i := by
      have := List.length_filter_le (thereD day) (ar.take i)
      rw [List.length_take] at this; omega
    have hso := sum_owes_le okt
    have hrep : (List.replicate (steps.length + 1) (0 : Int)).sum = 0 := by
      generalize steps.length + 1 = m
      induction m with
      | zero => rfl
      | succ m ih => rw [List.replicate_succ, List.sum_cons, ih]; rfl
    rw [hrep] at f2
    have hle := le_sum f3
    cases ht : thereD day x with
    | false =>
      rw [Bool.not_false, cond_true, w64_id (by omega) (by omega)]
      refine ih _ ?_
      unfold ageSums
      rw [take_succ_get hx, List.filter_append]
      simp [ht]
    | true =>
      rw [Bool.not_true, cond_false, bucket_loop day hd0 hd1 hx hk steps hsl hnd (hnd.length : Int) (i : Int) (ageSums steps day (ar.take i)) _ (by omega), joinB_inr]
      dsimp only
      have hbk := bkt_le steps (lateD day x)
      have hs : (ageSums steps day (ar.take i))[bkt steps (lateD day x)]? = some ((ageSums steps day (ar.take i))[bkt steps (lateD day x)]'(by omega)) := getElem?_of _
      have hsn := f3 ((ageSums steps day (ar.take i))[bkt steps (lateD day x)]'(by omega)) (List.getElem_mem _)
      have hsm := hle.2 ((ageSums steps day (ar.take i))[bkt steps (lateD day x)]'(by omega)) (List.getElem_mem _)
      generalize (ageSums steps day (ar.take i))[bkt steps (lateD day x)]'(by omega) = y5 at hs hsn hsm
      simp only [Int.toNat_natCast, hs, Option.bind_some, hx]
      rw [chk_pos (by simp only [Bool.and_eq_true, decide_eq_true_eq]; omega), chk_pos (by simp only [Bool.and_eq_true, decide_eq_true_eq]; omega), w64_id (n := (i : Int) + 1) (by omega) (by omega)]
      unfold owes at hb o0
      rw [w64_id (n := y5 + x.2.1) (by omega) (by omega)]
      refine ih _ ?_
      have e : ageSums steps day (ar.take (i + 1)) = (ageSums steps day (ar.take i)).set (bkt steps (lateD day x)) (y5 + x.2.1) := by
        conv => lhs; unfold ageSums
        rw [take_succ_get hx, List.filter_append, List.foldl_append]
        simp only [List.filter_cons, ht, if_true, List.filter_nil, List.foldl_cons, List.foldl_nil]
        change addAt (ageSums steps day (ar.take i)) _ _ = _
        unfold addAt
        rw [List.getD_eq_getElem?_getD, hs]; rfl
      rw [e]; rfl
  · rintro _ again rfl
    unfold bill_Ages_b19
    dsimp only
    rw [bif_neg (by omega), List.take_of_length_le (by omega)]

/-- A sum that cannot be told. -/
def moneyF (_ : Nat) (n : Int) : Int := if (few 4 n).1.natAbs ≤ 1000000000000000 then 0 else 1

/-- What Ages returns. -/
theorem bill_Ages_eq (ds : List D_api_Debt) (ps : List D_api_Payment) (hd : debtsF ds = 0) (hp : paysF ps = 0) (day : Int) (hday : 1 ≤ day ∧ day ≤ 3652059) (steps : List Int) :
    (20 < steps.length ∧ bill_Ages ds ps day steps = some ([], 2, ())) ∨
    (steps.length ≤ 20 ∧ scanF (stepF steps) 0 steps ≠ 0 ∧ bill_Ages ds ps day steps = some ([], scanF (stepF steps) 0 steps, ())) ∨
    (steps.length ≤ 20 ∧ scanF (stepF steps) 0 steps = 0 ∧ ∃ order, Srt (keyD (arena0 ds)) order ∧ SamE (keyD (arena0 ds)) ((List.range ds.length).map some) order ∧
      bill_Ages ds ps day steps = some (if scanF moneyF 0 (ageSums steps day (payAll (fun n => lastM n ds 0 none) order day ps [] (arena0 ds)).2) = 0 then ((ageSums steps day (payAll (fun n => lastM n ds 0 none) order day ps [] (arena0 ds)).2).map told, 0, ()) else ([], 1, ()))) := by
  unfold bill_Ages
  rw [bill_bothFault_eq, Option.bind_some, if_neg (not_not_intro hd), hp]
  dsimp only
  rw [show ((0 : Int) != 0) = false from rfl, cond_false, kit_IsDay_eq, Option.bind_some]
  dsimp only
  rw [decide_eq_true hday, Bool.not_true, cond_false]
  by_cases hsl : 20 < steps.length
  · left
    rw [bif_pos (by omega)]; exact ⟨hsl, rfl⟩
  · right
    rw [bif_neg (by omega)]
    have chkl := iter_scan2 (f := bill_Ages_b9) (fun i => (ds, ps, day, steps, steps, (steps.length : Int), (i : Int), [], ())) steps (stepF steps) (some (Sum.inr (ds, ps, day, steps, [], ()))) (fun e => some (Sum.inl ([], e, ()))) (by
        intro i y again hy
        have hi := (List.getElem?_eq_some_iff.1 hy).1
        unfold bill_Ages_b9
        dsimp only
        rw [bif_pos (by omega), idx_nat, hy, Option.bind_some, kit_IsDay_eq, Option.bind_some, w64_id (n := (i : Int) + 1) (by omega) (by omega)]
        dsimp only
        unfold stepF
        by_cases hdy : 1 ≤ y ∧ y ≤ 3652059
        · rw [decide_eq_true hdy, Bool.not_true, cond_false, if_neg (not_not_intro hdy)]
          cases i with
          | zero => rw [bif_neg (by simp)]; rfl
          | succ j =>
            have hj : steps[j]? = some steps[j] := getElem?_of (by omega)
            have e1 : w64 (((j + 1 : Nat) : Int) - 1) = (j : Int) := by rw [w64_id (by omega) (by omega)]; omega
            rw [bif_pos (by omega), e1, idx_nat]
            simp only [hj, Option.bind_some]
            by_cases hle : y ≤ steps[j]
            · rw [bif_pos hle, if_pos hle]; rfl
            · rw [bif_neg hle, if_neg hle]; rfl
        · rw [decide_eq_false hdy, Bool.not_false, cond_true, if_pos hdy]; rfl)
      (by
        intro again
        unfold bill_Ages_b9
        dsimp only
        rw [bif_neg (by omega)])
      steps 0 (List.length ds + (List.length ps + (Int.natAbs day + (List.length steps + (List.length steps + (Int.natAbs ((List.length steps : Int)) + (Int.natAbs (0 : Int) + (List.length ([] : List D_bill_debt) + 2)))))))) rfl (by omega) (by omega)
    rw [show ((0 : Nat) : Int) = 0 from rfl] at chkl
    rw [chkl]
    by_cases h0 : scanF (stepF steps) 0 steps = 0
    · right
      rw [if_pos h0, joinB_inr]
      dsimp only
      obtain ⟨hl, hds⟩ := debtsF_zero hd
      obtain ⟨hpl, hps⟩ := paysF_zero hp
      obtain ⟨order, g1, g2, g3⟩ := bill_payments_eq ds hds hl ps hps hpl day
      refine ⟨by omega, h0, order, g1, g2, ?_⟩
      rw [g3, Option.bind_some]
      dsimp only
      have ha := payAll_ok (find := fun n => lastM n ds 0 none) (order := order) (day := day) (rest := []) hps (arena0_ok hds) (by simp)
      generalize payAll (fun n => lastM n ds 0 none) order day ps [] (arena0 ds) = res at ha
      obtain ⟨rest, ar⟩ := res
      dsimp only at ha ⊢
      have e1 : w64 ((steps.length : Int) + 1) = ((steps.length + 1 : Nat) : Int) := by rw [w64_id (by omega) (by omega)]; omega
      rw [e1, chk_pos (by simp only [Bool.and_eq_true, decide_eq_true_eq]; omega), Int.toNat_natCast]
      rw [ages_loop ha.1 hl day (by omega) (by omega) steps (by omega) _ rfl _ (by omega), joinB_inr]
      dsimp only
      have okt : ∀ y ∈ ar.filter (thereD day), BdOk y := fun y hy => ha.1.ok y (List.mem_filter.1 hy).1
      have hz : ∀ n ∈ List.replicate (steps.length + 1) (0 : Int), 0 ≤ n := fun n hn => by rw [List.mem_replicate] at hn; omega
      have hrep : (List.replicate (steps.length + 1) (0 : Int)).sum = 0 := by
        generalize steps.length + 1 = m
        induction m with
        | zero => rfl
        | succ m ih => rw [List.replicate_succ, List.sum_cons, ih]; rfl
      obtain ⟨f1, f2, f3⟩ := foldAges (steps := steps) (day := day) (ar.filter (thereD day)) (List.replicate (steps.length + 1) 0) (by simp) okt hz
      change (ageSums steps day ar).length = _ at f1
      change (ageSums steps day ar).sum = _ at f2
      change ∀ n ∈ ageSums steps day ar, _ at f3
      have hfl := List.length_filter_le (thereD day) ar
      have hal := ha.1.len
      have hso := sum_owes_le okt
      rw [hrep] at f2
      have hle := le_sum f3
      generalize ageSums steps day ar = sums at *
      have conv : ∀ (r : List Int) (i n : Nat), sums.drop i = r → i ≤ sums.length → r.length < n → iter (X := bill_Ages_x29) (β := bill_Ages_r29) n ((sums.take i).map told, (sums.length : Int), (i : Int), sums, ar, ()) bill_Ages_b29 = if scanF moneyF i r = 0 then some (Sum.inr (sums.map told, ar, ())) else some (Sum.inl ([], 1, ())) := by
        intro r
        induction r with
        | nil =>
          intro i n hdr hi hn
          obtain ⟨n, rfl⟩ : ∃ m, n = m + 1 := ⟨n - 1, by simp at hn; omega⟩
          have : i = sums.length := by
            have := congrArg List.length hdr
            simp at this; omega
          subst this
          rw [iter_succ]
          unfold bill_Ages_b29
          dsimp only
          rw [bif_neg (by omega), List.take_of_length_le (Nat.le_refl _)]; rfl
        | cons y r ih =>
          intro i n hdr hi hn
          obtain ⟨n, rfl⟩ : ∃ m, n = m + 1 := ⟨n - 1, by simp at hn; omega⟩
          have hy : sums[i]? = some y := by
            have := congrArg (·[0]?) hdr
            simpa [List.getElem?_drop] using this
          have hr : sums.drop (i + 1) = r := by
            have := congrArg List.tail hdr
            simpa [List.tail_drop] using this
          have hi' : i < sums.length := (List.getElem?_eq_some_iff.1 hy).1
          have hyb := hle.2 y (List.mem_of_getElem? hy)
          have hy0 := f3 y (List.mem_of_getElem? hy)
          rw [iter_succ]
          generalize hag : (fun y => iter n y bill_Ages_b29) = again
          unfold bill_Ages_b29
          dsimp only
          rw [bif_pos (by omega), chk_pos (by simp only [Bool.and_eq_true, decide_eq_true_eq]; omega), Int.toNat_natCast, hy, Option.bind_some, bill_money_all y (by omega), Option.bind_some]
          by_cases hm : (few 4 y).1.natAbs ≤ 1000000000000000
          · have e : scanF moneyF i (y :: r) = scanF moneyF (i + 1) r := by
              have : moneyF i y = 0 := by unfold moneyF; rw [if_pos hm]
              simp [scanF, this]
            rw [if_pos hm, e]
            dsimp only
            rw [show ((0 : Int) != 0) = false from rfl, cond_false, chk_pos (chk_app (by simp; omega) (by simp; omega)), w64_id (by omega) (by omega), ← hag]
            have := ih (i + 1) n hr hi' (by simp at hn; omega)
            rw [take_succ_get hy, List.map_append] at this
            exact this
          · have e : scanF moneyF i (y :: r) = 1 := by
              have : moneyF i y = 1 := by unfold moneyF; rw [if_neg hm]
              simp [scanF, this]
            rw [if_neg hm, e]; rfl
      have := conv sums 0 (List.length ([] : List D_api_Decimal) + (Int.natAbs ((List.length sums : Int)) + (Int.natAbs (0 : Int) + (List.length sums + (List.length ar + 2))))) rfl (by omega) (by omega)
      rw [List.take_zero, List.map_nil, show ((0 : Nat) : Int) = 0 from rfl] at this
      rw [this]
      by_cases hs0 : scanF moneyF 0 sums = 0
      · rw [if_pos hs0, if_pos hs0, joinB_inr]
      · rw [if_neg hs0, if_neg hs0, joinB_inl]
    · left
      rw [if_neg h0, joinB_inl]
      exact ⟨by omega, h0, rfl⟩

end Go.Md

namespace Go.Md
open Go.Dn

/-- Not done by a day. -/
def LaterQ (D : Int) (S : Nat → Prop) (ar : List Bd) : Prop := ∀ i x, S i → ar[i]? = some x → done x = 0 ∨ D < done x
theorem payD_q {D left day : Int} {x : Bd} (hD : D < day) (h : done x = 0 ∨ D < done x) : done (payD left day x).2 = 0 ∨ D < done (payD left day x).2 := by
  unfold payD
  simp only [done] at *
  split
  · right; exact hD
  · exact h
theorem namedD_q {D left day : Int} {x : Bd} (hD : D < day) (h : done x = 0 ∨ D < done x) : done (namedD left day x).2 = 0 ∨ D < done (namedD left day x).2 := by
  unfold namedD
  split
  · exact payD_q hD h
  · right; exact hD
theorem LaterQ.set {D : Int} {S : Nat → Prop} {ar : List Bd} {h : Nat} {x y : Bd} (hq : LaterQ D S ar) (hx : ar[h]? = some x) (hy : (done x = 0 ∨ D < done x) → (done y = 0 ∨ D < done y)) : LaterQ D S (ar.set h y) := by
  intro i z hi hz
  by_cases e : h = i
  · subst e
    rw [set_get hx] at hz
    cases hz
    exact hy (hq h x hi hx)
  · rw [List.getElem?_set_ne e] at hz
    exact hq i z hi hz
theorem stepN_q {D day : Int} {S : Nat → Prop} {find : List UInt8 → Option Nat} {s : Int × List Bd} {n : List UInt8} (hD : D < day) (h : LaterQ D S s.2) : LaterQ D S (stepN day find s n).2 := by
  unfold stepN
  split
  · split
    · rename_i x hx
      split
      · exact h.set hx (namedD_q hD)
      · exact h
    · exact h
  · exact h
theorem stepO_q {D day : Int} {S : Nat → Prop} {s : Int × List Bd} {o : Option Nat} (hD : D < day) (h : LaterQ D S s.2) : LaterQ D S (stepO day s o).2 := by
  unfold stepO
  split
  · split
    · rename_i x hx
      split
      · exact h.set hx (payD_q hD)
      · exact h
    · exact h
  · exact h
theorem foldN_q {D day : Int} {S : Nat → Prop} {find : List UInt8 → Option Nat} (hD : D < day) : ∀ {l : List (List UInt8)} {s : Int × List Bd}, LaterQ D S s.2 → LaterQ D S (l.foldl (stepN day find) s).2
  | [], _, h => h
  | a :: l, s, h => by
    rw [List.foldl_cons]
    exact foldN_q (l := l) hD (stepN_q hD h)
theorem foldO_q {D day : Int} {S : Nat → Prop} (hD : D < day) : ∀ {l : List (Option Nat)} {s : Int × List Bd}, LaterQ D S s.2 → LaterQ D S (l.foldl (stepO day) s).2
  | [], _, h => h
  | a :: l, s, h => by
    rw [List.foldl_cons]
    exact foldO_q (l := l) hD (stepO_q hD h)
theorem payAll_q {D M : Int} {S : Nat → Prop} {find : List UInt8 → Option Nat} {order : List (Option Nat)} : ∀ {ps : List D_api_Payment} {rest : List Int} {ar : List Bd}, (∀ p ∈ ps, D < p.1) → LaterQ D S ar → LaterQ D S (payAll find order M ps rest ar).2
  | [], _, _, _, h => h
  | p :: ps, rest, ar, hp, h => by
    unfold payAll
    split
    · exact h
    · exact payAll_q (fun q hq => hp q (by simp [hq])) (foldO_q (hp p (by simp)) (foldN_q (hp p (by simp)) h))
theorem payAll_split {day M : Int} {find : List UInt8 → Option Nat} {order : List (Option Nat)} : ∀ {ps : List D_api_Payment} {rest : List Int} {ar : List Bd}, ps.Pairwise (fun p q => p.1 ≤ q.1) → (∀ p ∈ ps, p.1 ≤ M) →
    ∃ ps2, (∀ p ∈ ps2, day < p.1) ∧ payAll find order M ps rest ar = payAll find order M ps2 (payAll find order day ps rest ar).1 (payAll find order day ps rest ar).2
  | [], _, _, _, _ => ⟨[], by simp, rfl⟩
  | p :: ps, rest, ar, hs, hM => by
    by_cases hd : day < p.1
    · have e : payAll find order day (p :: ps) rest ar = (rest, ar) := by unfold payAll; rw [if_pos hd]
      refine ⟨p :: ps, fun q hq => ?_, by rw [e]⟩
      rcases List.mem_cons.1 hq with rfl | hq
      · exact hd
      · have := (List.pairwise_cons.1 hs).1 q hq; omega
    · have e1 : payAll find order day (p :: ps) rest ar = payAll find order day ps (rest ++ [(onePay find order p ar).1]) (onePay find order p ar).2 := by
        conv => lhs; unfold payAll
        rw [if_neg hd]
      have e2 : payAll find order M (p :: ps) rest ar = payAll find order M ps (rest ++ [(onePay find order p ar).1]) (onePay find order p ar).2 := by
        conv => lhs; unfold payAll
        rw [if_neg (by have := hM p (by simp); omega)]
      rw [e1, e2]
      exact payAll_split (List.pairwise_cons.1 hs).2 (fun q hq => hM q (by simp [hq]))

theorem prevLt_false {α : Type} {day : α → Int} {l : List α} (h : ∀ i y, l[i]? = some y → prevLt day l i y = false) : l.Pairwise fun p q => day p ≤ day q := by
  rw [List.pairwise_iff_getElem]
  intro i j hi hj hij
  induction j with
  | zero => omega
  | succ j ih =>
    have h1 := h (j + 1) l[j + 1] (getElem?_of hj)
    simp only [prevLt, getElem?_of (show j < l.length by omega), decide_eq_false_iff_not] at h1
    rcases Nat.lt_or_eq_of_le (Nat.lt_succ_iff.1 hij) with h2 | h2
    · have := ih (by omega) h2; omega
    · subst h2; omega
theorem payF_prev {l : List D_api_Payment} {i : Nat} {p : D_api_Payment} (h : payF l i p = 0) : prevLt (·.1) l i p = false := by
  unfold payF at h
  split at h
  · cases h
  · split at h
    · cases h
    · rename_i h2; exact (Bool.not_eq_true _).mp h2
theorem pays_sorted {l : List D_api_Payment} (h : paysF l = 0) : l.Pairwise fun p q => p.1 ≤ q.1 := by
  unfold paysF at h
  split at h
  · cases h
  · refine prevLt_false (day := fun p : D_api_Payment => p.1) fun i y hy => ?_
    have := scanF_zero h i y hy
    rw [Nat.zero_add] at this
    exact payF_prev this
theorem debts_distinct {l : List D_api_Debt} (h : debtsF l = 0) {i j : Nat} {x y : D_api_Debt} (hx : l[i]? = some x) (hy : l[j]? = some y) (hn : x.1 = y.1) : i = j := by
  unfold debtsF at h
  split at h
  · cases h
  · have key : ∀ {i j : Nat} {x y : D_api_Debt}, l[i]? = some x → l[j]? = some y → x.1 = y.1 → ¬ i < j := by
      intro i j x y hx hy hn hlt
      have h1 := scanF_zero h j y hy
      rw [Nat.zero_add] at h1
      have h2 := (debtF_zero h1).2
      rw [List.any_eq_false] at h2
      have hm : x ∈ l.take j := List.mem_of_getElem? (by rw [List.getElem?_take_of_lt hlt]; exact hx)
      have := h2 x hm
      rw [hn] at this
      simp at this
    have a1 := key hx hy hn
    have a2 := key hy hx hn.symm
    omega

theorem order_unique {α : Type} {k : α → Int} {l a b : List α} (ha : Srt k a) (hb : Srt k b) (ka : SamE k l a) (kb : SamE k l b) : a = b := by
  have key : ∀ (a b : List α), Srt k a → Srt k b → (∀ v, a.filter (fun x => k x == v) = b.filter (fun x => k x == v)) → a.length = b.length → a = b := by
    intro a
    induction a with
    | nil => intro b _ _ _ hl; exact (List.eq_nil_of_length_eq_zero hl.symm).symm
    | cons x a ih =>
      intro b sa sb hf hl
      cases b with
      | nil => simp at hl
      | cons y b =>
        have sa' := List.pairwise_cons.1 sa
        have sb' := List.pairwise_cons.1 sb
        have hxb : x ∈ (y :: b) := by
          have : x ∈ (x :: a).filter (fun z => k z == k x) := by simp
          rw [hf (k x)] at this
          exact (List.mem_filter.1 this).1
        have hya : y ∈ (x :: a) := by
          have : y ∈ (y :: b).filter (fun z => k z == k y) := by simp
          rw [← hf (k y)] at this
          exact (List.mem_filter.1 this).1
        have hk : k x = k y := by
          have h1 : k y ≤ k x := by
            rcases List.mem_cons.1 hxb with h | h
            · rw [h]; exact Int.le_refl _
            · exact sb'.1 x h
          have h2 : k x ≤ k y := by
            rcases List.mem_cons.1 hya with h | h
            · rw [h]; exact Int.le_refl _
            · exact sa'.1 y h
          omega
        have hxy : x = y := by
          have := hf (k x)
          rw [List.filter_cons_of_pos (by simp), List.filter_cons_of_pos (by simp [hk])] at this
          exact (List.cons.inj this).1
        subst hxy
        congr 1
        refine ih b sa'.2 sb'.2 (fun v => ?_) (by simpa using hl)
        have := hf v
        by_cases hv : k x = v
        · rw [List.filter_cons_of_pos (by simp [hv]), List.filter_cons_of_pos (by simp [hv])] at this
          exact (List.cons.inj this).2
        · rw [List.filter_cons_of_neg (by simp [hv]), List.filter_cons_of_neg (by simp [hv])] at this
          exact this
  exact key a b ha hb (fun v => by rw [ka.keys, kb.keys]) (by rw [ka.length, kb.length])

theorem scan_money {l : List Int} {i : Nat} (h : scanF moneyF i l = 0) : ∀ n ∈ l, (few 4 n).1.natAbs ≤ 1000000000000000 := by
  intro n hn
  obtain ⟨j, hj⟩ := List.mem_iff_getElem?.1 hn
  have := scanF_zero h j n hj
  unfold moneyF at this
  split at this
  · assumption
  · cases this

/-- The law. -/
theorem agesAddUp (ds : List D_api_Debt) (ps : List D_api_Payment) (day : Int) (steps : List Int) : l11_BillAgesAddUp ds ps day steps = some (true, ()) := by
  unfold l11_BillAgesAddUp
  rcases bill_OpenAt_eq ds ps day with ⟨h1, h2⟩ | ⟨_, _, _, h2⟩ | ⟨hd, hp, hday, order, so, sa, h3⟩
  · rw [h2, Option.bind_some]
    dsimp only
    rw [show ((if debtsF ds ≠ 0 then debtsF ds else paysF ps) != 0) = true by simpa using h1, l11_awake_eq]
    rfl
  · rw [h2, Option.bind_some, l11_awake_eq]
    rfl
  · obtain ⟨hl, hds⟩ := debtsF_zero hd
    obtain ⟨hpl, hps⟩ := paysF_zero hp
    rw [h3, Option.bind_some]
    dsimp only
    rw [show ((0 : Int) != 0) = false from rfl, cond_false]
    rcases bill_Pay_eq ds ps with ⟨f, g1, _, g3⟩ | ⟨_, _, order2, so2, sa2, g3⟩
    · rw [if_neg (not_not_intro hd), hp] at g3; exact absurd g3 g1
    · have e := order_unique so2 so sa2 sa
      subst e
      rw [g3, Option.bind_some]
      dsimp only
      rw [show ((0 : Int) != 0) = false from rfl, cond_false, l11_awake_eq, Option.bind_some]
      dsimp only
      rw [Bool.not_true, cond_false]
      have ha := payAll_ok (find := fun n => lastM n ds 0 none) (order := order2) (day := day) (rest := []) hps (arena0_ok hds) (by simp)
      have hb := payAll_ok (find := fun n => lastM n ds 0 none) (order := order2) (day := 3652059) (rest := []) hps (arena0_ok hds) (by simp)
      have hages := bill_Ages_eq ds ps hd hp day hday steps
      obtain ⟨ps2, q1, q2⟩ := payAll_split (day := day) (M := 3652059) (find := fun n => lastM n ds 0 none) (order := order2) (rest := []) (ar := arena0 ds) (pays_sorted hp) (fun p hp => (hps p hp).day1)
      have hq := payAll_q (D := day) (M := 3652059) (S := fun i => ∃ x, (payAll (fun n => lastM n ds 0 none) order2 day ps [] (arena0 ds)).2[i]? = some x ∧ done x = 0) (find := fun n => lastM n ds 0 none) (order := order2) (ps := ps2) (rest := (payAll (fun n => lastM n ds 0 none) order2 day ps [] (arena0 ds)).1) (ar := (payAll (fun n => lastM n ds 0 none) order2 day ps [] (arena0 ds)).2) q1 (by
        rintro i x ⟨y, hy, hdy⟩ hx
        rw [hx] at hy; cases hy; exact .inl hdy)
      rw [← q2] at hq
      have hages2 : ∀ order, Srt (keyD (arena0 ds)) order → SamE (keyD (arena0 ds)) ((List.range ds.length).map some) order → order = order2 := fun o s1 s2 => order_unique s1 so2 s2 sa2
      generalize payAll (fun n => lastM n ds 0 none) order2 3652059 ps [] (arena0 ds) = res2 at hb hq
      obtain ⟨rest2, ar2⟩ := res2
      generalize hres1 : payAll (fun n => lastM n ds 0 none) order2 day ps [] (arena0 ds) = res1 at ha hq
      obtain ⟨rest1, ar1⟩ := res1
      dsimp only at ha hb hq ⊢
      have hget : ∀ {ar : List Bd}, ArOk ds ar → ∀ {i : Nat} {x : Bd}, ar[i]? = some x → ds[i]? = some x.1 := by
        intro ar ho i x hx
        have := congrArg (·[i]?) ho.ds
        simp only [List.getElem?_map, hx] at this
        exact this.symm
      have nobad : ∀ x ∈ ar1.filter (thereD day), ∀ y ∈ ar2, ¬(y.1.1 = x.1.1 ∧ 0 < done y ∧ done y ≤ day) := by
        rintro x hx y hy ⟨c1, c2, c3⟩
        obtain ⟨hx1, hx2⟩ := List.mem_filter.1 hx
        simp only [thereD, Bool.and_eq_true, decide_eq_true_eq, beq_iff_eq] at hx2
        obtain ⟨i, hi⟩ := List.mem_iff_getElem?.1 hx1
        obtain ⟨j, hj⟩ := List.mem_iff_getElem?.1 hy
        have hij := debts_distinct hd (hget ha.1 hi) (hget hb.1 hj) c1.symm
        subst hij
        rcases hq i y ⟨x, hi, hx2.2⟩ hj with h | h <;> omega
      have okt : ∀ y ∈ ar1.filter (thereD day), BdOk y := fun y hy => ha.1.ok y (List.mem_filter.1 hy).1
      have hfl := List.length_filter_le (thereD day) ar1
      have hal := ha.1.len
      have hal2 := hb.1.len
      generalize hopen : ar1.filter (thereD day) = open1 at *
      -- each open one
      have loop : ∀ fuel, open1.length < fuel → iter (X := l11_BillAgesAddUp_x9) (β := l11_BillAgesAddUp_r9) fuel (ds, ps, day, steps, ar2.map paidOf, [], open1.map (owedOf day), (List.length (open1.map (owedOf day)) : Int), 0, ()) l11_BillAgesAddUp_b9 = some (Sum.inr (ds, ps, day, steps, (open1.map owes).map told, ())) := by
        intro fuel hf
        refine iter_post (Inv := fun i x => x = (ds, ps, day, steps, ar2.map paidOf, ((open1.take i).map owes).map told, open1.map (owedOf day), (List.length (open1.map (owedOf day)) : Int), (i : Int), ())) open1.length (fun r => r = some (Sum.inr (ds, ps, day, steps, (open1.map owes).map told, ()))) ?_ ?_ fuel 0 _ (by simp) (by omega) (by omega)
        · rintro i _ again hi rfl ih
          unfold l11_BillAgesAddUp_b9
          dsimp only
          have hx : open1[i]? = some (open1[i]'(by omega)) := getElem?_of _
          have hxm := List.mem_of_getElem? hx
          generalize open1[i]'(by omega) = x at hx hxm
          have hy : (open1.map (owedOf day))[i]? = some (owedOf day x) := by rw [List.getElem?_map, hx]; rfl
          rw [List.length_map, bif_pos (by omega), idx_nat, hy, Option.bind_some, chk_pos (chk_app (by simp; omega) (by simp; omega))]
          have inner : ∀ (g : List D_api_Decimal) (g1 g2 : Int) (o1 : List D_api_Owed) (u1 u2 u3 : Int) fuel, ar2.length < fuel → iter (X := l11_BillAgesAddUp_x13) (β := l11_BillAgesAddUp_r13) fuel (ds, ps, day, steps, ar2.map paidOf, o1, g1, g2, ar2.map paidOf, (List.length (ar2.map paidOf) : Int), 0, x.1.1, u1, u2, u3, g, ()) l11_BillAgesAddUp_b13 = some (Sum.inr (ds, ps, day, steps, ar2.map paidOf, o1, g1, g2, g, ())) := by
            intro g g1 g2 o1 u1 u2 u3 fuel hf
            refine iter_post (Inv := fun j z => z = (ds, ps, day, steps, ar2.map paidOf, o1, g1, g2, ar2.map paidOf, (List.length (ar2.map paidOf) : Int), (j : Int), x.1.1, u1, u2, u3, g, ())) ar2.length (fun r => r = some (Sum.inr (ds, ps, day, steps, ar2.map paidOf, o1, g1, g2, g, ()))) ?_ ?_ fuel 0 _ rfl (by omega) (by omega)
            · rintro j _ again hj rfl ih
              unfold l11_BillAgesAddUp_b13
              dsimp only
              have hz : ar2[j]? = some (ar2[j]'(by omega)) := getElem?_of _
              have hzm := List.mem_of_getElem? hz
              generalize ar2[j]'(by omega) = y at hz hzm
              have hy : (ar2.map paidOf)[j]? = some (paidOf y) := by rw [List.getElem?_map, hz]; rfl
              have nb := nobad x hxm y hzm
              rw [List.length_map, bif_pos (by omega), idx_nat, hy, Option.bind_some, w64_id (by omega) (by omega)]
              have next := ih (ds, ps, day, steps, ar2.map paidOf, o1, g1, g2, ar2.map paidOf, (ar2.length : Int), ((j + 1 : Nat) : Int), x.1.1, u1, u2, u3, g, ()) (by rw [List.length_map])
              change (bif (y.1.1 == x.1.1) then bif decide (done y > 0) then bif decide (done y ≤ day) then _ else _ else _ else _) = _
              cases c1 : (y.1.1 == x.1.1) with
              | false => exact next
              | true =>
                rw [cond_true]
                by_cases c2 : done y > 0
                · rw [bif_pos c2]
                  by_cases c3 : done y ≤ day
                  · exact absurd ⟨eq_of_beq c1, c2, c3⟩ nb
                  · rw [bif_neg c3]; exact next
                · rw [bif_neg c2]; exact next
            · rintro _ again rfl
              unfold l11_BillAgesAddUp_b13
              dsimp only
              rw [List.length_map, bif_neg (by omega)]
          change (joinB (iter _ (ds, ps, day, steps, ar2.map paidOf, open1.map (owedOf day), (open1.length : Int), (i : Int), ar2.map paidOf, (List.length (ar2.map paidOf) : Int), 0, x.1.1, (told (owes x)).1, (told (owes x)).2, lateD day x, ((open1.take i).map owes).map told ++ [told (owes x)], ()) l11_BillAgesAddUp_b13) _) = _
          rw [inner (((open1.take i).map owes).map told ++ [told (owes x)]) (open1.length : Int) (i : Int) (open1.map (owedOf day)) (told (owes x)).1 (told (owes x)).2 (lateD day x) _ (by simp only [List.length_map]; omega), joinB_inr]
          dsimp only
          rw [w64_id (by omega) (by omega)]
          refine ih _ ?_
          rw [take_succ_get hx, List.map_append, List.map_append, List.length_map]; rfl
        · rintro _ again rfl
          unfold l11_BillAgesAddUp_b9
          dsimp only
          rw [List.length_map, bif_neg (by omega), List.take_of_length_le (by omega)]
      rw [loop _ (by simp; omega), joinB_inr]
      dsimp only
      rcases hages with ⟨_, k1⟩ | ⟨_, k0, k1⟩ | ⟨ksl, _, order3, s3, t3, k1⟩
      · rw [k1, Option.bind_some]; rfl
      · rw [k1, Option.bind_some]
        dsimp only
        rw [show (scanF (stepF steps) 0 steps != 0) = true by simpa using k0]; rfl
      · have := hages2 order3 s3 t3
        subst this
        rw [hres1] at k1
        rw [k1, Option.bind_some]
        dsimp only
        have hz : ∀ n ∈ List.replicate (steps.length + 1) (0 : Int), 0 ≤ n := fun n hn => by rw [List.mem_replicate] at hn; omega
        have hrep : (List.replicate (steps.length + 1) (0 : Int)).sum = 0 := by
          generalize steps.length + 1 = m
          induction m with
          | zero => rfl
          | succ m ih => rw [List.replicate_succ, List.sum_cons, ih]; rfl
        obtain ⟨f1, f2, f3⟩ := foldAges (steps := steps) (day := day) open1 (List.replicate (steps.length + 1) 0) (by simp) okt hz
        rw [← hopen] at f1 f2 f3
        change (ageSums steps day ar1).length = _ at f1
        change (ageSums steps day ar1).sum = _ at f2
        change ∀ n ∈ ageSums steps day ar1, _ at f3
        rw [hopen, hrep, Int.zero_add] at f2
        generalize ageSums steps day ar1 = sums at *
        by_cases hm : scanF moneyF 0 sums = 0
        · rw [if_pos hm]
          dsimp only
          have hsm := scan_money hm
          rw [show ((0 : Int) != 0) = false from rfl, cond_false, List.length_map, f1]
          have e1 : w64 ((steps.length : Int) + 1) = ((steps.length + 1 : Nat) : Int) := by rw [w64_id (by omega) (by omega)]; omega
          rw [e1, show (((steps.length + 1 : Nat) : Int) == ((steps.length + 1 : Nat) : Int)) = true by simp, cond_true]
          have okc : ∀ d ∈ sums.map told, DecOk d := by
            intro d hd
            obtain ⟨n, hn, rfl⟩ := List.mem_map.1 hd
            have := hsm n hn
            have h4 := (few_val 4 n).1
            exact ⟨by simp only [told]; omega, by simp only [told]; omega, by simp only [told]; omega⟩
          have okw : ∀ d ∈ (open1.map owes).map told, DecOk d := by
            intro d hd
            obtain ⟨n, hn, rfl⟩ := List.mem_map.1 hd
            obtain ⟨x, hx, rfl⟩ := List.mem_map.1 hn
            have := (okt x hx).le
            have := (okt x hx).owes0
            exact told_ok (by omega)
          have l1 := sum9_len (l := sums.map told) (by simp; omega) okc
          have l2 := sum9_len (l := (open1.map owes).map told) (by simp; omega) okw
          rw [r11_Money_eq _ (by simp; omega) okc, Option.bind_some, r11_Money_eq _ (by simp; omega) okw, Option.bind_some]
          dsimp only
          rw [r1_Cmp_eq _ _ (by omega) (by omega), Option.bind_some, sum9_told, sum9_told, f2, Int.sub_self]
          rfl
        · rw [if_neg hm]; rfl

end Go.Md
