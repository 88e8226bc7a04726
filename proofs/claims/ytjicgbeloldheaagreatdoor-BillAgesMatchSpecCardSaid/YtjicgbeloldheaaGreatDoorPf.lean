/-
  Plain facts: the reference of the chapter does the same; the plain law BillAgesMatchSpec is true of all data. No condition.
-/
import Derived.Test.YtjicgbeloldheaaGreatDoorPd
import Derived.Test.YtjicgbeloldheaaGreatDoorMd
set_option linter.all false
namespace Go.Md
open Go.Dn

def nmC : List UInt8 := [97, 98, 99, 100, 101, 102, 103, 104, 105, 106, 107, 108, 109, 110, 111, 112, 113, 114, 115, 116, 117, 118, 119, 120, 121, 122, 48, 49, 50, 51, 52, 53, 54, 55, 56, 57, 45]
def nmB (c : UInt8) : Bool := nmC.contains c
set_option maxRecDepth 100000 in
theorem nmB_fin : ∀ n : Fin 256, nmB (UInt8.ofNat n.1) = ((decide (97 ≤ n.1) && decide (n.1 ≤ 122)) || ((decide (48 ≤ n.1) && decide (n.1 ≤ 57)) || decide (n.1 = 45))) := by decide
theorem nmB_eq (c : UInt8) : nmB c = ((decide (97 ≤ c.toNat) && decide (c.toNat ≤ 122)) || ((decide (48 ≤ c.toNat) && decide (c.toNat ≤ 57)) || decide (c.toNat = 45))) := by
  have := nmB_fin ⟨c.toNat, UInt8.toNat_lt c⟩
  simpa using this

theorem dropW_nil {α : Type} {p : α → Bool} : ∀ {l : List α}, l.dropWhile p = [] ↔ ∀ x ∈ l, p x = true
  | [] => by simp
  | y :: r => by
    cases hp : p y with
    | true => rw [List.dropWhile_cons_of_pos hp, dropW_nil]; simp [hp]
    | false => rw [List.dropWhile_cons_of_neg (by simp [hp])]; simp [hp]
theorem dropW_head {α : Type} {p : α → Bool} {y : α} {r : List α} : ∀ {l : List α}, l.dropWhile p = y :: r → p y = false
  | [], h => by simp at h
  | z :: t, h => by
    cases hp : p z with
    | true => rw [List.dropWhile_cons_of_pos hp] at h; exact dropW_head h
    | false => rw [List.dropWhile_cons_of_neg (by simp [hp])] at h; cases h; exact hp

theorem trimS_nil (s c : List UInt8) : (Lib.trimS s c == []) = s.all (c.contains ·) := by
  rw [Bool.eq_iff_iff]
  simp only [beq_iff_eq, List.all_eq_true]
  unfold Lib.trimS Lib.trimLeftS Lib.trimRightS
  constructor
  · intro h
    rw [dropW_nil] at h
    cases hd : s.reverse.dropWhile (c.contains ·) with
    | nil =>
      rw [dropW_nil] at hd
      intro x hx
      exact hd x (by simpa using hx)
    | cons y r =>
      exfalso
      have h1 := h y (by rw [hd]; simp)
      have h2 := dropW_head hd
      rw [h1] at h2
      cases h2
  · intro h
    have : s.reverse.dropWhile (c.contains ·) = [] := dropW_nil.2 fun x hx => h x (by simpa using hx)
    rw [this]; rfl

theorem scanF_all {α : Type} (p : α → Bool) (e : Int) (he : e ≠ 0) : ∀ (l : List α) (i : Nat), scanF (fun _ c => if p c = true then 0 else e) i l = if l.all p = true then 0 else e
  | [], i => by simp [scanF]
  | y :: r, i => by
    have ih := scanF_all p e he r (i + 1)
    cases hp : p y with
    | true => simp only [scanF, hp, if_true, List.all_cons, Bool.true_and]; exact ih
    | false => simp [scanF, hp, he]

theorem sidx_get {s : List UInt8} {i : Nat} {c : UInt8} (h : s[i]? = some c) : sidx s (i : Int) = some c := by simp [sidx, h]

theorem r1_IsName_eq (s : List UInt8) : r1_IsName s = some (isNm s, ()) := by
  unfold r1_IsName isNm kit_IsName r1_isName
  by_cases h0 : s = []
  · subst h0; rfl
  have hb : (s == []) = false := by simpa using h0
  have hl : 0 < s.length := List.length_pos_iff.2 h0
  rw [hb, cond_false, bif_neg (show ¬((s.length : Int) < 1) by omega)]
  by_cases h2 : (s.length : Int) > 40
  · rw [bif_pos h2, bif_pos h2]; rfl
  rw [bif_neg h2, bif_neg h2]
  have hs : sidx s 0 = some (s[0]'hl) := sidx_get (i := 0) (getElem?_of hl)
  simp only [hs, Option.bind_some]
  by_cases h3 : (((s[0]'hl).toNat : Int)) < 97
  · simp only [bif_pos h3]; rfl
  simp only [bif_neg h3]
  by_cases h4 : (((s[0]'hl).toNat : Int)) > 122
  · simp only [bif_pos h4]; rfl
  simp only [bif_neg h4]
  have ht : strings_Trim s [97, 98, 99, 100, 101, 102, 103, 104, 105, 106, 107, 108, 109, 110, 111, 112, 113, 114, 115, 116, 117, 118, 119, 120, 121, 122, 48, 49, 50, 51, 52, 53, 54, 55, 56, 57, 45] = some (Lib.trimS s nmC, ()) := by
    unfold strings_Trim
    rw [show (decide (s.length ≤ 9223372036854775807)) = true by simp; omega]
    rfl
  rw [ht, Option.bind_some]
  have loop := iter_scan2 (f := r1_isName_b4) (fun i => (s, (s.length : Int), (i : Int), ())) s (fun _ c => if nmB c = true then 0 else 1) (some (Sum.inr ())) (fun _ => some (Sum.inl (false, ())))
    (fun i c again hi => by
      have hil := (List.getElem?_eq_some_iff.1 hi).1
      unfold r1_isName_b4
      dsimp only
      rw [bif_pos (show (i : Int) < (s.length : Int) by omega), sidx_get hi, Option.bind_some, nmB_eq c, w64_id (by omega) (by omega)]
      by_cases a1 : (c.toNat : Int) < 97 <;> by_cases a2 : (c.toNat : Int) > 122 <;> by_cases a3 : (c.toNat : Int) < 48 <;> by_cases a4 : (c.toNat : Int) > 57 <;> by_cases a5 : (c.toNat : Int) = 45 <;>
        first
        | omega
        | (have b1 : (97 ≤ c.toNat) = ¬ ((c.toNat : Int) < 97) := by simp only [eq_iff_iff]; omega
           have b2 : (c.toNat ≤ 122) = ¬ ((c.toNat : Int) > 122) := by simp only [eq_iff_iff]; omega
           have b3 : (48 ≤ c.toNat) = ¬ ((c.toNat : Int) < 48) := by simp only [eq_iff_iff]; omega
           have b4 : (c.toNat ≤ 57) = ¬ ((c.toNat : Int) > 57) := by simp only [eq_iff_iff]; omega
           have b5 : (c.toNat = 45) = ((c.toNat : Int) = 45) := by simp only [eq_iff_iff]; omega
           simp only [b1, b2, b3, b4, b5, a1, a2, a3, a4, a5, bne, decide_true, decide_false, not_true_eq_false, not_false_eq_true, Bool.and_true, Bool.true_and, Bool.and_false, Bool.false_and, Bool.or_true, Bool.true_or, Bool.or_false, Bool.false_or, cond_true, cond_false, if_true, Bool.false_eq_true, if_false, Int.one_ne_zero, beq_self_eq_true, Bool.not_true]
           first | rfl | (have a6 : ((c.toNat : Int) == 45) = false := by simp only [beq_eq_false_iff_ne, ne_eq]; exact a5
                          rw [a6]; rfl)))
    (fun again => by
      unfold r1_isName_b4
      dsimp only
      rw [bif_neg (by omega)])
    s 0 (List.length s + (Int.natAbs ((List.length s : Int)) + (Int.natAbs (0 : Int) + 2))) rfl (Nat.zero_le _) (by omega)
  rw [show ((0 : Nat) : Int) = 0 from rfl] at loop
  rw [loop, scanF_all nmB 1 (by omega), trimS_nil]
  have e : (s.all fun x => nmC.contains x) = s.all nmB := rfl
  rw [e]
  cases s.all nmB <;> rfl

theorem r1_within_eq (a b c : Int) : r1_within a b c = some (decide (b ≤ a ∧ a ≤ c), ()) := by
  unfold r1_within
  by_cases h : b ≤ a
  · rw [bif_pos h]; simp [h]
  · rw [bif_neg h]; simp [h]
theorem r11_within_eq (a b c : Int) : r11_within a b c = some (decide (b ≤ a ∧ a ≤ c), ()) := r1_within_eq a b c
theorem r1_IsDay_eq (n : Int) : r1_IsDay n = some (decide (1 ≤ n ∧ n ≤ 3652059), ()) := by
  unfold r1_IsDay r1_isDay
  rw [r1_within_eq]; rfl
theorem r1_CheckDecimal_eq (d : D_api_Decimal) : r1_CheckDecimal d = some (if -1000000000000000 ≤ d.1 ∧ d.1 ≤ 1000000000000000 ∧ 0 ≤ d.2 ∧ d.2 ≤ 9 then 0 else 1, ()) := by
  unfold r1_CheckDecimal
  rw [r1_within_eq, Option.bind_some]
  by_cases h1 : -1000000000000000 ≤ d.1 ∧ d.1 ≤ 1000000000000000
  · rw [decide_eq_true h1]
    simp only [Bool.not_true, cond_false]
    rw [r1_within_eq, Option.bind_some]
    by_cases h2 : 0 ≤ d.2 ∧ d.2 ≤ 9
    · rw [decide_eq_true h2, if_pos ⟨h1.1, h1.2, h2⟩]; rfl
    · rw [decide_eq_false h2, if_neg (fun h => h2 h.2.2)]; rfl
  · rw [decide_eq_false h1, if_neg (fun h => h1 ⟨h.1, h.2.1⟩)]; rfl

theorem r11_cmp_eq {a b : D_api_Decimal} (ha : DecOk a) (hb : DecOk b) : r11_cmp a b = some ((dec9 a - dec9 b).sign, ()) := by
  unfold r11_cmp
  have l1 := dec9_bound ha
  have l2 := dec9_bound hb
  have m1 := len6 (z := dec9 a) (by omega)
  have m2 := len6 (z := dec9 b) (by omega)
  rw [r1_At_eq a ha, Option.bind_some, r1_At_eq b hb, Option.bind_some, r1_Cmp_eq _ _ (by omega) (by omega)]
  rfl

instance (d : D_api_Decimal) : Decidable (DecOk d) := by unfold DecOk; infer_instance

theorem r11_isIn_eq (d : D_api_Decimal) (lo hi pl : Int) (hlo : lo.natAbs ≤ 1000000000000000) (hhi : hi.natAbs ≤ 1000000000000000) : r11_isIn d lo hi pl = some (decide (DecOk d ∧ d.2 ≤ pl ∧ lo * 10 ^ 9 ≤ dec9 d ∧ dec9 d ≤ hi * 10 ^ 9), ()) := by
  unfold r11_isIn
  rw [r1_CheckDecimal_eq, Option.bind_some]
  have hd : DecOk d ↔ (-1000000000000000 ≤ d.1 ∧ d.1 ≤ 1000000000000000 ∧ 0 ≤ d.2 ∧ d.2 ≤ 9) := by unfold DecOk; omega
  have z : ∀ n : Int, n.natAbs ≤ 1000000000000000 → DecOk (n, 0) ∧ dec9 (n, 0) = n * 10 ^ 9 := fun n hn => ⟨⟨hn, by simp, by simp⟩, by simp [dec9]⟩
  by_cases h1 : DecOk d
  · rw [if_pos (hd.1 h1)]
    dsimp only
    rw [show ((0 : Int) == 0) = true from rfl, cond_true]
    by_cases h2 : d.2 ≤ pl
    · rw [bif_pos h2, r11_cmp_eq h1 (z lo hlo).1, Option.bind_some, (z lo hlo).2]
      dsimp only
      by_cases h3 : lo * 10 ^ 9 ≤ dec9 d
      · rw [bif_pos (by rw [ge_iff_le, Int.sign_nonneg_iff]; omega), r11_cmp_eq h1 (z hi hhi).1, Option.bind_some, (z hi hhi).2]
        have : ((dec9 d - hi * 10 ^ 9).sign ≤ 0) = (DecOk d ∧ d.2 ≤ pl ∧ lo * 10 ^ 9 ≤ dec9 d ∧ dec9 d ≤ hi * 10 ^ 9) := by
          rw [Int.sign_nonpos_iff, eq_iff_iff]
          constructor
          · intro h; exact ⟨h1, h2, h3, by omega⟩
          · intro h; omega
        simp only [this]
      · rw [bif_neg (by rw [ge_iff_le, Int.sign_nonneg_iff]; omega), decide_eq_false (fun h => h3 h.2.2.1)]
    · rw [bif_neg h2, decide_eq_false (fun h => h2 h.2.1)]
  · rw [if_neg (fun h => h1 (hd.2 h)), decide_eq_false (p := DecOk d ∧ d.2 ≤ pl ∧ lo * 10 ^ 9 ≤ dec9 d ∧ dec9 d ≤ hi * 10 ^ 9) (fun h => h1 h.1)]; rfl

theorem r11_isMoney_eq (d : D_api_Decimal) : r11_isMoney d = some (decide (MonOk d), ()) := by
  unfold r11_isMoney
  rw [r11_isIn_eq d 0 1000000000 4 (by omega) (by omega), Option.bind_some]
  dsimp only
  by_cases h : DecOk d ∧ d.2 ≤ 4 ∧ 0 * 10 ^ 9 ≤ dec9 d ∧ dec9 d ≤ 1000000000 * 10 ^ 9
  · rw [decide_eq_true h, cond_true]
    have : (d.1 > 0) = MonOk d := by
      rw [eq_iff_iff]
      constructor
      · intro h0
        refine ⟨h0, h.1.2.1, h.2.1, ?_⟩
        have e : (10 : Int) ^ 9 = 10 ^ d.2.toNat * 10 ^ (9 - d.2).toNat := by
          rw [← Int.pow_add]; congr 1; have := h.1.2.1; have := h.1.2.2; omega
        have h2 := h.2.2.2
        unfold dec9 at h2
        rw [e, ← Int.mul_assoc] at h2
        exact Int.le_of_mul_le_mul_right h2 (pow10_pos _)
      · intro h0; exact h0.1
    simp only [this]
  · rw [decide_eq_false h, cond_false, decide_eq_false]
    intro hm
    apply h
    refine ⟨hm.dec, hm.2.2.1, ?_, ?_⟩
    · rw [dec9_cents hm]; have := hm.cents; omega
    · rw [dec9_cents hm]; have := hm.cents; omega

end Go.Md

namespace Go.Md
open Go.Dn

theorem scanF_any {α : Type} (p : α → Bool) (e : Int) (he : e ≠ 0) : ∀ (l : List α) (i : Nat), scanF (fun _ c => if p c = true then e else 0) i l = if l.any p = true then e else 0
  | [], i => by simp [scanF]
  | y :: r, i => by
    have ih := scanF_any p e he r (i + 1)
    cases hp : p y with
    | false => simp only [scanF, hp, Bool.false_eq_true, if_false, if_true, List.any_cons, Bool.false_or]; exact ih
    | true => simp [scanF, hp, he]

theorem r_twice (a : List D_api_Debt) (b : Int) (c : List D_api_Debt) (d e : Int) (l : List D_api_Debt) (n : List UInt8) (hl : l.length < 1000000) (f1 f2 f3 f4 f5 f6 : Int) (fuel : Nat) (w : Unit) (hf : l.length < fuel) :
    iter (X := r11_CheckDebts_x9) (β := r11_CheckDebts_r9) fuel (a, b, c, d, e, l, (l.length : Int), 0, n, f1, f2, f3, f4, f5, f6, w) r11_CheckDebts_b9 =
      if l.any (fun o => o.1 == n) = true then some (Sum.inl (Sum.inl (7, ()))) else some (Sum.inr (a, b, c, d, e, n, f1, f2, f3, f4, f5, f6, ())) := by
  have loop := iter_scan2 (f := r11_CheckDebts_b9) (fun i => (a, b, c, d, e, l, (l.length : Int), (i : Int), n, f1, f2, f3, f4, f5, f6, ())) l (fun _ o => if (o.1 == n) = true then 7 else 0) (some (Sum.inr (a, b, c, d, e, n, f1, f2, f3, f4, f5, f6, ()))) (fun _ => some (Sum.inl (Sum.inl (7, ()))))
    (fun i y again hy => by
      have hi := (List.getElem?_eq_some_iff.1 hy).1
      unfold r11_CheckDebts_b9
      dsimp only
      rw [bif_pos (by omega), idx_nat, hy, Option.bind_some, w64_id (by omega) (by omega)]
      cases y.1 == n <;> rfl)
    (fun again => by
      unfold r11_CheckDebts_b9
      dsimp only
      rw [bif_neg (by omega)])
    l 0 fuel rfl (by omega) hf
  rw [scanF_any (fun o : D_api_Debt => o.1 == n) 7 (by omega)] at loop
  rw [show ((0 : Nat) : Int) = 0 from rfl] at loop
  rw [show w = () from rfl, loop]
  cases l.any (fun o => o.1 == n) <;> rfl

theorem r11_CheckDebts_eq (l : List D_api_Debt) : r11_CheckDebts l = some (debtsF l, ()) := by
  unfold r11_CheckDebts debtsF
  by_cases hl : 200 < l.length
  · rw [bif_pos (by omega), if_pos hl]
  · rw [bif_neg (by omega), if_neg hl]
    have loop := iter_scan (f := r11_CheckDebts_b4) (fun i => (l, l, (l.length : Int), (i : Int), ())) l (debtF l) () (by
        intro i y again hy
        have hi := (List.getElem?_eq_some_iff.1 hy).1
        unfold r11_CheckDebts_b4
        dsimp only
        rw [bif_pos (by omega), idx_nat, hy, Option.bind_some, r1_IsName_eq, Option.bind_some]
        dsimp only
        unfold debtF
        cases hn : isNm y.1 with
        | false => simp
        | true =>
          rw [Bool.not_true, cond_false, if_neg (show ¬(true = false) by simp), chk_pos (by simp only [Bool.and_eq_true, decide_eq_true_eq]; omega), List.drop_zero, Int.toNat_natCast, r_twice _ _ _ _ _ _ _ (by rw [List.length_take]; omega) _ _ _ _ _ _ _ _ (by omega)]
          cases ha : (l.take i).any (fun o => o.1 == y.1) with
          | true => rfl
          | false =>
            rw [if_neg (show ¬(false = true) by simp), if_neg (show ¬(false = true) by simp), joinB_inr]
            dsimp only
            rw [r1_IsDay_eq, Option.bind_some]
            dsimp only
            by_cases hday : 1 ≤ y.2.1 ∧ y.2.1 ≤ 3652059
            · rw [decide_eq_true hday, Bool.not_true, cond_false, if_neg (not_not_intro hday)]
              have rest : (Option.bind (r11_isMoney (y.2.2.1.1, y.2.2.1.2)) fun r7 =>
                  bif !r7.1 then some (Sum.inl (1, ())) else
                    Option.bind (r11_within y.2.2.2.1 0 10000) fun r8 =>
                    bif !r8.1 then some (Sum.inl (1, ())) else
                      Option.bind (r11_within y.2.2.2.2.1 0 y.2.2.2.1) fun r9 =>
                      bif !r9.1 then some (Sum.inl (1, ())) else
                        Option.bind (r11_within y.2.2.2.2.2 0 1000) fun r10 =>
                        bif !r10.1 then some (Sum.inl (1, ())) else again (l, l, (l.length : Int), w64 ((i : Int) + 1), ())) =
                  if (if ¬MonOk y.2.2.1 then (1 : Int) else if y.2.2.2.1 < 0 ∨ 10000 < y.2.2.2.1 then 1 else if y.2.2.2.2.1 < 0 ∨ y.2.2.2.1 < y.2.2.2.2.1 then 1 else if y.2.2.2.2.2 < 0 ∨ 1000 < y.2.2.2.2.2 then 1 else 0) = 0 then again (l, l, (l.length : Int), ((i + 1 : Nat) : Int), ())
                  else some (Sum.inl ((if ¬MonOk y.2.2.1 then (1 : Int) else if y.2.2.2.1 < 0 ∨ 10000 < y.2.2.2.1 then 1 else if y.2.2.2.2.1 < 0 ∨ y.2.2.2.1 < y.2.2.2.2.1 then 1 else if y.2.2.2.2.2 < 0 ∨ 1000 < y.2.2.2.2.2 then 1 else 0), ())) := by
                rw [show r11_isMoney (y.2.2.1.1, y.2.2.1.2) = r11_isMoney y.2.2.1 from rfl, r11_isMoney_eq, Option.bind_some, r11_within_eq, Option.bind_some, r11_within_eq, Option.bind_some, r11_within_eq, Option.bind_some, w64_id (by omega) (by omega)]
                dsimp only
                by_cases hm : MonOk y.2.2.1
                · rw [decide_eq_true hm, if_neg (not_not_intro hm), Bool.not_true, cond_false]
                  by_cases h1 : y.2.2.2.1 < 0 ∨ 10000 < y.2.2.2.1
                  · rw [decide_eq_false (show ¬(0 ≤ y.2.2.2.1 ∧ y.2.2.2.1 ≤ 10000) by omega), if_pos h1]; rfl
                  · rw [decide_eq_true (show 0 ≤ y.2.2.2.1 ∧ y.2.2.2.1 ≤ 10000 by omega), if_neg h1, Bool.not_true, cond_false]
                    by_cases h2 : y.2.2.2.2.1 < 0 ∨ y.2.2.2.1 < y.2.2.2.2.1
                    · rw [decide_eq_false (show ¬(0 ≤ y.2.2.2.2.1 ∧ y.2.2.2.2.1 ≤ y.2.2.2.1) by omega), if_pos h2]; rfl
                    · rw [decide_eq_true (show 0 ≤ y.2.2.2.2.1 ∧ y.2.2.2.2.1 ≤ y.2.2.2.1 by omega), if_neg h2, Bool.not_true, cond_false]
                      by_cases h3 : y.2.2.2.2.2 < 0 ∨ 1000 < y.2.2.2.2.2
                      · rw [decide_eq_false (show ¬(0 ≤ y.2.2.2.2.2 ∧ y.2.2.2.2.2 ≤ 1000) by omega), if_pos h3]; rfl
                      · rw [decide_eq_true (show 0 ≤ y.2.2.2.2.2 ∧ y.2.2.2.2.2 ≤ 1000 by omega), if_neg h3, Bool.not_true, cond_false]; rfl
                · rw [decide_eq_false hm, if_pos hm]; rfl
              cases i with
              | zero =>
                rw [bif_neg (by simp), rest]
                rfl
              | succ j =>
                have hj : l[j]? = some l[j] := getElem?_of (by omega)
                have e1 : w64 (((j + 1 : Nat) : Int) - 1) = (j : Int) := by rw [w64_id (by omega) (by omega)]; omega
                have hp : prevLt (·.2.1) l (j + 1) y = decide (y.2.1 < l[j].2.1) := by simp only [prevLt, hj]
                rw [bif_pos (by omega), e1, idx_nat, hj, Option.bind_some, hp]
                by_cases h4 : y.2.1 < l[j].2.1
                · rw [bif_pos h4, if_pos (decide_eq_true h4)]; rfl
                · rw [bif_neg h4, decide_eq_false h4, rest]
                  rfl
            · rw [decide_eq_false hday, Bool.not_false, cond_true, if_pos hday]; rfl)
      (by
        intro again
        unfold r11_CheckDebts_b4
        dsimp only
        rw [bif_neg (by omega)])
      l 0 (List.length l + (List.length l + (Int.natAbs ((List.length l : Int)) + (Int.natAbs (0 : Int) + 2)))) rfl (by omega) (by omega)
    rw [show ((0 : Nat) : Int) = 0 from rfl] at loop
    rw [loop]
    by_cases h0 : scanF (debtF l) 0 l = 0
    · rw [if_pos h0, joinB_inr, h0]
    · rw [if_neg h0, joinB_inl]

theorem r_pay_names (g1 g2 : List D_api_Payment) (g3 g4 : Int) (l : List (List UInt8)) (hl : l.length ≤ 100) (h1 h2 h3 : Int) (n : Nat) (hn : l.length < n) :
    iter (X := r11_CheckPayments_x15) (β := r11_CheckPayments_r15) n (g1, g2, g3, g4, l, (l.length : Int), 0, h1, h2, h3, l, ()) r11_CheckPayments_b15 = if scanF (nameF l) 0 l = 0 then some (Sum.inr (g1, g2, g3, g4, ())) else some (Sum.inl (Sum.inl (scanF (nameF l) 0 l, ()))) := by
  have key : ∀ (r : List (List UInt8)) (i n : Nat), l.drop i = r → i ≤ l.length → r.length < n → iter (X := r11_CheckPayments_x15) (β := r11_CheckPayments_r15) n (g1, g2, g3, g4, l, (l.length : Int), (i : Int), h1, h2, h3, l, ()) r11_CheckPayments_b15 = if scanF (nameF l) i r = 0 then some (Sum.inr (g1, g2, g3, g4, ())) else some (Sum.inl (Sum.inl (scanF (nameF l) i r, ()))) := by
    intro r
    induction r with
    | nil =>
      intro i n hd hi hn
      obtain ⟨n, rfl⟩ : ∃ m, n = m + 1 := ⟨n - 1, by simp at hn; omega⟩
      have : i = l.length := by
        have := congrArg List.length hd
        simp at this; omega
      subst this
      rw [iter_succ]
      unfold r11_CheckPayments_b15
      dsimp only
      rw [bif_neg (by omega)]; rfl
    | cons y r ih =>
      intro i n hd hi hn
      obtain ⟨n, rfl⟩ : ∃ m, n = m + 1 := ⟨n - 1, by simp at hn; omega⟩
      have hy : l[i]? = some y := by
        have := congrArg (·[0]?) hd
        simpa [List.getElem?_drop] using this
      have hr : l.drop (i + 1) = r := by
        have := congrArg List.tail hd
        simpa [List.tail_drop] using this
      have hi' : i < l.length := (List.getElem?_eq_some_iff.1 hy).1
      rw [iter_succ]
      generalize hag : (fun y => iter n y r11_CheckPayments_b15) = again
      unfold r11_CheckPayments_b15
      dsimp only
      rw [bif_pos (by omega), idx_nat, hy, Option.bind_some, r1_IsName_eq, Option.bind_some]
      dsimp only
      cases hnm : isNm y with
      | false =>
        have e : scanF (nameF l) i (y :: r) = 5 := by simp [scanF, nameF, hnm]
        rw [e]; rfl
      | true =>
        rw [Bool.not_true, cond_false, chk_pos (by simp only [Bool.and_eq_true, decide_eq_true_eq]; omega), List.drop_zero, Int.toNat_natCast, slices_Contains_string_eq _ _ (by rw [List.length_take]; omega), Option.bind_some]
        dsimp only
        cases ha : (l.take i).any (fun o => o == y) with
        | true =>
          have e : scanF (nameF l) i (y :: r) = 7 := by
            have : nameF l i y = 7 := by simp only [nameF, hnm, ha]; rfl
            simp [scanF, this]
          rw [e]; rfl
        | false =>
          have e : scanF (nameF l) i (y :: r) = scanF (nameF l) (i + 1) r := by
            have : nameF l i y = 0 := by simp only [nameF, hnm, ha]; rfl
            simp [scanF, this]
          rw [cond_false, w64_id (by omega) (by omega), ← hag, e]
          exact ih (i + 1) n hr hi' (by simp at hn; omega)
  exact key l 0 n rfl (by omega) hn

theorem r11_CheckPayments_eq (l : List D_api_Payment) : r11_CheckPayments l = some (paysF l, ()) := by
  unfold r11_CheckPayments paysF
  by_cases hl : 500 < l.length
  · rw [bif_pos (by omega), if_pos hl]
  · rw [bif_neg (by omega), if_neg hl]
    have loop := iter_scan (f := r11_CheckPayments_b4) (fun i => (l, l, (l.length : Int), (i : Int), ())) l (payF l) () (by
        intro i y again hy
        have hi := (List.getElem?_eq_some_iff.1 hy).1
        unfold r11_CheckPayments_b4
        dsimp only
        rw [bif_pos (by omega), idx_nat, hy, Option.bind_some, r1_IsDay_eq, Option.bind_some]
        dsimp only
        unfold payF
        by_cases hday : 1 ≤ y.1 ∧ y.1 ≤ 3652059
        · rw [decide_eq_true hday, Bool.not_true, cond_false, if_neg (not_not_intro hday)]
          have rest : (Option.bind (r11_isMoney y.2.1) fun r5 =>
              bif !r5.1 then some (Sum.inl (1, ())) else
                bif decide (((List.length y.2.2 : Int)) > 100) then some (Sum.inl (2, ())) else
                  joinB (β := ((Int × Unit) ⊕ Unit)) (γ := ((List D_api_Payment) × (List D_api_Payment) × Int × Int × Unit)) (
                    iter (X := r11_CheckPayments_x15) (β := r11_CheckPayments_r15) (List.length l + (List.length l + (Int.natAbs (l.length : Int) + (Int.natAbs (i : Int) + (List.length y.2.2 + (Int.natAbs ((List.length y.2.2 : Int)) + (Int.natAbs (0 : Int) + (Int.natAbs y.1 + (Int.natAbs y.2.1.1 + (Int.natAbs y.2.1.2 + (List.length y.2.2 + 2))))))))))) (l, l, (l.length : Int), (i : Int), y.2.2, (List.length y.2.2 : Int), 0, y.1, y.2.1.1, y.2.1.2, y.2.2, ()) (r11_CheckPayments_b15)) fun v6 =>
                  again (v6.1, v6.2.1, v6.2.2.1, w64 (v6.2.2.2.1 + 1), ())) =
              if (if ¬MonOk y.2.1 then (1 : Int) else if 100 < y.2.2.length then 2 else scanF (nameF y.2.2) 0 y.2.2) = 0 then again (l, l, (l.length : Int), ((i + 1 : Nat) : Int), ())
              else some (Sum.inl ((if ¬MonOk y.2.1 then (1 : Int) else if 100 < y.2.2.length then 2 else scanF (nameF y.2.2) 0 y.2.2), ())) := by
            rw [r11_isMoney_eq, Option.bind_some]
            dsimp only
            by_cases hm : MonOk y.2.1
            · rw [decide_eq_true hm, if_neg (not_not_intro hm), Bool.not_true, cond_false]
              by_cases h1 : 100 < y.2.2.length
              · rw [bif_pos (by omega), if_pos h1]; rfl
              · rw [bif_neg (by omega), if_neg h1, r_pay_names l l _ _ y.2.2 (by omega) _ _ _ _ (by omega)]
                by_cases h0 : scanF (nameF y.2.2) 0 y.2.2 = 0
                · rw [if_pos h0, if_pos h0, joinB_inr]
                  dsimp only
                  rw [w64_id (by omega) (by omega)]; rfl
                · rw [if_neg h0, if_neg h0, joinB_inl]
            · rw [decide_eq_false hm, if_pos hm]; rfl
          cases i with
          | zero =>
            rw [bif_neg (by simp)]
            exact rest
          | succ j =>
            have hj : l[j]? = some l[j] := getElem?_of (by omega)
            have e1 : w64 (((j + 1 : Nat) : Int) - 1) = (j : Int) := by rw [w64_id (by omega) (by omega)]; omega
            have hp : prevLt (·.1) l (j + 1) y = decide (y.1 < l[j].1) := by simp only [prevLt, hj]
            rw [bif_pos (by omega), e1, idx_nat, hj, Option.bind_some, hp]
            by_cases h4 : y.1 < l[j].1
            · rw [bif_pos h4, if_pos (decide_eq_true h4)]; rfl
            · rw [bif_neg h4, decide_eq_false h4]
              exact rest
        · rw [decide_eq_false hday, Bool.not_false, cond_true, if_pos hday]; rfl)
      (by
        intro again
        unfold r11_CheckPayments_b4
        dsimp only
        rw [bif_neg (by omega)])
      l 0 (List.length l + (List.length l + (Int.natAbs ((List.length l : Int)) + (Int.natAbs (0 : Int) + 2)))) rfl (by omega) (by omega)
    rw [show ((0 : Nat) : Int) = 0 from rfl] at loop
    rw [loop]
    by_cases h0 : scanF (payF l) 0 l = 0
    · rw [if_pos h0, joinB_inr, h0]
    · rw [if_neg h0, joinB_inl]


theorem r11_askPay_eq (d : List D_api_Debt) (p : List D_api_Payment) : r11_askPay d p = some (if debtsF d ≠ 0 then debtsF d else paysF p, ()) := by
  unfold r11_askPay
  rw [r11_CheckDebts_eq, Option.bind_some, r11_CheckPayments_eq, Option.bind_some]
  dsimp only
  by_cases h : debtsF d = 0
  · rw [h]; rfl
  · have : (debtsF d != 0) = true := by simp [h]
    rw [this, if_pos h]; rfl

end Go.Md

namespace Go.Md
open Go.Dn

theorem pow10_4 {k : Nat} (hk : k ≤ 4) : (10 : Int) ^ k ≤ 10000 ∧ 0 < (10 : Int) ^ k := by
  obtain rfl | rfl | rfl | rfl | rfl : k = 0 ∨ k = 1 ∨ k = 2 ∨ k = 3 ∨ k = 4 := by omega
  all_goals decide

theorem r11_fine_eq (v p : Int) (hp0 : 0 ≤ p) (hp4 : p ≤ 4) (hv0 : 0 ≤ v) (hv : v ≤ 100000000000000) : r11_fine (v, p) = some (v * 10 ^ (4 - p).toNat, ()) := by
  unfold r11_fine
  dsimp only
  rw [w64_id (by omega) (by omega)]
  have loop := iter_post (f := r11_fine_b3) (fun i x => x = (v * 10 ^ i, 4 - p, (i : Int), ())) (4 - p).toNat (fun r => r = some (Sum.inr (v * 10 ^ (4 - p).toNat, ())))
    (by
      intro i x again hi hx hag
      subst hx
      unfold r11_fine_b3
      dsimp only
      rw [bif_pos (by omega)]
      obtain ⟨b1, b2⟩ := pow10_4 (k := i + 1) (by omega)
      have b3 : v * 10 ^ (i + 1) ≤ 100000000000000 * 10000 := Int.mul_le_mul hv b1 (by omega) (by omega)
      have b4 : 0 ≤ v * 10 ^ (i + 1) := Int.mul_nonneg hv0 (by omega)
      have e : v * 10 ^ i * 10 = v * 10 ^ (i + 1) := by rw [Int.pow_succ, Int.mul_assoc]
      apply hag
      rw [e, w64_id (by omega) (by omega), w64_id (by omega) (by omega)]
      rfl)
    (by
      intro x again hx
      subst hx
      unfold r11_fine_b3
      dsimp only
      rw [bif_neg (by omega)])
    (Int.natAbs v + (Int.natAbs (4 - p) + (Int.natAbs (0 : Int) + 2))) 0 (v, 4 - p, 0, ()) (by simp) (by omega) (by omega)
  rw [loop, joinB_inr]

theorem r11_fine_mon {d : D_api_Decimal} (h : MonOk d) : r11_fine d = some (cents d, ()) := by
  have b1 := (pow10_4 (k := d.2.toNat) (by have := h.2.1; have := h.2.2.1; omega)).1
  have b2 := h.2.2.2
  exact r11_fine_eq d.1 d.2 h.2.1 h.2.2.1 (by have := h.1; omega) (by omega)

section
variable {ds : List D_api_Debt} {ar : List Bd} {rest : List Int} {i : Nat} {x : Bd}

theorem ArOk.dget (h : ArOk ds ar) (hx : ar[i]? = some x) : ds[i]? = some x.1 := by rw [← h.ds, List.getElem?_map, hx]; rfl
theorem map_set_same {β : Type} {f : Bd → β} {y : Bd} (hx : ar[i]? = some x) (he : f y = f x) : (ar.set i y).map f = ar.map f := by
  rw [List.map_set, he]
  apply List.ext_getElem?
  intro j
  by_cases hj : i = j
  · subst hj
    rw [List.getElem?_set_self (by simp; exact (List.getElem?_eq_some_iff.1 hx).1), List.getElem?_map, hx]; rfl
  · rw [List.getElem?_set_ne hj]

theorem rac_there (h : ArOk ds ar) (hx : ar[i]? = some x) (day : Int) : r11_account_isThere (ds, ar.map paid, ar.map taken, ar.map done, rest) (i : Int) day = some (thereD day x, ()) := by
  unfold r11_account_isThere
  rw [idx_nat, h.dget hx, Option.bind_some]
  by_cases hd : x.1.2.1 ≤ day
  · rw [bif_pos hd, idx_nat, List.getElem?_map, hx]
    simp [thereD, hd]
  · rw [bif_neg hd]
    simp [thereD, hd]

theorem rac_owed (h : ArOk ds ar) (hx : ar[i]? = some x) {pd tk dn : List Int} {q : Int} (hq : pd[i]? = some q) (q0 : 0 ≤ q) (q1 : q ≤ 10000000000000) : r11_account_owed (ds, pd, tk, dn, rest) (i : Int) = some (cents x.1.2.2.1 - q, ()) := by
  have ok := h.get hx
  have hc := ok.d.mon.cents
  unfold r11_account_owed
  rw [idx_nat, h.dget hx, Option.bind_some, r11_fine_mon ok.d.mon, Option.bind_some, idx_nat]
  dsimp only
  rw [hq, Option.bind_some, w64_id (by omega) (by omega)]

theorem owes_there (ok : BdOk x) (hd : done x = 0) : cents x.1.2.2.1 - paid x = owes x := by
  have := ok.sum; have := ok.none hd; omega

theorem rac_disc (h : ArOk ds ar) (hx : ar[i]? = some x) (day : Int) (hd : done x = 0) : r11_account_discount (ds, ar.map paid, ar.map taken, ar.map done, rest) (i : Int) day = some (if x.1.2.1 + x.1.2.2.2.2.1 < day then 0 else discD x, ()) := by
  have ok := h.get hx
  have hl := ok.le
  obtain ⟨b1, b2, b3, b4, b5, b6⟩ := disc_bound ok
  have hd1 := ok.d
  unfold r11_account_discount
  rw [idx_nat, h.dget hx, Option.bind_some]
  have hw : w64 (x.1.2.1 + x.1.2.2.2.2.1) = x.1.2.1 + x.1.2.2.2.2.1 := by
    have := ok.d.day0; have := ok.d.day1; have := ok.d.with0; have := ok.d.with1; have := ok.d.days1
    exact w64_id (by omega) (by omega)
  rw [hw]
  by_cases hc : x.1.2.1 + x.1.2.2.2.2.1 < day
  · rw [bif_pos hc, if_pos hc]
  · rw [bif_neg hc, if_neg hc, w64_id (n := x.1.2.2.1.1 * x.1.2.2.2.2.2) (by omega) (by omega), Int.tdiv_eq_ediv_of_nonneg b3, w64_id (by omega) (by omega)]
    have hm := ok.d.mon
    rw [r11_fine_eq _ _ hm.2.1 hm.2.2.1 (by omega) (by omega), Option.bind_some, rac_owed h hx (q := paid x) (by rw [List.getElem?_map, hx]; rfl) ok.paid0 hl.2.1, Option.bind_some, owes_there ok hd]
    dsimp only
    congr 2
    unfold discD
    omega

theorem rac_pay (h : ArOk ds ar) (hx : ar[i]? = some x) (day left : Int) (hd : done x = 0) (hl0 : 0 ≤ left) (hl1 : left ≤ 10000000000000) :
    r11_account_pay (ds, ar.map paid, ar.map taken, ar.map done, rest, ()) (i : Int) day left = some ((payD left day x).1, (ds, (ar.set i (payD left day x).2).map paid, (ar.set i (payD left day x).2).map taken, (ar.set i (payD left day x).2).map done, rest, ()), ()) := by
  have ok := h.get hx
  have hl := ok.le
  have hil : i < ar.length := (List.getElem?_eq_some_iff.1 hx).1
  have o0 := ok.owes0
  have p0 := ok.paid0
  have hs := ok.sum
  have hn := ok.none hd
  have hc := ok.d.mon.cents
  have hpi : (ar.map paid)[i]? = some (paid x) := by rw [List.getElem?_map, hx]; rfl
  have hdi : (ar.map done)[i]? = some (done x) := by rw [List.getElem?_map, hx]; rfl
  unfold r11_account_pay
  dsimp only
  rw [rac_owed h hx hpi p0 hl.2.1, Option.bind_some, owes_there ok hd]
  dsimp only
  have hmin : (if owes x < left then owes x else left) = min left (owes x) := by split <;> omega
  rw [hmin, chk_pos (by simp only [Bool.and_eq_true, decide_eq_true_eq, List.length_map]; omega), Int.toNat_natCast, hpi, Option.bind_some, chk_pos (by simp only [Bool.and_eq_true, decide_eq_true_eq, List.length_map]; omega), Option.bind_some,
    w64_id (by omega) (by omega), rac_owed (x := x) h hx (q := paid x + min left (owes x)) (List.getElem?_set_self (by simpa using hil)) (by omega) (by omega), Option.bind_some]
  dsimp only
  have e1 : (ar.set i (payD left day x).2).map paid = (ar.map paid).set i (paid x + min left (owes x)) := by rw [List.map_set]; rfl
  have e2 : (ar.set i (payD left day x).2).map taken = ar.map taken := map_set_same hx rfl
  rw [e1, e2, w64_id (by omega) (by omega)]
  by_cases hz : owes x - min left (owes x) = 0
  · have hb : (cents x.1.2.2.1 - (paid x + min left (owes x)) == 0) = true := by simp only [beq_iff_eq]; omega
    have e3 : (ar.set i (payD left day x).2).map done = (ar.map done).set i day := by
      rw [List.map_set]
      congr 1
      simp [payD, done, hz]
    rw [hb, cond_true, chk_pos (by simp only [Bool.and_eq_true, decide_eq_true_eq, List.length_map]; omega), hdi, Option.bind_some, e3]
    rfl
  · have hb : (cents x.1.2.2.1 - (paid x + min left (owes x)) == 0) = false := by simp only [beq_eq_false_iff_ne, ne_eq]; omega
    have e3 : (ar.set i (payD left day x).2).map done = ar.map done := map_set_same hx (by simp [payD, done, hz])
    rw [hb, cond_false, e3]
    rfl

end
end Go.Md

namespace Go.Md
open Go.Dn

theorem lastM_skip {n : List UInt8} : ∀ {l : List D_api_Debt} {i : Nat} {acc : Option Nat}, (∀ d ∈ l, (d.1 == n) = false) → lastM n l i acc = acc
  | [], _, _, _ => rfl
  | d :: r, i, acc, h => by
    simp only [lastM]
    rw [h d (by simp), if_neg (by simp)]
    exact lastM_skip fun e he => h e (by simp [he])

def Dist (ds : List D_api_Debt) : Prop := ∀ (i j : Nat) (x y : D_api_Debt), ds[i]? = some x → ds[j]? = some y → x.1 = y.1 → i = j

theorem rnamed_inner {ds : List D_api_Debt} (hdist : Dist ds) (hdl : ds.length ≤ 200) (nm : List UInt8) (day : Int) (hday : 0 < day) (nl : List (List UInt8)) (n1 n2 a1 a2 : Int) (a3 : List (List UInt8)) (rest : List Int) :
    ∀ (r : List D_api_Debt) (i fuel : Nat) (left : Int) (ar : List Bd), ds.drop i = r → i ≤ ds.length → r.length < fuel → ArOk ds ar → 0 ≤ left → left ≤ 10000000000000 →
      iter (X := r11_account_come_x6) (β := r11_account_come_r6) fuel (left, nm, nl, n1, n2, ds, (ds.length : Int), (i : Int), day, a1, a2, a3, ds, ar.map paid, ar.map taken, ar.map done, rest, ()) r11_account_come_b6 =
        some (Sum.inr ((stepN day (fun _ => lastM nm r i none) (left, ar) nm).1, nl, n1, n2, day, a1, a2, a3, ds, (stepN day (fun _ => lastM nm r i none) (left, ar) nm).2.map paid, (stepN day (fun _ => lastM nm r i none) (left, ar) nm).2.map taken, (stepN day (fun _ => lastM nm r i none) (left, ar) nm).2.map done, rest, ())) := by
  intro r
  induction r with
  | nil =>
    intro i fuel left ar hd hi hf ha hl0 hl1
    obtain ⟨fuel, rfl⟩ : ∃ m, fuel = m + 1 := ⟨fuel - 1, by simp at hf; omega⟩
    have : i = ds.length := by
      have := congrArg List.length hd
      simp at this; omega
    subst this
    rw [iter_succ]
    unfold r11_account_come_b6
    dsimp only
    rw [bif_neg (by omega)]
    rfl
  | cons y r ih =>
    intro i fuel left ar hd hi hf ha hl0 hl1
    obtain ⟨fuel, rfl⟩ : ∃ m, fuel = m + 1 := ⟨fuel - 1, by simp at hf; omega⟩
    have hy : ds[i]? = some y := by
      have := congrArg (·[0]?) hd
      simpa [List.getElem?_drop] using this
    have hr : ds.drop (i + 1) = r := by
      have := congrArg List.tail hd
      simpa [List.tail_drop] using this
    have hi' : i < ds.length := (List.getElem?_eq_some_iff.1 hy).1
    obtain ⟨x, hx⟩ : ∃ x, ar[i]? = some x := ⟨_, getElem?_of (by rw [ha.len]; exact hi')⟩
    have hxy : x.1 = y := by have := ha.dget hx; rw [hy] at this; cases this; rfl
    have ok := ha.get hx
    have hle := ok.le
    have hil : i < ar.length := (List.getElem?_eq_some_iff.1 hx).1
    rw [iter_succ]
    generalize hag : (fun y => iter fuel y r11_account_come_b6) = again
    have ih' : ∀ (left : Int) (ar : List Bd), ArOk ds ar → 0 ≤ left → left ≤ 10000000000000 → again (left, nm, nl, n1, n2, ds, (ds.length : Int), ((i : Int) + 1), day, a1, a2, a3, ds, ar.map paid, ar.map taken, ar.map done, rest, ()) =
        some (Sum.inr ((stepN day (fun _ => lastM nm r (i + 1) none) (left, ar) nm).1, nl, n1, n2, day, a1, a2, a3, ds, (stepN day (fun _ => lastM nm r (i + 1) none) (left, ar) nm).2.map paid, (stepN day (fun _ => lastM nm r (i + 1) none) (left, ar) nm).2.map taken, (stepN day (fun _ => lastM nm r (i + 1) none) (left, ar) nm).2.map done, rest, ())) := by
      intro left ar h1 h2 h3
      rw [← hag]
      exact ih (i + 1) fuel left ar hr hi' (by simp at hf; omega) h1 h2 h3
    clear hag ih
    unfold r11_account_come_b6
    dsimp only
    rw [bif_pos (by omega), idx_nat, hy, Option.bind_some, w64_id (n := (i : Int) + 1) (by omega) (by omega)]
    cases hn : y.1 == nm with
    | false =>
      rw [Bool.not_false, cond_true, show lastM nm (y :: r) i none = lastM nm r (i + 1) none by simp [lastM, hn]]
      exact ih' left ar ha hl0 hl1
    | true =>
      have hskip : ∀ d ∈ r, (d.1 == nm) = false := by
        intro d hd'
        obtain ⟨j, hj⟩ := List.mem_iff_getElem?.1 hd'
        rw [← hr, List.getElem?_drop] at hj
        cases hdn : d.1 == nm with
        | false => rfl
        | true =>
          have e1 : y.1 = nm := by simpa using hn
          have e2 : d.1 = nm := by simpa using hdn
          have := hdist i (i + 1 + j) y d hy hj (e1.trans e2.symm)
          omega
      have hlast : lastM nm (y :: r) i none = some i := by simp only [lastM, hn, if_true]; exact lastM_skip hskip
      have hnone : lastM nm r (i + 1) none = none := lastM_skip hskip
      have ih2 : ∀ (left : Int) (ar : List Bd), ArOk ds ar → 0 ≤ left → left ≤ 10000000000000 → again (left, nm, nl, n1, n2, ds, (ds.length : Int), ((i : Int) + 1), day, a1, a2, a3, ds, ar.map paid, ar.map taken, ar.map done, rest, ()) =
          some (Sum.inr (left, nl, n1, n2, day, a1, a2, a3, ds, ar.map paid, ar.map taken, ar.map done, rest, ())) := by
        intro left ar h1 h2 h3
        have := ih' left ar h1 h2 h3
        simp only [hnone, stepN] at this
        exact this
      rw [Bool.not_true, cond_false, rac_there ha hx, Option.bind_some, hlast]
      dsimp only
      cases ht : thereD day x with
      | false =>
        rw [Bool.not_false, cond_true, ih2 left ar ha hl0 hl1]
        simp only [stepN, hx, ht, Bool.false_eq_true, if_false]
      | true =>
        have hd0 : done x = 0 := by
          simp only [thereD, Bool.and_eq_true, beq_iff_eq] at ht
          exact ht.2
        have hst : stepN day (fun _ => some i) (left, ar) nm = ((namedD left day x).1, ar.set i (namedD left day x).2) := by
          simp only [stepN, hx, ht, if_true]
        rw [hst]
        dsimp only
        obtain ⟨k1, k2, k3, k4⟩ := namedD_ok ok ht hday hl0
        have k5 := namedD_le (day := day) ok hl0
        have key := ih2 (namedD left day x).1 (ar.set i (namedD left day x).2) (ha.set hx k1 k4) k2 (by omega)
        obtain ⟨b1, b2, _⟩ := disc_bound ok
        have o0 := ok.owes0
        have p0 := ok.paid0
        have hpi : (ar.map paid)[i]? = some (paid x) := by rw [List.getElem?_map, hx]; rfl
        rw [Bool.not_true, cond_false, rac_disc ha hx day hd0, Option.bind_some, rac_owed ha hx hpi p0 hle.2.1, Option.bind_some, owes_there ok hd0, ← hxy]
        dsimp only
        have hw : w64 (x.1.2.1 + x.1.2.2.2.2.1) = x.1.2.1 + x.1.2.2.2.2.1 := by
          have := ok.d.day0; have := ok.d.day1; have := ok.d.with0; have := ok.d.with1; have := ok.d.days1
          exact w64_id (by omega) (by omega)
        have hpay : namedD left day x = payD left day x → (Option.bind (r11_account_pay (ds, ar.map paid, ar.map taken, ar.map done, rest, ()) (i : Int) day left) fun r8 =>
            again (r8.1, nm, nl, n1, n2, ds, (ds.length : Int), (i : Int) + 1, day, a1, a2, a3, r8.2.1.1, r8.2.1.2.1, r8.2.1.2.2.1, r8.2.1.2.2.2.1, r8.2.1.2.2.2.2.1, ())) =
            some (Sum.inr ((namedD left day x).1, nl, n1, n2, day, a1, a2, a3, ds, (ar.set i (namedD left day x).2).map paid, (ar.set i (namedD left day x).2).map taken, (ar.set i (namedD left day x).2).map done, rest, ())) := by
          intro e
          rw [rac_pay ha hx day left hd0 hl0 hl1, Option.bind_some]
          rw [e] at key ⊢
          exact key
        rw [hw]
        by_cases hc : x.1.2.1 + x.1.2.2.2.2.1 < day
        · have e : namedD left day x = payD left day x := by unfold namedD; rw [if_pos (.inr hc)]
          rw [if_pos hc]
          by_cases hc2 : w64 (owes x - 0) ≤ left
          · rw [bif_pos hc2, bif_neg (by omega)]; exact hpay e
          · rw [bif_neg hc2]; exact hpay e
        · rw [if_neg hc, w64_id (n := owes x - discD x) (by omega) (by omega)]
          by_cases hc2 : owes x - discD x ≤ left
          · have e : namedD left day x = (left - (owes x - discD x), (x.1, 0, paid x + (owes x - discD x), discD x, day)) := by unfold namedD; rw [if_neg (by omega)]
            have e1 : (ar.set i (namedD left day x).2).map paid = (ar.map paid).set i (paid x + (owes x - discD x)) := by rw [e, List.map_set]; rfl
            have e2 : (ar.set i (namedD left day x).2).map taken = (ar.map taken).set i (discD x) := by rw [e, List.map_set]; rfl
            have e3 : (ar.set i (namedD left day x).2).map done = (ar.map done).set i day := by rw [e, List.map_set]; rfl
            have hti : (ar.map taken)[i]? = some (taken x) := by rw [List.getElem?_map, hx]; rfl
            have hdi : (ar.map done)[i]? = some (done x) := by rw [List.getElem?_map, hx]; rfl
            have hch : (decide (0 ≤ (i : Int)) && decide ((i : Int) < (ar.length : Int))) = true := by simp only [Bool.and_eq_true, decide_eq_true_eq]; omega
            rw [bif_pos hc2, bif_pos (by omega)]
            simp only [List.length_map, Int.toNat_natCast]
            rw [chk_pos hch, hpi, Option.bind_some, chk_pos hch, Option.bind_some, chk_pos hch, hti, Option.bind_some, chk_pos hch, hdi, Option.bind_some, w64_id (n := paid x + (owes x - discD x)) (by omega) (by omega), w64_id (n := left - (owes x - discD x)) (by omega) (by omega)]
            rw [e1, e2, e3] at key ⊢
            rw [show (namedD left day x).1 = left - (owes x - discD x) by rw [e]] at key ⊢
            exact key
          · have e : namedD left day x = payD left day x := by unfold namedD; rw [if_pos (.inl (by omega))]
            rw [bif_neg hc2]; exact hpay e

end Go.Md

namespace Go.Md
open Go.Dn

theorem rnames_loop {ds : List D_api_Debt} {L T : Int} (hL : L ≤ 10000000000000) (hdist : Dist ds) (hdl : ds.length ≤ 200) (day : Int) (hday : 0 < day) (names : List (List UInt8)) (hnl : names.length ≤ 100) (a1 a2 : Int) (a3 : List (List UInt8)) (rest : List Int) :
    ∀ (r : List (List UInt8)) (i fuel : Nat) (s : Int × List Bd), names.drop i = r → i ≤ names.length → r.length < fuel → StOk ds L T s →
      iter (X := r11_account_come_x3) (β := r11_account_come_r3) fuel (s.1, names, (names.length : Int), (i : Int), day, a1, a2, a3, ds, s.2.map paid, s.2.map taken, s.2.map done, rest, ()) r11_account_come_b3 =
        some (Sum.inr ((r.foldl (stepN day fun n => lastM n ds 0 none) s).1, day, a1, a2, a3, ds, (r.foldl (stepN day fun n => lastM n ds 0 none) s).2.map paid, (r.foldl (stepN day fun n => lastM n ds 0 none) s).2.map taken, (r.foldl (stepN day fun n => lastM n ds 0 none) s).2.map done, rest, ())) := by
  intro r
  induction r with
  | nil =>
    intro i fuel s hd hi hf hs
    obtain ⟨fuel, rfl⟩ : ∃ m, fuel = m + 1 := ⟨fuel - 1, by simp at hf; omega⟩
    have : i = names.length := by
      have := congrArg List.length hd
      simp at this; omega
    subst this
    rw [iter_succ]
    unfold r11_account_come_b3
    dsimp only
    rw [bif_neg (by omega)]
    rfl
  | cons y r ih =>
    intro i fuel s hd hi hf hs
    obtain ⟨fuel, rfl⟩ : ∃ m, fuel = m + 1 := ⟨fuel - 1, by simp at hf; omega⟩
    have hy : names[i]? = some y := by
      have := congrArg (·[0]?) hd
      simpa [List.getElem?_drop] using this
    have hr : names.drop (i + 1) = r := by
      have := congrArg List.tail hd
      simpa [List.tail_drop] using this
    have hi' : i < names.length := (List.getElem?_eq_some_iff.1 hy).1
    rw [iter_succ]
    generalize hag : (fun y => iter fuel y r11_account_come_b3) = again
    unfold r11_account_come_b3
    dsimp only
    rw [bif_pos (by omega), idx_nat, hy, Option.bind_some]
    have inner := rnamed_inner hdist hdl y day hday names (names.length : Int) (i : Int) a1 a2 a3 rest ds 0
      (Int.natAbs s.1 + (List.length y + (List.length names + (Int.natAbs (names.length : Int) + (Int.natAbs (i : Int) + (List.length ds + (Int.natAbs ((List.length ds : Int)) + (Int.natAbs (0 : Int) + (Int.natAbs day + (Int.natAbs a1 + (Int.natAbs a2 + (List.length a3 + (List.length ds + (List.length (s.2.map paid) + (List.length (s.2.map taken) + (List.length (s.2.map done) + (List.length rest + 2))))))))))))))))) s.1 s.2 rfl (by omega) (by omega) hs.ar hs.l0 (by have := hs.l1; omega)
    rw [show ((0 : Nat) : Int) = 0 from rfl] at inner
    rw [inner, joinB_inr]
    dsimp only
    have hs' : StOk ds L T (stepN day (fun n => lastM n ds 0 none) s y) := stepN_ok hs hday
    have e : stepN day (fun _ => lastM y ds 0 none) (s.1, s.2) y = stepN day (fun n => lastM n ds 0 none) s y := rfl
    rw [e, w64_id (by omega) (by omega), ← hag]
    exact ih (i + 1) fuel _ hr hi' (by simp at hf; omega) hs'

theorem rorder_loop {ds : List D_api_Debt} {L T : Int} (hL : L ≤ 10000000000000) (day : Int) (hday : 0 < day) (ord : List Nat) (hol : ord.length ≤ 1000) (hord : ∀ j ∈ ord, j < ds.length) (a1 a2 : Int) (a3 : List (List UInt8)) (rest : List Int) :
    ∀ (r : List Nat) (i fuel : Nat) (s : Int × List Bd), ord.drop i = r → i ≤ ord.length → r.length < fuel → StOk ds L T s →
      iter (X := r11_account_come_x18) (β := r11_account_come_r18) fuel (s.1, (ord.length : Int), (i : Int), day, a1, a2, a3, ds, s.2.map paid, s.2.map taken, s.2.map done, rest, ord.map Int.ofNat, ()) r11_account_come_b18 =
        some (Sum.inr (((r.map some).foldl (stepO day) s).1, ds, ((r.map some).foldl (stepO day) s).2.map paid, ((r.map some).foldl (stepO day) s).2.map taken, ((r.map some).foldl (stepO day) s).2.map done, rest, ())) := by
  intro r
  induction r with
  | nil =>
    intro i fuel s hd hi hf hs
    obtain ⟨fuel, rfl⟩ : ∃ m, fuel = m + 1 := ⟨fuel - 1, by simp at hf; omega⟩
    have : i = ord.length := by
      have := congrArg List.length hd
      simp at this; omega
    subst this
    rw [iter_succ]
    unfold r11_account_come_b18
    dsimp only
    rw [bif_neg (by omega)]
    rfl
  | cons y r ih =>
    intro i fuel s hd hi hf hs
    obtain ⟨fuel, rfl⟩ : ∃ m, fuel = m + 1 := ⟨fuel - 1, by simp at hf; omega⟩
    have hy : ord[i]? = some y := by
      have := congrArg (·[0]?) hd
      simpa [List.getElem?_drop] using this
    have hr : ord.drop (i + 1) = r := by
      have := congrArg List.tail hd
      simpa [List.tail_drop] using this
    have hi' : i < ord.length := (List.getElem?_eq_some_iff.1 hy).1
    have hyl := hord y (List.mem_of_getElem? hy)
    obtain ⟨x, hx⟩ : ∃ x, s.2[y]? = some x := ⟨_, getElem?_of (by rw [hs.ar.len]; exact hyl)⟩
    have ok := hs.ar.get hx
    rw [iter_succ]
    generalize hag : (fun y => iter fuel y r11_account_come_b18) = again
    unfold r11_account_come_b18
    dsimp only
    rw [bif_pos (by omega), chk_pos (by simp only [Bool.and_eq_true, decide_eq_true_eq, List.length_map]; omega), Int.toNat_natCast, List.getElem?_map, hy, Option.map_some, Option.bind_some, show Int.ofNat y = (y : Int) from rfl, rac_there hs.ar hx, Option.bind_some, w64_id (n := (i : Int) + 1) (by omega) (by omega)]
    dsimp only
    have hs' : StOk ds L T (stepO day s (some y)) := stepO_ok hs hday
    have key := ih (i + 1) fuel (stepO day s (some y)) hr hi' (by simp at hf; omega) hs'
    cases ht : thereD day x with
    | false =>
      have e : stepO day s (some y) = s := by simp [stepO, hx, ht]
      rw [e] at key
      rw [cond_false, ← hag, List.map_cons, List.foldl_cons, e]
      exact key
    | true =>
      have hd0 : done x = 0 := by
        simp only [thereD, Bool.and_eq_true, beq_iff_eq] at ht
        exact ht.2
      have e : stepO day s (some y) = ((payD s.1 day x).1, s.2.set y (payD s.1 day x).2) := by
        by_cases h0 : 0 < s.1
        · simp [stepO, hx, ht, h0]
        · have hz : s.1 = 0 := by have := hs.l0; omega
          have hne : owes x ≠ 0 := fun h => (ok.iff.1 h) hd0
          have o0 := ok.owes0
          have hm : min (0 : Int) (owes x) = 0 := by omega
          have hp : payD s.1 day x = (0, x) := by
            unfold payD
            rw [hz, hm]
            obtain ⟨d, ow, pd, tk, dn⟩ := x
            simp only [owes, paid, taken, done] at *
            simp [hne]
          have h1 : stepO day s (some y) = s := by simp [stepO, hx, h0]
          rw [h1, hp]
          have h2 : s.2.set y x = s.2 := by
            apply List.ext_getElem?
            intro j
            by_cases hj : y = j
            · subst hj; rw [set_get hx, hx]
            · rw [List.getElem?_set_ne hj]
          rw [h2, ← hz]
      rw [cond_true, rac_pay hs.ar hx day s.1 hd0 hs.l0 (by have := hs.l1; omega), Option.bind_some, ← hag, List.map_cons, List.foldl_cons]
      rw [e] at key ⊢
      exact key

end Go.Md

namespace Go.Md
open Go.Dn

/-- When a debt is to be paid. -/
def keyN (ds : List D_api_Debt) (j : Nat) : Int := match ds[j]? with
  | some d => d.2.1 + d.2.2.2.1
  | none => 0

theorem ins_srt {key : Nat → Int} {o : List Nat} {i a : Nat} (hs : Srt key o) (hk : SamE key (List.range i) o) (h1 : ∀ j k, a ≤ j → o[j]? = some k → key i < key k) (h2 : ∀ k, 0 < a → o[a - 1]? = some k → key k ≤ key i) (ha : a ≤ o.length) :
    Srt key (o.take a ++ (i :: o.drop a)) ∧ SamE key (List.range (i + 1)) (o.take a ++ (i :: o.drop a)) := by
  have hB : ∀ y ∈ o.drop a, key i < key y := by
    intro y hy
    obtain ⟨j, hj⟩ := List.mem_iff_getElem?.1 hy
    rw [List.getElem?_drop] at hj
    exact h1 _ _ (by omega) hj
  have hA : ∀ x ∈ o.take a, key x ≤ key i := by
    intro x hx
    obtain ⟨j, hj⟩ := List.mem_iff_getElem?.1 hx
    have hja : j < a := by
      have := (List.getElem?_eq_some_iff.1 hj).1
      simp at this; omega
    rw [List.getElem?_take_of_lt hja] at hj
    by_cases e : j = a - 1
    · subst e; exact h2 x (by omega) hj
    · have hlt : a - 1 < o.length := by omega
      have hlast := h2 _ (by omega) (getElem?_of hlt)
      obtain ⟨hjl, hje⟩ := List.getElem?_eq_some_iff.1 hj
      have := List.pairwise_iff_getElem.1 hs j (a - 1) hjl hlt (by omega)
      rw [hje] at this
      omega
  have hsplit : o.take a ++ o.drop a = o := List.take_append_drop a o
  have hs' : Srt key (o.take a ++ o.drop a) := by rw [hsplit]; exact hs
  refine ⟨Srt.append hs'.left (List.pairwise_cons.2 ⟨fun y hy => Int.le_of_lt (hB y hy), hs'.right⟩) ?_, ?_, ?_⟩
  · intro x hx y hy
    rcases List.mem_cons.1 hy with rfl | hy
    · exact hA x hx
    · exact hs'.cross x hx y hy
  · rw [List.range_succ]
    have p1 : (List.range i ++ [i]).Perm (o ++ [i]) := hk.perm.append_right _
    have p2 : (o ++ [i]).Perm (i :: o) := List.perm_append_comm
    have p3 : (o.take a ++ (i :: o.drop a)).Perm (i :: (o.take a ++ o.drop a)) := List.perm_middle
    rw [hsplit] at p3
    exact p1.trans (p2.trans p3.symm)
  · intro v
    rw [List.range_succ, List.filter_append, List.filter_append, ← hk.keys v]
    have hf : o.filter (fun x => key x == v) = (o.take a).filter (fun x => key x == v) ++ (o.drop a).filter (fun x => key x == v) := by rw [← List.filter_append, hsplit]
    rw [hf]
    cases hv : key i == v with
    | true =>
      have hb : (o.drop a).filter (fun x => key x == v) = [] := by
        rw [List.filter_eq_nil_iff]
        intro y hy
        have := hB y hy
        have e : key i = v := by simpa using hv
        simp only [beq_iff_eq]
        omega
      rw [List.filter_cons, if_pos (by exact hv), hb, List.append_nil, List.filter_cons, if_pos (by exact hv)]
      rfl
    | false =>
      rw [List.filter_cons, if_neg (by rw [hv]; simp), List.filter_cons, if_neg (by rw [hv]; simp), List.filter_nil, List.append_nil]

theorem soon_inner {ds : List D_api_Debt} (hds : ∀ d ∈ ds, DebtOk d) (o : List Nat) (ho : ∀ j ∈ o, j < ds.length) (hol : o.length ≤ 1000) (i : Int) (c1 : List D_api_Debt) (c2 c3 : Int) (y : D_api_Debt) (hy : DebtOk y) (P Q R rest : List Int) :
    ∀ (a fuel : Nat), a ≤ o.length → a < fuel → (∀ j k, a ≤ j → o[j]? = some k → y.2.1 + y.2.2.2.1 < keyN ds k) → ∃ t : Nat, t ≤ o.length ∧ (∀ j k, t ≤ j → o[j]? = some k → y.2.1 + y.2.2.2.1 < keyN ds k) ∧ (∀ k, 0 < t → o[t - 1]? = some k → keyN ds k ≤ y.2.1 + y.2.2.2.1) ∧
      iter (X := r11_account_soonest_x6) (β := r11_account_soonest_r6) fuel (o.map Int.ofNat, i, (a : Int), c1, c2, c3, y.1, y.2.1, y.2.2.1.1, y.2.2.1.2, y.2.2.2.1, y.2.2.2.2.1, y.2.2.2.2.2, ds, P, Q, R, rest, ()) r11_account_soonest_b6 = some (Sum.inr (o.map Int.ofNat, i, (t : Int), c1, c2, c3, ds, P, Q, R, rest, ())) := by
  intro a
  induction a with
  | zero =>
    intro fuel h1 h2 h3
    obtain ⟨fuel, rfl⟩ : ∃ m, fuel = m + 1 := ⟨fuel - 1, by omega⟩
    refine ⟨0, by omega, h3, fun k hk => by omega, ?_⟩
    rw [iter_succ]
    unfold r11_account_soonest_b6
    dsimp only
    rw [bif_neg (by simp)]
  | succ a ih =>
    intro fuel h1 h2 h3
    obtain ⟨fuel, rfl⟩ : ∃ m, fuel = m + 1 := ⟨fuel - 1, by omega⟩
    have hal : a < o.length := by omega
    have hk := getElem?_of hal
    have hkl := ho _ (List.mem_of_getElem? hk)
    obtain ⟨d, hd⟩ : ∃ d, ds[o[a]]? = some d := ⟨_, getElem?_of hkl⟩
    have hdo := hds d (List.mem_of_getElem? hd)
    have hkey : keyN ds o[a] = d.2.1 + d.2.2.2.1 := by simp only [keyN, hd]
    rw [iter_succ]
    generalize hag : (fun y => iter fuel y r11_account_soonest_b6) = again
    have e1 : w64 (((a + 1 : Nat) : Int) - 1) = (a : Int) := by rw [w64_id (by omega) (by omega)]; omega
    have e2 : w64 (y.2.1 + y.2.2.2.1) = y.2.1 + y.2.2.2.1 := by
      have := hy.day0; have := hy.day1; have := hy.days0; have := hy.days1; exact w64_id (by omega) (by omega)
    have e3 : w64 (d.2.1 + d.2.2.2.1) = d.2.1 + d.2.2.2.1 := by
      have := hdo.day0; have := hdo.day1; have := hdo.days0; have := hdo.days1; exact w64_id (by omega) (by omega)
    have hch : (decide (0 ≤ (a : Int)) && decide ((a : Int) < (List.length (o.map Int.ofNat) : Int))) = true := by simp only [Bool.and_eq_true, decide_eq_true_eq, List.length_map]; omega
    have hget : (o.map Int.ofNat)[(a : Int).toNat]? = some ((o[a] : Nat) : Int) := by rw [Int.toNat_natCast, List.getElem?_map, hk]; rfl
    have step : r11_account_soonest_b6 (o.map Int.ofNat, i, ((a + 1 : Nat) : Int), c1, c2, c3, y.1, y.2.1, y.2.2.1.1, y.2.2.1.2, y.2.2.2.1, y.2.2.2.2.1, y.2.2.2.2.2, ds, P, Q, R, rest, ()) again =
        (bif decide (y.2.1 + y.2.2.2.1 < d.2.1 + d.2.2.2.1) then again (o.map Int.ofNat, i, (a : Int), c1, c2, c3, y.1, y.2.1, y.2.2.1.1, y.2.2.1.2, y.2.2.2.1, y.2.2.2.2.1, y.2.2.2.2.2, ds, P, Q, R, rest, ())
          else some (Sum.inr (o.map Int.ofNat, i, ((a + 1 : Nat) : Int), c1, c2, c3, ds, P, Q, R, rest, ()))) := by
      unfold r11_account_soonest_b6
      dsimp only
      rw [bif_pos (by omega), e1, chk_pos hch, hget, Option.bind_some, idx_nat, hd, Option.bind_some, chk_pos hch, Option.bind_some, idx_nat, hd, Option.bind_some, e2, e3]
    rw [step]
    by_cases hc : y.2.1 + y.2.2.2.1 < d.2.1 + d.2.2.2.1
    · rw [bif_pos hc, ← hag]
      refine ih fuel (by omega) (by omega) fun j k hj hjk => ?_
      by_cases e : j = a
      · subst e
        rw [hk] at hjk
        cases hjk
        rw [hkey]; exact hc
      · exact h3 j k (by omega) hjk
    · rw [bif_neg hc]
      refine ⟨a + 1, h1, h3, fun k _ hk2 => ?_, rfl⟩
      rw [Nat.add_sub_cancel, hk] at hk2
      cases hk2
      rw [hkey]; omega

theorem r11_soonest_eq {ds : List D_api_Debt} (hds : ∀ d ∈ ds, DebtOk d) (hl : ds.length ≤ 200) (P Q R rest : List Int) :
    ∃ o : List Nat, Srt (keyN ds) o ∧ SamE (keyN ds) (List.range ds.length) o ∧ r11_account_soonest (ds, P, Q, R, rest, ()) = some (o.map Int.ofNat, (ds, P, Q, R, rest, ()), ()) := by
  have loop := iter_post (f := r11_account_soonest_b3) (fun i x => ∃ o : List Nat, Srt (keyN ds) o ∧ SamE (keyN ds) (List.range i) o ∧ x = (o.map Int.ofNat, ds, (ds.length : Int), (i : Int), ds, P, Q, R, rest, ())) ds.length
    (fun r => ∃ o : List Nat, Srt (keyN ds) o ∧ SamE (keyN ds) (List.range ds.length) o ∧ r = some (Sum.inr (o.map Int.ofNat, ds, P, Q, R, rest, ())))
    (by
      intro i x again hi hx hag
      obtain ⟨o, h1, h2, rfl⟩ := hx
      have hol : o.length = i := by rw [h2.length]; simp
      have hom : ∀ j ∈ o, j < ds.length := by
        intro j hj
        have := h2.mem.1 hj
        have := List.mem_range.1 this
        omega
      have hy := getElem?_of hi
      have hyo := hds _ (List.mem_of_getElem? hy)
      unfold r11_account_soonest_b3
      dsimp only
      rw [bif_pos (by omega), idx_nat, hy, Option.bind_some]
      obtain ⟨t, t1, t2, t3, t4⟩ := soon_inner hds o hom (by omega) (i : Int) ds (ds.length : Int) (i : Int) ds[i] hyo P Q R rest o.length
        (List.length (o.map Int.ofNat) + (Int.natAbs (i : Int) + (Int.natAbs ((List.length (o.map Int.ofNat) : Int)) + (List.length ds + (Int.natAbs (ds.length : Int) + (Int.natAbs (i : Int) + (List.length ds[i].1 + (Int.natAbs ds[i].2.1 + (Int.natAbs ds[i].2.2.1.1 + (Int.natAbs ds[i].2.2.1.2 + (Int.natAbs ds[i].2.2.2.1 + (Int.natAbs ds[i].2.2.2.2.1 + (Int.natAbs ds[i].2.2.2.2.2 + (List.length ds + (List.length P + (List.length Q + (List.length R + (List.length rest + 2)))))))))))))))))) (by omega) (by simp; omega) (fun j k hj hk => by
          have := (List.getElem?_eq_some_iff.1 hk).1; omega)
      rw [show ((o.length : Nat) : Int) = (List.length (o.map Int.ofNat) : Int) by simp] at t4
      rw [t4, joinB_inr]
      dsimp only
      have hki : keyN ds i = ds[i].2.1 + ds[i].2.2.2.1 := by simp only [keyN, hy]
      rw [← hki] at t2 t3
      obtain ⟨s1, s2⟩ := ins_srt h1 h2 t2 t3 t1
      have hins : slices_Insert_int (o.map Int.ofNat) (t : Int) [(i : Int)] = some ((o.take t ++ (i :: o.drop t)).map Int.ofNat, ()) := by
        show insM _ _ _ = _
        unfold insM
        rw [show (decide (0 ≤ (t : Int)) && (decide ((t : Int) ≤ ((o.map Int.ofNat).length : Int)) && (decide (0 < [(i : Int)].length) && decide (((o.map Int.ofNat).length + [(i : Int)].length) * 8 ≤ 140737488355328)))) = true by
          simp only [Bool.and_eq_true, decide_eq_true_eq, List.length_map, List.length_cons, List.length_nil]; omega, cond_true]
        simp [List.map_take, List.map_drop]
      rw [hins, Option.bind_some, w64_id (by omega) (by omega)]
      exact hag _ ⟨_, s1, s2, rfl⟩)
    (by
      intro x again hx
      obtain ⟨o, h1, h2, rfl⟩ := hx
      unfold r11_account_soonest_b3
      dsimp only
      rw [bif_neg (by omega)]
      exact ⟨o, h1, h2, rfl⟩)
    (List.length ([] : List Int) + (List.length ds + (Int.natAbs ((List.length ds : Int)) + (Int.natAbs (0 : Int) + (List.length ds + (List.length P + (List.length Q + (List.length R + (List.length rest + 2)))))))))
    0 ([], ds, (ds.length : Int), 0, ds, P, Q, R, rest, ()) ⟨[], List.Pairwise.nil, SamE.refl _ _, rfl⟩ (by omega) (by omega)
  obtain ⟨o, h1, h2, h3⟩ := loop
  refine ⟨o, h1, h2, ?_⟩
  unfold r11_account_soonest
  dsimp only
  rw [h3, joinB_inr]

end Go.Md

namespace Go.Md
open Go.Dn

theorem r11_come_eq {ds : List D_api_Debt} (hds : ∀ d ∈ ds, DebtOk d) (hl : ds.length ≤ 200) (hdist : Dist ds) {ord : List Nat} (ho1 : Srt (keyN ds) ord) (ho2 : SamE (keyN ds) (List.range ds.length) ord) {p : D_api_Payment} (hp : PayOk p) {ar : List Bd} (ha : ArOk ds ar) {rest : List Int} (hrl : rest.length ≤ 1000) :
    r11_account_come (ds, ar.map paid, ar.map taken, ar.map done, rest, ()) p = some ((ds, (onePay (fun n => lastM n ds 0 none) (ord.map some) p ar).2.map paid, (onePay (fun n => lastM n ds 0 none) (ord.map some) p ar).2.map taken, (onePay (fun n => lastM n ds 0 none) (ord.map some) p ar).2.map done, rest ++ [(onePay (fun n => lastM n ds 0 none) (ord.map some) p ar).1], ()), ()) := by
  have hday : 0 < p.1 := by have := hp.day0; omega
  have hc := hp.mon.cents
  have s0 : StOk ds (cents p.2.1) (cents p.2.1 + sumPaid ar) (cents p.2.1, ar) := ⟨ha, by simp only; omega, Int.le_refl _, rfl⟩
  unfold r11_account_come
  rw [r11_fine_mon hp.mon, Option.bind_some]
  dsimp only
  have loop1 := rnames_loop (by omega) hdist hl p.1 hday p.2.2 hp.names p.2.1.1 p.2.1.2 p.2.2 rest p.2.2 0
    (Int.natAbs (cents p.2.1) + (List.length p.2.2 + (Int.natAbs ((List.length p.2.2 : Int)) + (Int.natAbs (0 : Int) + (Int.natAbs p.1 + (Int.natAbs p.2.1.1 + (Int.natAbs p.2.1.2 + (List.length p.2.2 + (List.length ds + (List.length (ar.map paid) + (List.length (ar.map taken) + (List.length (ar.map done) + (List.length rest + 2))))))))))))) (cents p.2.1, ar) rfl (by omega) (by omega) s0
  rw [show ((0 : Nat) : Int) = 0 from rfl] at loop1
  rw [loop1, joinB_inr]
  dsimp only
  have s1 : StOk ds (cents p.2.1) (cents p.2.1 + sumPaid ar) (p.2.2.foldl (stepN p.1 fun n => lastM n ds 0 none) (cents p.2.1, ar)) := foldN_ok hday s0
  have hone : onePay (fun n => lastM n ds 0 none) (ord.map some) p ar = (ord.map some).foldl (stepO p.1) (p.2.2.foldl (stepN p.1 fun n => lastM n ds 0 none) (cents p.2.1, ar)) := rfl
  rw [hone]
  generalize p.2.2.foldl (stepN p.1 fun n => lastM n ds 0 none) (cents p.2.1, ar) = s at s1 ⊢
  obtain ⟨o, h1, h2, h3⟩ := r11_soonest_eq hds hl (s.2.map paid) (s.2.map taken) (s.2.map done) rest
  have eo : o = ord := order_unique h1 ho1 h2 ho2
  subst eo
  rw [h3, Option.bind_some]
  dsimp only
  have hol : o.length = ds.length := by rw [h2.length]; simp
  have hom : ∀ j ∈ o, j < ds.length := by
    intro j hj
    exact List.mem_range.1 (h2.mem.1 hj)
  have loop2 := rorder_loop (by omega) p.1 hday o (by omega) hom p.2.1.1 p.2.1.2 p.2.2 rest o 0
    (Int.natAbs s.1 + (Int.natAbs ((List.length (o.map Int.ofNat) : Int)) + (Int.natAbs (0 : Int) + (Int.natAbs p.1 + (Int.natAbs p.2.1.1 + (Int.natAbs p.2.1.2 + (List.length p.2.2 + (List.length ds + (List.length (s.2.map paid) + (List.length (s.2.map taken) + (List.length (s.2.map done) + (List.length rest + (List.length (o.map Int.ofNat) + 2))))))))))))) s rfl (by omega) (by simp; omega) s1
  rw [show ((0 : Nat) : Int) = 0 from rfl, show ((o.length : Nat) : Int) = (List.length (o.map Int.ofNat) : Int) by simp] at loop2
  rw [loop2, joinB_inr]
  dsimp only
  rw [chk_pos (chk_app (by omega) (by omega))]

theorem payAll_late {find : List UInt8 → Option Nat} {order : List (Option Nat)} {day : Int} {ps : List D_api_Payment} {rest : List Int} {ar : List Bd} (h : ∀ q ∈ ps, day < q.1) : payAll find order day ps rest ar = (rest, ar) := by
  cases ps with
  | nil => rfl
  | cons p r => unfold payAll; rw [if_pos (h p (by simp))]

theorem rsettle_loop {ds : List D_api_Debt} (hds : ∀ d ∈ ds, DebtOk d) (hl : ds.length ≤ 200) (hdist : Dist ds) {ord : List Nat} (ho1 : Srt (keyN ds) ord) (ho2 : SamE (keyN ds) (List.range ds.length) ord) (day : Int) (ps : List D_api_Payment) (hps : ∀ p ∈ ps, PayOk p) (hpl : ps.length ≤ 500) :
    ∀ (r : List D_api_Payment) (i fuel : Nat) (rest : List Int) (ar : List Bd), ps.drop i = r → i ≤ ps.length → r.length < fuel → r.Pairwise (fun p q => p.1 ≤ q.1) → ArOk ds ar → rest.length + r.length ≤ 500 →
      iter (X := r11_settle_x4) (β := r11_settle_r4) fuel (day, ps, (ps.length : Int), (i : Int), ds, ar.map paid, ar.map taken, ar.map done, rest, ()) r11_settle_b4 =
        some (Sum.inr (ds, (payAll (fun n => lastM n ds 0 none) (ord.map some) day r rest ar).2.map paid, (payAll (fun n => lastM n ds 0 none) (ord.map some) day r rest ar).2.map taken, (payAll (fun n => lastM n ds 0 none) (ord.map some) day r rest ar).2.map done, (payAll (fun n => lastM n ds 0 none) (ord.map some) day r rest ar).1, ())) := by
  intro r
  induction r with
  | nil =>
    intro i fuel rest ar hd hi hf hs ha hr
    obtain ⟨fuel, rfl⟩ : ∃ m, fuel = m + 1 := ⟨fuel - 1, by simp at hf; omega⟩
    have : i = ps.length := by
      have := congrArg List.length hd
      simp at this; omega
    subst this
    rw [iter_succ]
    unfold r11_settle_b4
    dsimp only
    rw [bif_neg (by omega)]
    rfl
  | cons y r ih =>
    intro i fuel rest ar hd hi hf hs ha hrl
    obtain ⟨fuel, rfl⟩ : ∃ m, fuel = m + 1 := ⟨fuel - 1, by simp at hf; omega⟩
    have hy : ps[i]? = some y := by
      have := congrArg (·[0]?) hd
      simpa [List.getElem?_drop] using this
    have hr : ps.drop (i + 1) = r := by
      have := congrArg List.tail hd
      simpa [List.tail_drop] using this
    have hi' : i < ps.length := (List.getElem?_eq_some_iff.1 hy).1
    have hyo := hps y (List.mem_of_getElem? hy)
    obtain ⟨hs1, hs2⟩ := List.pairwise_cons.1 hs
    rw [iter_succ]
    generalize hag : (fun y => iter fuel y r11_settle_b4) = again
    unfold r11_settle_b4
    dsimp only
    rw [bif_pos (by omega), idx_nat, hy, Option.bind_some, w64_id (by omega) (by omega)]
    by_cases hc : y.1 ≤ day
    · have e : payAll (fun n => lastM n ds 0 none) (ord.map some) day (y :: r) rest ar = payAll (fun n => lastM n ds 0 none) (ord.map some) day r (rest ++ [(onePay (fun n => lastM n ds 0 none) (ord.map some) y ar).1]) (onePay (fun n => lastM n ds 0 none) (ord.map some) y ar).2 := by
        conv => lhs; unfold payAll
        rw [if_neg (by omega)]
      rw [bif_pos hc, r11_come_eq hds hl hdist ho1 ho2 hyo ha (by omega), Option.bind_some, e, ← hag]
      exact ih (i + 1) fuel _ _ hr hi' (by simp at hf; omega) hs2 (onePay_ok ha hyo).ar (by simp at hrl ⊢; omega)
    · have e : payAll (fun n => lastM n ds 0 none) (ord.map some) day (y :: r) rest ar = payAll (fun n => lastM n ds 0 none) (ord.map some) day r rest ar := by
        rw [payAll_late (fun q hq => by
          rcases List.mem_cons.1 hq with rfl | hq
          · omega
          · have := hs1 q hq; omega), payAll_late (fun q hq => by have := hs1 q hq; omega)]
      rw [bif_neg hc, e, ← hag]
      exact ih (i + 1) fuel _ _ hr hi' (by simp at hf; omega) hs2 ha (by simp at hrl ⊢; omega)

theorem arena0_lists (ds : List D_api_Debt) : (arena0 ds).map paid = List.replicate ds.length 0 ∧ (arena0 ds).map taken = List.replicate ds.length 0 ∧ (arena0 ds).map done = List.replicate ds.length 0 := by
  induction ds with
  | nil => exact ⟨rfl, rfl, rfl⟩
  | cons d r ih =>
    refine ⟨?_, ?_, ?_⟩
    · show (0 : Int) :: (arena0 r).map paid = _; rw [ih.1]; rfl
    · show (0 : Int) :: (arena0 r).map taken = _; rw [ih.2.1]; rfl
    · show (0 : Int) :: (arena0 r).map done = _; rw [ih.2.2]; rfl

theorem debts_dist {ds : List D_api_Debt} (h : debtsF ds = 0) : Dist ds := fun _ _ _ _ hx hy hn => debts_distinct h hx hy hn

theorem keyD_some (ds : List D_api_Debt) (j : Nat) : keyD (arena0 ds) (some j) = keyN ds j := by
  simp only [keyD, keyN, arena0, List.getElem?_map]
  cases ds[j]? <;> rfl

theorem order_some {ds : List D_api_Debt} {order : List (Option Nat)} (g1 : Srt (keyD (arena0 ds)) order) (g2 : SamE (keyD (arena0 ds)) ((List.range ds.length).map some) order) {ord : List Nat} (ho1 : Srt (keyN ds) ord) (ho2 : SamE (keyN ds) (List.range ds.length) ord) : order = ord.map some := by
  refine order_unique g1 ?_ g2 ?_
  · unfold Srt
    rw [List.pairwise_map]
    exact ho1.imp fun {a b} h => by rw [keyD_some, keyD_some]; exact h
  · refine ⟨ho2.perm.map some, fun v => ?_⟩
    have e : ∀ l : List Nat, (l.map some).filter (fun x => keyD (arena0 ds) x == v) = (l.filter (fun x => keyN ds x == v)).map some := by
      intro l
      rw [List.filter_map]
      congr 1
      apply List.filter_congr
      intro j _
      simp only [Function.comp_apply, keyD_some]
    rw [e, e, ho2.keys v]

theorem r11_settle_eq {ds : List D_api_Debt} {ps : List D_api_Payment} (hd : debtsF ds = 0) (hp : paysF ps = 0) (day : Int) {order : List (Option Nat)} (g1 : Srt (keyD (arena0 ds)) order) (g2 : SamE (keyD (arena0 ds)) ((List.range ds.length).map some) order) :
    r11_settle ds ps day = some ((ds, (payAll (fun n => lastM n ds 0 none) order day ps [] (arena0 ds)).2.map paid, (payAll (fun n => lastM n ds 0 none) order day ps [] (arena0 ds)).2.map taken, (payAll (fun n => lastM n ds 0 none) order day ps [] (arena0 ds)).2.map done, (payAll (fun n => lastM n ds 0 none) order day ps [] (arena0 ds)).1, ()), ()) := by
  obtain ⟨hl, hds⟩ := debtsF_zero hd
  obtain ⟨hpl, hps⟩ := paysF_zero hp
  obtain ⟨ord, ho1, ho2, _⟩ := r11_soonest_eq hds hl [] [] [] []
  have eo := order_some g1 g2 ho1 ho2
  subst eo
  obtain ⟨z1, z2, z3⟩ := arena0_lists ds
  unfold r11_settle
  have hch : (decide (0 ≤ ((List.length ds : Int))) && decide (((List.length ds : Int)) ≤ ((List.length ds : Int))) && decide ((8 : Int) * ((List.length ds : Int)) ≤ 281474976710656) && decide (((List.length ds : Int)) ≤ 9223372036854775807)) = true := by
    simp only [Bool.and_eq_true, decide_eq_true_eq]; omega
  rw [chk_pos hch, chk_pos hch, chk_pos hch, Int.toNat_natCast]
  have loop := rsettle_loop hds hl (debts_dist hd) ho1 ho2 day ps hps hpl ps 0 (Int.natAbs day + (List.length ps + (Int.natAbs ((List.length ps : Int)) + (Int.natAbs (0 : Int) + (List.length ds + (List.length ((List.replicate ds.length 0) : List Int) + (List.length ((List.replicate ds.length 0) : List Int) + (List.length ((List.replicate ds.length 0) : List Int) + (List.length ([] : List Int) + 2))))))))) [] (arena0 ds) rfl (by omega) (by omega) (pays_sorted hp) (arena0_ok hds) (by simp; omega)
  rw [show ((0 : Nat) : Int) = 0 from rfl, z1, z2, z3] at loop
  rw [loop, joinB_inr]

end Go.Md

namespace Go.Md
open Go.Dn

theorem r1_Normal_eq (z : Int) (hz : z.natAbs ≤ 9000000000000000000) (p : Nat) (hp : p ≤ 1000) : r1_Normal (z, (p : Int)) = some (((few p z).1, ((few p z).2 : Int)), ()) := by
  have loop : ∀ (n : Nat) (z : Int) (p : Nat), z.natAbs ≤ 9000000000000000000 → p ≤ 1000 → p < n → iter (X := r1_Normal_x1) (β := r1_Normal_r1) n (z, (p : Int), 0, 0, ()) r1_Normal_b1 = some (Sum.inr ((few p z).1, ((few p z).2 : Int), 0, 0, ())) := by
    intro n
    induction n with
    | zero => intro z p _ _ h; omega
    | succ n ih =>
      intro z p hz hp hn
      rw [iter_succ]
      generalize hag : (fun y => iter n y r1_Normal_b1) = again
      unfold r1_Normal_b1
      dsimp only
      cases p with
      | zero => rw [bif_neg (by omega)]; rfl
      | succ p =>
        rw [bif_pos (by omega)]
        by_cases hm : z % 10 = 0
        · have h1 : Int.tmod z 10 = 0 := Int.tmod_eq_zero_of_dvd (Int.dvd_of_emod_eq_zero hm)
          have h2 : Int.tdiv z 10 = z / 10 := Int.tdiv_eq_ediv_of_dvd (Int.dvd_of_emod_eq_zero hm)
          have e : few (p + 1) z = few p (z / 10) := by simp [few, hm]
          rw [h1, h2, show ((0 : Int) == 0) = true from rfl, cond_true, w64_id (by omega) (by omega), w64_id (by omega) (by omega), e, ← hag, show ((p + 1 : Nat) : Int) - 1 = (p : Int) by omega]
          exact ih (z / 10) p (by omega) (by omega) (by omega)
        · have h1 : (Int.tmod z 10 == 0) = false := by
            simp only [beq_eq_false_iff_ne, ne_eq]
            intro h
            exact hm (Int.emod_eq_zero_of_dvd (Int.dvd_of_tmod_eq_zero h))
          have e : few (p + 1) z = (z, p + 1) := by simp [few, hm]
          rw [h1, cond_false, e]
  unfold r1_Normal
  dsimp only
  rw [loop _ z p hz hp (by omega), joinB_inr]

theorem r11_coarse_eq (n : Int) (h : n.natAbs ≤ 9000000000000000000) : r11_coarse n = some (told n, ()) := by
  unfold r11_coarse
  have := r1_Normal_eq n h 4 (by omega)
  rw [show ((4 : Nat) : Int) = 4 from rfl] at this
  rw [this]
  rfl

theorem payAll_len {find : List UInt8 → Option Nat} {order : List (Option Nat)} {day : Int} : ∀ (ps : List D_api_Payment) (rest : List Int) (ar : List Bd), (payAll find order day ps rest ar).1.length ≤ rest.length + ps.length
  | [], rest, ar => by simp [payAll]
  | p :: r, rest, ar => by
    unfold payAll
    split
    · simp
    · refine Nat.le_trans (payAll_len r _ _) ?_
      simp; omega

theorem r11_Pay_eq (ds : List D_api_Debt) (ps : List D_api_Payment) : bill_Pay ds ps = r11_Pay ds ps := by
  unfold r11_Pay
  rw [r11_askPay_eq, Option.bind_some]
  dsimp only
  rcases bill_Pay_eq ds ps with ⟨f, h1, h2, h3⟩ | ⟨h1, h2, order, g1, g2, g3⟩
  · rw [h2, ← h3]
    have : (f != 0) = true := by simp [h1]
    rw [this, cond_true]
  · rw [g3, if_neg (not_not_intro h1), h2, show ((0 : Int) != 0) = false from rfl, cond_false, r11_settle_eq h1 h2 3652059 g1 g2, Option.bind_some]
    dsimp only
    obtain ⟨hl, hds⟩ := debtsF_zero h1
    obtain ⟨hpl, hps⟩ := paysF_zero h2
    obtain ⟨ha, hrest⟩ := payAll_ok (find := fun n => lastM n ds 0 none) (order := order) (day := 3652059) hps (arena0_ok hds) (rest := []) (by simp)
    have hrl := payAll_len (find := fun n => lastM n ds 0 none) (order := order) (day := 3652059) ps [] (arena0 ds)
    generalize payAll (fun n => lastM n ds 0 none) order 3652059 ps [] (arena0 ds) = X at ha hrest hrl ⊢
    obtain ⟨rest, ar⟩ := X
    dsimp only at ha hrest hrl ⊢
    have hrl' : rest.length ≤ 500 := by simp at hrl; omega
    have hal := ha.len
    have loop1 := iter_post (f := r11_Pay_b7) (fun i x => x = ((ar.take i).map paidOf, ds, (ds.length : Int), (i : Int), ds, ar.map paid, ar.map taken, ar.map done, rest, ())) ds.length
      (fun r => r = some (Sum.inr (ar.map paidOf, ds, ar.map paid, ar.map taken, ar.map done, rest, ())))
      (by
        intro i x again hi hx hag
        subst hx
        have hxi := getElem?_of (l := ar) (i := i) (by omega)
        generalize ar[i] = x at hxi
        have ok := ha.get hxi
        have hle := ok.le
        have p0 := ok.paid0
        have t0 := ok.taken0
        unfold r11_Pay_b7
        dsimp only
        have hch : (decide (0 ≤ (i : Int)) && decide ((i : Int) < (ar.length : Int))) = true := by simp only [Bool.and_eq_true, decide_eq_true_eq]; omega
        rw [bif_pos (by omega), idx_nat, ha.dget hxi, Option.bind_some]
        simp only [List.length_map, Int.toNat_natCast, List.getElem?_map, hxi, Option.map_some, Option.bind_some]
        rw [chk_pos hch, r11_coarse_eq _ (by omega), Option.bind_some, chk_pos hch, r11_coarse_eq _ (by omega), Option.bind_some, chk_pos hch, chk_pos (chk_app (by rw [List.length_take]; omega) (by rw [List.length_take]; omega)), w64_id (by omega) (by omega)]
        apply hag
        rw [List.take_succ, hxi, List.map_append]
        rfl)
      (by
        intro x again hx
        subst hx
        unfold r11_Pay_b7
        dsimp only
        rw [bif_neg (by omega), List.take_of_length_le (by omega)])
      (List.length ([] : List D_api_Paid) + (List.length ds + (Int.natAbs ((List.length ds : Int)) + (Int.natAbs (0 : Int) + (List.length ds + (List.length (ar.map paid) + (List.length (ar.map taken) + (List.length (ar.map done) + (List.length rest + 2)))))))))
      0 ([], ds, (ds.length : Int), 0, ds, ar.map paid, ar.map taken, ar.map done, rest, ()) (by simp) (by omega) (by omega)
    rw [loop1, joinB_inr]
    dsimp only
    have loop2 := iter_post (f := r11_Pay_b13) (fun i x => x = (ar.map paidOf, (rest.take i).map told, (rest.length : Int), (i : Int), rest, ())) rest.length
      (fun r => r = some (Sum.inr (ar.map paidOf, rest.map told, ())))
      (by
        intro i x again hi hx hag
        subst hx
        have hxi := getElem?_of (l := rest) (i := i) (by omega)
        have hb := hrest _ (List.mem_of_getElem? hxi)
        generalize rest[i] = n at hxi hb
        unfold r11_Pay_b13
        dsimp only
        rw [bif_pos (by omega), chk_pos (by simp only [Bool.and_eq_true, decide_eq_true_eq]; omega), Int.toNat_natCast, hxi, Option.bind_some, r11_coarse_eq _ (by omega), Option.bind_some, chk_pos (chk_app (by rw [List.length_map, List.length_take]; omega) (by rw [List.length_map, List.length_take]; omega)), w64_id (by omega) (by omega)]
        apply hag
        rw [List.take_succ, hxi, List.map_append]
        rfl)
      (by
        intro x again hx
        subst hx
        unfold r11_Pay_b13
        dsimp only
        rw [bif_neg (by omega), List.take_of_length_le (by omega)])
      (List.length (ar.map paidOf) + (List.length ([] : List D_api_Decimal) + (Int.natAbs ((List.length rest : Int)) + (Int.natAbs (0 : Int) + (List.length rest + 2)))))
      0 (ar.map paidOf, [], (rest.length : Int), 0, rest, ()) (by simp) (by omega) (by omega)
    rw [loop2, joinB_inr]

theorem eq_paid (l : List D_api_Paid) (hl : l.length < 1000000000) : slices_Equal_api_Paid l l = some (true, ()) := by
  unfold slices_Equal_api_Paid
  rw [show ((l.length : Int) != (l.length : Int)) = false by simp, cond_false]
  have loop := iter_scan2 (f := slices_Equal_api_Paid_b4) (fun i => (l, l, (l.length : Int), (i : Int), ())) l (fun _ _ => 0) (some (Sum.inr ())) (fun _ => some (Sum.inl (false, ())))
    (fun i y again hi => by
      have hil := (List.getElem?_eq_some_iff.1 hi).1
      unfold slices_Equal_api_Paid_b4
      dsimp only
      rw [bif_pos (by omega), idx_nat, hi, Option.bind_some, Option.bind_some, w64_id (by omega) (by omega)]
      simp)
    (fun again => by
      unfold slices_Equal_api_Paid_b4
      dsimp only
      rw [bif_neg (by omega)])
    l 0 (List.length l + (List.length l + (Int.natAbs ((List.length l : Int)) + (Int.natAbs (0 : Int) + 2)))) rfl (by omega) (by omega)
  rw [show ((0 : Nat) : Int) = 0 from rfl] at loop
  have hz : scanF (fun (_ : Nat) (_ : D_api_Paid) => (0 : Int)) 0 l = 0 := by
    have : ∀ (l : List D_api_Paid) (i : Nat), scanF (fun (_ : Nat) (_ : D_api_Paid) => (0 : Int)) i l = 0 := by
      intro l
      induction l with
      | nil => intro i; rfl
      | cons y r ih => intro i; simp only [scanF, if_true]; exact ih (i + 1)
    exact this l 0
  rw [loop, if_pos hz, joinB_inr]

theorem eq_dec (l : List D_api_Decimal) (hl : l.length < 1000000000) : slices_Equal_api_Decimal l l = some (true, ()) := by
  unfold slices_Equal_api_Decimal
  rw [show ((l.length : Int) != (l.length : Int)) = false by simp, cond_false]
  have loop := iter_scan2 (f := slices_Equal_api_Decimal_b4) (fun i => (l, l, (l.length : Int), (i : Int), ())) l (fun _ _ => 0) (some (Sum.inr ())) (fun _ => some (Sum.inl (false, ())))
    (fun i y again hi => by
      have hil := (List.getElem?_eq_some_iff.1 hi).1
      unfold slices_Equal_api_Decimal_b4
      dsimp only
      rw [bif_pos (by omega), idx_nat, hi, Option.bind_some, Option.bind_some, w64_id (by omega) (by omega)]
      simp)
    (fun again => by
      unfold slices_Equal_api_Decimal_b4
      dsimp only
      rw [bif_neg (by omega)])
    l 0 (List.length l + (List.length l + (Int.natAbs ((List.length l : Int)) + (Int.natAbs (0 : Int) + 2)))) rfl (by omega) (by omega)
  rw [show ((0 : Nat) : Int) = 0 from rfl] at loop
  have hz : scanF (fun (_ : Nat) (_ : D_api_Decimal) => (0 : Int)) 0 l = 0 := by
    have : ∀ (l : List D_api_Decimal) (i : Nat), scanF (fun (_ : Nat) (_ : D_api_Decimal) => (0 : Int)) i l = 0 := by
      intro l
      induction l with
      | nil => intro i; rfl
      | cons y r ih => intro i; simp only [scanF, if_true]; exact ih (i + 1)
    exact this l 0
  rw [loop, if_pos hz, joinB_inr]

theorem paysMatchSpec (ds : List D_api_Debt) (ps : List D_api_Payment) : l11_BillPaysMatchSpec ds ps = some (true, ()) := by
  unfold l11_BillPaysMatchSpec
  rw [← r11_Pay_eq, bill_CheckDebts_eq, r11_CheckDebts_eq, bill_CheckPayments_eq, r11_CheckPayments_eq]
  have hlen : ∃ A B f, bill_Pay ds ps = some (A, B, f, ()) ∧ A.length < 1000000000 ∧ B.length < 1000000000 := by
    rcases bill_Pay_eq ds ps with ⟨f, _, h2, _⟩ | ⟨h1, h2, order, _, _, g3⟩
    · exact ⟨_, _, _, h2, by simp, by simp⟩
    · obtain ⟨hl, hds⟩ := debtsF_zero h1
      obtain ⟨hpl, hps⟩ := paysF_zero h2
      refine ⟨_, _, _, g3, ?_, ?_⟩
      · have := (payAll_ok (find := fun n => lastM n ds 0 none) (order := order) (day := 3652059) hps (arena0_ok hds) (rest := []) (by simp)).1.len
        rw [List.length_map]; omega
      · have := payAll_len (find := fun n => lastM n ds 0 none) (order := order) (day := 3652059) ps [] (arena0 ds)
        rw [List.length_map]; simp at this; omega
  obtain ⟨A, B, f, h1, h2, h3⟩ := hlen
  rw [h1, Option.bind_some, Option.bind_some, Option.bind_some, Option.bind_some]
  dsimp only
  rw [show ((if 200 < ds.length then 2 else scanF (debtF ds) 0 ds) == debtsF ds) = true by simp [debtsF], cond_true, Option.bind_some, Option.bind_some]
  dsimp only
  rw [show ((if 500 < ps.length then 2 else scanF (payF ps) 0 ps) == paysF ps) = true by simp [paysF], cond_true, show (f == f) = true by simp, cond_true, eq_paid A h2, Option.bind_some]
  dsimp only
  rw [cond_true, eq_dec B h3, Option.bind_some]
  dsimp only
  rw [cond_true, l11_awake_eq, Option.bind_some]

end Go.Md

namespace Go.Md
open Go.Dn

theorem r11_owing_eq {ds : List D_api_Debt} {ps : List D_api_Payment} (hd : debtsF ds = 0) (hp : paysF ps = 0) (day : Int) (hday : 1 ≤ day ∧ day ≤ 3652059) {order : List (Option Nat)} (g1 : Srt (keyD (arena0 ds)) order) (g2 : SamE (keyD (arena0 ds)) ((List.range ds.length).map some) order) :
    r11_owing ds ps day = some (((payAll (fun n => lastM n ds 0 none) order day ps [] (arena0 ds)).2.filter (thereD day)).map (owedOf day), ()) := by
  obtain ⟨hl, hds⟩ := debtsF_zero hd
  obtain ⟨hpl, hps⟩ := paysF_zero hp
  unfold r11_owing
  rw [r11_settle_eq hd hp day g1 g2, Option.bind_some]
  dsimp only
  obtain ⟨ha, hrest⟩ := payAll_ok (find := fun n => lastM n ds 0 none) (order := order) (day := day) hps (arena0_ok hds) (rest := []) (by simp)
  generalize payAll (fun n => lastM n ds 0 none) order day ps [] (arena0 ds) = X at ha hrest ⊢
  obtain ⟨rest, ar⟩ := X
  dsimp only at ha hrest ⊢
  have hal := ha.len
  have loop := iter_post (f := r11_owing_b4) (fun i x => x = (day, ((ar.take i).filter (thereD day)).map (owedOf day), ds, (ds.length : Int), (i : Int), ds, ar.map paid, ar.map taken, ar.map done, rest, ())) ds.length
    (fun r => r = some (Sum.inr ((ar.filter (thereD day)).map (owedOf day), ())))
    (by
      intro i x again hi hx hag
      subst hx
      have hxi := getElem?_of (l := ar) (i := i) (by omega)
      generalize ar[i] = x at hxi
      have ok := ha.get hxi
      have hle := ok.le
      have o0 := ok.owes0
      unfold r11_owing_b4
      dsimp only
      rw [bif_pos (by omega), idx_nat, ha.dget hxi, Option.bind_some, rac_there ha hxi, Option.bind_some, w64_id (n := (i : Int) + 1) (by omega) (by omega)]
      dsimp only
      have htk : (ar.take (i + 1)).filter (thereD day) = (ar.take i).filter (thereD day) ++ (if thereD day x = true then [x] else []) := by
        rw [List.take_succ, hxi, List.filter_append]
        congr 1
        cases ht : thereD day x <;> simp [ht]
      cases ht : thereD day x with
      | false =>
        rw [cond_false]
        apply hag
        rw [htk, ht, if_neg (by simp), List.append_nil]
        rfl
      | true =>
        have hd0 : done x = 0 := by
          simp only [thereD, Bool.and_eq_true, beq_iff_eq] at ht
          exact ht.2
        have hfl : ((ar.take i).filter (thereD day)).length ≤ i := by
          have := List.length_filter_le (thereD day) (ar.take i)
          rw [List.length_take] at this
          omega
        rw [cond_true, rac_owed ha hxi (q := paid x) (by rw [List.getElem?_map, hxi]; rfl) ok.paid0 hle.2.1, Option.bind_some, owes_there ok hd0]
        dsimp only
        rw [r11_coarse_eq _ (by omega), Option.bind_some, chk_pos (chk_app (by rw [List.length_map]; omega) (by rw [List.length_map]; omega))]
        apply hag
        rw [htk, ht, if_pos rfl, List.map_append]
        have d0 := ok.d.day0; have d1 := ok.d.day1; have d2 := ok.d.days0; have d3 := ok.d.days1
        have hlate : (if w64 (w64 (day - x.1.2.1) - x.1.2.2.2.1) > 0 then w64 (w64 (day - x.1.2.1) - x.1.2.2.2.1) else 0) = lateD day x := by
          rw [w64_id (n := day - x.1.2.1) (by omega) (by omega), w64_id (by omega) (by omega)]
          unfold lateD
          split <;> omega
        rw [hlate]
        rfl)
    (by
      intro x again hx
      subst hx
      unfold r11_owing_b4
      dsimp only
      rw [bif_neg (by omega), List.take_of_length_le (by omega)])
    (Int.natAbs day + (List.length ([] : List D_api_Owed) + (List.length ds + (Int.natAbs ((List.length ds : Int)) + (Int.natAbs (0 : Int) + (List.length ds + (List.length (ar.map paid) + (List.length (ar.map taken) + (List.length (ar.map done) + (List.length rest + 2))))))))))
    0 (day, [], ds, (ds.length : Int), 0, ds, ar.map paid, ar.map taken, ar.map done, rest, ()) (by simp) (by omega) (by omega)
  rw [loop, joinB_inr]

theorem r11_OpenAt_eq (ds : List D_api_Debt) (ps : List D_api_Payment) (day : Int) : bill_OpenAt ds ps day = r11_OpenAt ds ps day := by
  unfold r11_OpenAt
  rw [r11_askPay_eq, Option.bind_some]
  dsimp only
  rcases bill_OpenAt_eq ds ps day with ⟨h1, h2⟩ | ⟨h1, h2, h3, h4⟩ | ⟨h1, h2, h3, order, g1, g2, g3⟩
  · rw [h2]
    have : ((if debtsF ds ≠ 0 then debtsF ds else paysF ps) != 0) = true := by simpa using h1
    rw [this, cond_true]
  · rw [h4, if_neg (not_not_intro h1), h2, show ((0 : Int) != 0) = false from rfl, cond_false, r1_IsDay_eq, Option.bind_some]
    dsimp only
    rw [decide_eq_false h3]; rfl
  · rw [g3, if_neg (not_not_intro h1), h2, show ((0 : Int) != 0) = false from rfl, cond_false, r1_IsDay_eq, Option.bind_some]
    dsimp only
    rw [decide_eq_true h3, Bool.not_true, cond_false, r11_owing_eq h1 h2 day h3 g1 g2]
    rfl

theorem tw_lt {p : Int → Bool} : ∀ {l : List Int} {i : Nat}, i < (l.takeWhile p).length → ∃ y, l[i]? = some y ∧ p y = true
  | [], i, h => by simp at h
  | z :: r, i, h => by
    cases hp : p z with
    | false => rw [List.takeWhile_cons_of_neg (by simp [hp])] at h; simp at h
    | true =>
      rw [List.takeWhile_cons_of_pos hp] at h
      cases i with
      | zero => exact ⟨z, rfl, hp⟩
      | succ i => exact tw_lt (l := r) (by simpa using h)
theorem tw_end {p : Int → Bool} : ∀ {l : List Int} {y : Int}, l[(l.takeWhile p).length]? = some y → p y = false
  | [], y, h => by simp at h
  | z :: r, y, h => by
    cases hp : p z with
    | false => rw [List.takeWhile_cons_of_neg (by simp [hp])] at h; simp at h; rw [← h]; exact hp
    | true =>
      rw [List.takeWhile_cons_of_pos hp] at h
      exact tw_end (l := r) (by simpa using h)

theorem r_bucket (steps : List Int) (hsl : steps.length ≤ 20) (O : List D_api_Owed) (g1 g2 : Int) (n : List UInt8) (g3 g4 late : Int) (sums : List Int) (fuel : Nat) (hf : steps.length < fuel) :
    iter (X := r11_Ages_x21) (β := r11_Ages_r21) fuel (steps, 0, O, g1, g2, n, g3, g4, late, sums, ()) r11_Ages_b21 = some (Sum.inr (steps, (bkt steps late : Int), O, g1, g2, n, g3, g4, late, sums, ())) := by
  have hb := bkt_le steps late
  exact iter_post (f := r11_Ages_b21) (fun i x => x = (steps, (i : Int), O, g1, g2, n, g3, g4, late, sums, ())) (bkt steps late)
    (fun r => r = some (Sum.inr (steps, (bkt steps late : Int), O, g1, g2, n, g3, g4, late, sums, ())))
    (by
      intro i x again hi hx hag
      subst hx
      obtain ⟨y, hy, hp⟩ := tw_lt hi
      have hle : y ≤ late := by simpa using hp
      unfold r11_Ages_b21
      dsimp only
      rw [bif_pos (by omega), idx_nat, hy, Option.bind_some, bif_pos hle, w64_id (by omega) (by omega)]
      exact hag _ rfl)
    (by
      intro x again hx
      subst hx
      unfold r11_Ages_b21
      dsimp only
      by_cases h : bkt steps late = steps.length
      · rw [bif_neg (by omega)]
      · have hy := getElem?_of (l := steps) (i := bkt steps late) (by omega)
        have hp := tw_end hy
        have hlt : ¬ (late ≥ steps[bkt steps late]) := by simpa using hp
        rw [bif_pos (by omega), idx_nat, hy, Option.bind_some, bif_neg hlt])
    fuel 0 _ rfl (by omega) (by omega)

theorem told_nonneg {n : Int} (h : 0 ≤ n) : 0 ≤ (few 4 n).1 := by
  have h1 := (few_val 4 n).2.1
  rcases Int.lt_or_le (few 4 n).1 0 with h2 | h2
  · have := Int.mul_neg_of_neg_of_pos h2 (pow10_pos (4 - (few 4 n).2))
    omega
  · exact h2
theorem fine_told {n : Int} (h0 : 0 ≤ n) (h1 : n ≤ 10000000000000) : r11_fine ((told n).1, (told n).2) = some (n, ()) := by
  obtain ⟨a, b, c⟩ := few_val 4 n
  have h2 := told_nonneg h0
  have := r11_fine_eq (few 4 n).1 ((few 4 n).2 : Int) (by omega) (by omega) h2 (by omega)
  show r11_fine ((few 4 n).1, ((few 4 n).2 : Int)) = _
  rw [this, show (4 - ((few 4 n).2 : Int)).toNat = 4 - (few 4 n).2 by omega, b]

end Go.Md

namespace Go.Md
open Go.Dn

theorem r_ages_sums {F : List Bd} (hF : ∀ x ∈ F, BdOk x) (hFl : F.length ≤ 200) (day : Int) (steps : List Int) (hsl : steps.length ≤ 20) (fuel : Nat) (hf : F.length < fuel) :
    iter (X := r11_Ages_x18) (β := r11_Ages_r18) fuel (steps, F.map (owedOf day), (F.length : Int), 0, List.replicate (steps.length + 1) 0, ()) r11_Ages_b18 =
      some (Sum.inr (F.foldl (fun s x => addAt s (bkt steps (lateD day x)) (owes x)) (List.replicate (steps.length + 1) 0), ())) := by
  refine iter_post (f := r11_Ages_b18) (fun i x => x = (steps, F.map (owedOf day), (F.length : Int), (i : Int), (F.take i).foldl (fun s x => addAt s (bkt steps (lateD day x)) (owes x)) (List.replicate (steps.length + 1) 0), ())) F.length
    (fun r => r = some (Sum.inr (F.foldl (fun s x => addAt s (bkt steps (lateD day x)) (owes x)) (List.replicate (steps.length + 1) 0), ()))) ?_ ?_ fuel 0 _ (by simp) (by omega) (by omega)
  · intro i x again hi hx hag
    subst hx
    have hxi := getElem?_of (l := F) (i := i) hi
    generalize F[i] = x at hxi
    have ok := hF x (List.mem_of_getElem? hxi)
    have o0 := ok.owes0
    have hle := ok.le
    obtain ⟨f1, f2, f3⟩ := foldAges (steps := steps) (day := day) (F.take i) (List.replicate (steps.length + 1) 0) (by simp) (fun y hy => hF y (List.mem_of_mem_take hy)) (by
      intro n hn; rw [(List.mem_replicate.1 hn).2]; exact Int.le_refl 0)
    have hstep : (F.take (i + 1)).foldl (fun s x => addAt s (bkt steps (lateD day x)) (owes x)) (List.replicate (steps.length + 1) 0) = addAt ((F.take i).foldl (fun s x => addAt s (bkt steps (lateD day x)) (owes x)) (List.replicate (steps.length + 1) 0)) (bkt steps (lateD day x)) (owes x) := by
      rw [List.take_succ, hxi, List.foldl_append]; rfl
    have hsum := sum_owes_le (l := F.take i) (fun y hy => hF y (List.mem_of_mem_take hy))
    rw [List.length_take] at hsum
    have hrep : (List.replicate (steps.length + 1) (0 : Int)).sum = 0 := by simp
    generalize hS : (F.take i).foldl (fun s x => addAt s (bkt steps (lateD day x)) (owes x)) (List.replicate (steps.length + 1) 0) = S at *
    have hb := bkt_le steps (lateD day x)
    have hk : bkt steps (lateD day x) < S.length := by omega
    have hq := getElem?_of hk
    have hqb := (le_sum f3).2 _ (List.mem_of_getElem? hq)
    have hq0 := f3 _ (List.mem_of_getElem? hq)
    have hadd : addAt S (bkt steps (lateD day x)) (owes x) = S.set (bkt steps (lateD day x)) (S[bkt steps (lateD day x)] + owes x) := by
      unfold addAt
      rw [List.getD_eq_getElem?_getD, hq]; rfl
    unfold r11_Ages_b18
    dsimp only
    rw [bif_pos (by omega), idx_nat, List.getElem?_map, hxi, Option.map_some, Option.bind_some, r_bucket steps hsl _ _ _ _ _ _ _ _ _ (by omega), joinB_inr]
    dsimp only
    rw [show (owedOf day x).2.2 = lateD day x from rfl, chk_pos (by simp only [Bool.and_eq_true, decide_eq_true_eq]; omega), Int.toNat_natCast]
    rw [hq, Option.bind_some]
    rw [show r11_fine ((owedOf day x).2.1.1, (owedOf day x).2.1.2) = some (owes x, ()) from fine_told o0 hle.1, Option.bind_some, chk_pos (by simp only [Bool.and_eq_true, decide_eq_true_eq]; omega), Option.bind_some]
    apply hag
    rw [hstep, hadd]
    dsimp only
    rw [w64_id (n := (i : Int) + 1) (by omega) (by omega), w64_id (by omega) (by omega)]
    rfl
  · intro x again hx
    subst hx
    unfold r11_Ages_b18
    dsimp only
    rw [bif_neg (by omega), List.take_of_length_le (Nat.le_refl _)]

theorem r_ages_told (S : List Int) (hS : ∀ n ∈ S, 0 ≤ n ∧ n ≤ 9000000000000000) (hSl : S.length ≤ 100) (fuel : Nat) (hf : S.length < fuel) :
    iter (X := r11_Ages_x27) (β := r11_Ages_r27) fuel ([], (S.length : Int), 0, S, ()) r11_Ages_b27 = if scanF moneyF 0 S = 0 then some (Sum.inr (S.map told, ())) else some (Sum.inl ([], 1, ())) := by
  have loop := iter_scan2 (f := r11_Ages_b27) (fun i => ((S.take i).map told, (S.length : Int), (i : Int), S, ())) S moneyF (some (Sum.inr (S.map told, ()))) (fun _ => some (Sum.inl ([], 1, ())))
    (fun i n again hi => by
      have hil := (List.getElem?_eq_some_iff.1 hi).1
      have hb := hS n (List.mem_of_getElem? hi)
      have h0 := told_nonneg hb.1
      unfold r11_Ages_b27
      dsimp only
      rw [bif_pos (by omega), chk_pos (by simp only [Bool.and_eq_true, decide_eq_true_eq]; omega), Int.toNat_natCast, hi, Option.bind_some, r11_coarse_eq _ (by omega), Option.bind_some]
      dsimp only
      have e1 : (told n).1 = (few 4 n).1 := rfl
      rw [e1]
      unfold moneyF
      by_cases hm : (few 4 n).1.natAbs ≤ 1000000000000000
      · rw [bif_neg (by omega), if_pos hm, if_pos rfl, chk_pos (chk_app (by rw [List.length_map, List.length_take]; omega) (by rw [List.length_map, List.length_take]; omega)), w64_id (by omega) (by omega)]
        rw [List.take_succ, hi, List.map_append]
        rfl
      · rw [bif_pos (by omega), if_neg hm, if_neg (by omega)])
    (fun again => by
      unfold r11_Ages_b27
      dsimp only
      rw [bif_neg (by omega), List.take_of_length_le (Nat.le_refl _)])
    S 0 fuel rfl (by omega) hf
  exact loop

theorem r11_Ages_eq (ds : List D_api_Debt) (ps : List D_api_Payment) (day : Int) (steps : List Int) : bill_Ages ds ps day steps = r11_Ages ds ps day steps := by
  unfold r11_Ages
  rw [r11_askPay_eq, Option.bind_some]
  dsimp only
  by_cases hf : (if debtsF ds ≠ 0 then debtsF ds else paysF ps) = 0
  · have h1 : debtsF ds = 0 := by
      by_cases h : debtsF ds = 0
      · exact h
      · rw [if_pos h] at hf; exact hf
    have h2 : paysF ps = 0 := by rw [if_neg (not_not_intro h1)] at hf; exact hf
    rw [hf, show ((0 : Int) != 0) = false from rfl, cond_false, r1_IsDay_eq, Option.bind_some]
    dsimp only
    by_cases hday : 1 ≤ day ∧ day ≤ 3652059
    · rw [decide_eq_true hday, Bool.not_true, cond_false]
      obtain ⟨hl, hds⟩ := debtsF_zero h1
      obtain ⟨hpl, hps⟩ := paysF_zero h2
      have scan : steps.length ≤ 20 → iter (X := r11_Ages_x9) (β := r11_Ages_r9) (List.length ds + (List.length ps + (Int.natAbs day + (List.length steps + (List.length steps + (Int.natAbs ((List.length steps : Int)) + (Int.natAbs (0 : Int) + 2))))))) (ds, ps, day, steps, steps, (List.length steps : Int), 0, ()) r11_Ages_b9 =
          if scanF (stepF steps) 0 steps = 0 then some (Sum.inr (ds, ps, day, steps, ())) else some (Sum.inl ([], scanF (stepF steps) 0 steps, ())) := by
        intro hsl
        have loop := iter_scan2 (f := r11_Ages_b9) (fun i => (ds, ps, day, steps, steps, (steps.length : Int), (i : Int), ())) steps (stepF steps) (some (Sum.inr (ds, ps, day, steps, ()))) (fun f => some (Sum.inl ([], f, ())))
          (fun i n again hi => by
            have hil := (List.getElem?_eq_some_iff.1 hi).1
            unfold r11_Ages_b9
            dsimp only
            rw [bif_pos (by omega), idx_nat, hi, Option.bind_some, r1_IsDay_eq, Option.bind_some, w64_id (n := (i : Int) + 1) (by omega) (by omega)]
            dsimp only
            by_cases hn : 1 ≤ n ∧ n ≤ 3652059
            · rw [decide_eq_true hn, Bool.not_true, cond_false]
              cases i with
              | zero =>
                have hst : stepF steps 0 n = 0 := by unfold stepF; rw [if_neg (not_not_intro hn)]
                rw [bif_neg (by simp), hst]; rfl
              | succ j =>
                have hj := getElem?_of (l := steps) (i := j) (by omega)
                have e1 : w64 (((j + 1 : Nat) : Int) - 1) = (j : Int) := by rw [w64_id (by omega) (by omega)]; omega
                have hst : stepF steps (j + 1) n = if n ≤ steps[j] then 8 else 0 := by
                  unfold stepF
                  rw [if_neg (not_not_intro hn)]
                  simp only [hj]
                rw [bif_pos (by omega), e1, idx_nat, hj, Option.bind_some, hst]
                by_cases hc : n ≤ steps[j]
                · rw [bif_pos hc, if_pos hc]; rfl
                · rw [bif_neg hc, if_neg hc]; rfl
            · have hst : stepF steps i n = 1 := by unfold stepF; rw [if_pos hn]
              rw [decide_eq_false hn, Bool.not_false, cond_true, hst]; rfl)
          (fun again => by
            unfold r11_Ages_b9
            dsimp only
            rw [bif_neg (by omega)])
          steps 0 (List.length ds + (List.length ps + (Int.natAbs day + (List.length steps + (List.length steps + (Int.natAbs ((List.length steps : Int)) + (Int.natAbs (0 : Int) + 2))))))) rfl (by omega) (by omega)
        exact loop
      rcases bill_Ages_eq ds ps h1 h2 day hday steps with ⟨a1, a2⟩ | ⟨a1, a2, a3⟩ | ⟨a1, a2, order, g1, g2, g3⟩
      · rw [a2, bif_pos (by omega)]
      · rw [a3, bif_neg (by omega), scan a1, if_neg a2, joinB_inl]
      · rw [g3, bif_neg (by omega), scan a1, if_pos a2, joinB_inr]
        dsimp only
        rw [w64_id (by omega) (by omega), chk_pos (by simp only [Bool.and_eq_true, decide_eq_true_eq]; omega), r11_owing_eq h1 h2 day hday g1 g2, Option.bind_some]
        dsimp only
        have ha := (payAll_ok (find := fun n => lastM n ds 0 none) (order := order) (day := day) hps (arena0_ok hds) (rest := []) (by simp)).1
        unfold ageSums
        generalize (payAll (fun n => lastM n ds 0 none) order day ps [] (arena0 ds)).2 = ar at ha ⊢
        have hal := ha.len
        have hF : ∀ x ∈ ar.filter (thereD day), BdOk x := fun x hx => ha.ok x (List.mem_filter.1 hx).1
        have hFl : (ar.filter (thereD day)).length ≤ 200 := Nat.le_trans (List.length_filter_le _ _) (by omega)
        generalize ar.filter (thereD day) = F at hF hFl ⊢
        have e0 : (((steps.length : Int) + 1)).toNat = steps.length + 1 := by omega
        rw [e0, show (List.length (F.map (owedOf day)) : Int) = (F.length : Int) by simp]
        rw [r_ages_sums hF hFl day steps a1 _ (by simp <;> omega), joinB_inr]
        dsimp only
        obtain ⟨f1, f2, f3⟩ := foldAges (steps := steps) (day := day) F (List.replicate (steps.length + 1) 0) (by simp) hF (by
          intro n hn; rw [(List.mem_replicate.1 hn).2]; exact Int.le_refl 0)
        have hsum := sum_owes_le hF
        have hrep : (List.replicate (steps.length + 1) (0 : Int)).sum = 0 := by simp
        generalize F.foldl (fun s x => addAt s (bkt steps (lateD day x)) (owes x)) (List.replicate (steps.length + 1) 0) = S at f1 f2 f3 ⊢
        rw [r_ages_told S (fun n hn => ⟨f3 n hn, by have := (le_sum f3).2 n hn; omega⟩) (by omega) _ (by simp <;> omega)]
        by_cases hz : scanF moneyF 0 S = 0
        · rw [if_pos hz, if_pos hz, joinB_inr]
        · rw [if_neg hz, if_neg hz, joinB_inl]
    · rw [decide_eq_false hday, Bool.not_false, cond_true]
      unfold bill_Ages
      rw [bill_bothFault_eq, Option.bind_some, hf]
      dsimp only
      rw [show ((0 : Int) != 0) = false from rfl, cond_false, kit_IsDay_eq, Option.bind_some]
      dsimp only
      rw [decide_eq_false hday]; rfl
  · have hb : ((if debtsF ds ≠ 0 then debtsF ds else paysF ps) != 0) = true := by simpa using hf
    rw [hb, cond_true]
    unfold bill_Ages
    rw [bill_bothFault_eq, Option.bind_some]
    dsimp only
    rw [hb, cond_true]

theorem eq_owed (l : List D_api_Owed) (hl : l.length < 1000000000) : slices_Equal_api_Owed l l = some (true, ()) := by
  unfold slices_Equal_api_Owed
  rw [show ((l.length : Int) != (l.length : Int)) = false by simp, cond_false]
  have loop := iter_scan2 (f := slices_Equal_api_Owed_b4) (fun i => (l, l, (l.length : Int), (i : Int), ())) l (fun _ _ => 0) (some (Sum.inr ())) (fun _ => some (Sum.inl (false, ())))
    (fun i y again hi => by
      have hil := (List.getElem?_eq_some_iff.1 hi).1
      unfold slices_Equal_api_Owed_b4
      dsimp only
      rw [bif_pos (by omega), idx_nat, hi, Option.bind_some, Option.bind_some, w64_id (by omega) (by omega)]
      simp)
    (fun again => by
      unfold slices_Equal_api_Owed_b4
      dsimp only
      rw [bif_neg (by omega)])
    l 0 (List.length l + (List.length l + (Int.natAbs ((List.length l : Int)) + (Int.natAbs (0 : Int) + 2)))) rfl (by omega) (by omega)
  rw [show ((0 : Nat) : Int) = 0 from rfl] at loop
  have hz : scanF (fun (_ : Nat) (_ : D_api_Owed) => (0 : Int)) 0 l = 0 := by
    have : ∀ (l : List D_api_Owed) (i : Nat), scanF (fun (_ : Nat) (_ : D_api_Owed) => (0 : Int)) i l = 0 := by
      intro l
      induction l with
      | nil => intro i; rfl
      | cons y r ih => intro i; simp only [scanF, if_true]; exact ih (i + 1)
    exact this l 0
  rw [loop, if_pos hz, joinB_inr]

theorem agesMatchSpec (ds : List D_api_Debt) (ps : List D_api_Payment) (day : Int) (steps : List Int) : l11_BillAgesMatchSpec ds ps day steps = some (true, ()) := by
  unfold l11_BillAgesMatchSpec
  rw [← r11_OpenAt_eq, ← r11_Ages_eq]
  have hA : ∃ A f, bill_OpenAt ds ps day = some (A, f, ()) ∧ A.length < 1000000000 := by
    rcases bill_OpenAt_eq ds ps day with ⟨_, h2⟩ | ⟨_, _, _, h4⟩ | ⟨h1, h2, _, order, _, _, g3⟩
    · exact ⟨_, _, h2, by simp⟩
    · exact ⟨_, _, h4, by simp⟩
    · obtain ⟨hl, hds⟩ := debtsF_zero h1
      obtain ⟨hpl, hps⟩ := paysF_zero h2
      refine ⟨_, _, g3, ?_⟩
      have := (payAll_ok (find := fun n => lastM n ds 0 none) (order := order) (day := day) hps (arena0_ok hds) (rest := []) (by simp)).1.len
      have h5 := List.length_filter_le (thereD day) (payAll (fun n => lastM n ds 0 none) order day ps [] (arena0 ds)).2
      rw [List.length_map]; omega
  have hB : ∃ B f, bill_Ages ds ps day steps = some (B, f, ()) ∧ B.length < 1000000000 := by
    by_cases hf : (if debtsF ds ≠ 0 then debtsF ds else paysF ps) = 0
    · have h1 : debtsF ds = 0 := by
        by_cases h : debtsF ds = 0
        · exact h
        · rw [if_pos h] at hf; exact hf
      have h2 : paysF ps = 0 := by rw [if_neg (not_not_intro h1)] at hf; exact hf
      by_cases hday : 1 ≤ day ∧ day ≤ 3652059
      · rcases bill_Ages_eq ds ps h1 h2 day hday steps with ⟨_, a2⟩ | ⟨_, _, a3⟩ | ⟨a1, _, order, _, _, g3⟩
        · exact ⟨_, _, a2, by simp⟩
        · exact ⟨_, _, a3, by simp⟩
        · obtain ⟨hl, hds⟩ := debtsF_zero h1
          obtain ⟨hpl, hps⟩ := paysF_zero h2
          have ha := (payAll_ok (find := fun n => lastM n ds 0 none) (order := order) (day := day) hps (arena0_ok hds) (rest := []) (by simp)).1
          obtain ⟨f1, _, _⟩ := foldAges (steps := steps) (day := day) ((payAll (fun n => lastM n ds 0 none) order day ps [] (arena0 ds)).2.filter (thereD day)) (List.replicate (steps.length + 1) 0) (by simp) (fun x hx => ha.ok x (List.mem_filter.1 hx).1) (by
            intro n hn; rw [(List.mem_replicate.1 hn).2]; exact Int.le_refl 0)
          split at g3
          · refine ⟨_, _, g3, ?_⟩
            rw [List.length_map]
            unfold ageSums
            rw [f1]; omega
          · exact ⟨_, _, g3, by simp⟩
      · refine ⟨[], 1, ?_, by simp⟩
        unfold bill_Ages
        rw [bill_bothFault_eq, Option.bind_some, hf]
        dsimp only
        rw [show ((0 : Int) != 0) = false from rfl, cond_false, kit_IsDay_eq, Option.bind_some]
        dsimp only
        rw [decide_eq_false hday]; rfl
    · have hb : ((if debtsF ds ≠ 0 then debtsF ds else paysF ps) != 0) = true := by simpa using hf
      refine ⟨[], (if debtsF ds ≠ 0 then debtsF ds else paysF ps), ?_, by simp⟩
      unfold bill_Ages
      rw [bill_bothFault_eq, Option.bind_some]
      dsimp only
      rw [hb, cond_true]
  obtain ⟨A, f, a1, a2⟩ := hA
  obtain ⟨B, g, b1, b2⟩ := hB
  rw [a1, Option.bind_some, Option.bind_some]
  dsimp only
  rw [show (f != f) = false by simp, cond_false, eq_owed A a2, Option.bind_some]
  dsimp only
  rw [Bool.not_true, cond_false, b1, Option.bind_some, Option.bind_some]
  dsimp only
  rw [show (g == g) = true by simp, cond_true, eq_dec B b2, Option.bind_some]
  dsimp only
  rw [cond_true, l11_awake_eq, Option.bind_some]

end Go.Md
