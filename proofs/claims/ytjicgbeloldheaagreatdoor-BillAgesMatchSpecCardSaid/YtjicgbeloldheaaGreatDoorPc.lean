/-
  Plain facts: debts and payments; Pay. No condition.
-/
import Derived.Test.YtjicgbeloldheaaGreatDoorPa
import Derived.Test.YtjicgbeloldheaaGreatDoorPb
set_option linter.all false
namespace Go.Md
open Go.Dn

/-- The first fault of a list. -/
def scanF {α : Type} (g : Nat → α → Int) : Nat → List α → Int
  | _, [] => 0
  | i, y :: r => if g i y = 0 then scanF g (i + 1) r else g i y
theorem scanF_zero {α : Type} {g : Nat → α → Int} : ∀ {l : List α} {i : Nat}, scanF g i l = 0 → ∀ j y, l[j]? = some y → g (i + j) y = 0
  | [], _, _, _, _, h => by simp at h
  | y :: r, i, h, j, z, hz => by
    simp only [scanF] at h
    by_cases hg : g i y = 0
    · rw [if_pos hg] at h
      cases j with
      | zero => simp at hz; subst hz; exact hg
      | succ j => have := scanF_zero h j z (by simpa using hz); rw [show i + (j + 1) = i + 1 + j by omega]; exact this
    · rw [if_neg hg] at h; exact absurd h hg
theorem iter_scan {X α : Type} {γ : Type} {f : X → (X → Option ((Int × Unit) ⊕ γ)) → Option ((Int × Unit) ⊕ γ)} (mk : Nat → X) (l : List α) (g : Nat → α → Int) (u : γ)
    (hstep : ∀ i y again, l[i]? = some y → f (mk i) again = if g i y = 0 then again (mk (i + 1)) else some (Sum.inl (g i y, ()))) (hend : ∀ again, f (mk l.length) again = some (Sum.inr u)) :
    ∀ (r : List α) (i n : Nat), l.drop i = r → i ≤ l.length → r.length < n → iter n (mk i) f = if scanF g i r = 0 then some (Sum.inr u) else some (Sum.inl (scanF g i r, ()))
  | _, _, 0, _, _, hn => absurd hn (Nat.not_lt_zero _)
  | [], i, n + 1, hd, hi, _ => by
    have : i = l.length := by
      have := congrArg List.length hd
      simp at this; omega
    subst this
    rw [iter_succ, hend]; rfl
  | y :: r, i, n + 1, hd, hi, hn => by
    have hy : l[i]? = some y := by
      have := congrArg (·[0]?) hd
      simpa [List.getElem?_drop] using this
    have hr : l.drop (i + 1) = r := by
      have := congrArg List.tail hd
      simpa [List.tail_drop] using this
    have hi' : i < l.length := (List.getElem?_eq_some_iff.1 hy).1
    rw [iter_succ, hstep i y _ hy]
    by_cases hg : g i y = 0
    · have e : scanF g i (y :: r) = scanF g (i + 1) r := by simp [scanF, hg]
      rw [if_pos hg, e]
      exact iter_scan mk l g u hstep hend r (i + 1) n hr hi' (by simp at hn; omega)
    · have e : scanF g i (y :: r) = g i y := by simp [scanF, hg]
      rw [if_neg hg, e, if_neg hg]

theorem kit_Outside_eq (a b c : Int) : kit_Outside a b c = some (decide (a < b ∨ c < a), ()) := by
  unfold kit_Outside
  by_cases h : a < b
  · rw [bif_pos h]; simp [h]
  · rw [bif_neg h]; simp [h]
theorem kit_IsDay_eq (n : Int) : kit_IsDay n = some (decide (1 ≤ n ∧ n ≤ 3652059), ()) := by
  unfold kit_IsDay
  rw [kit_Outside_eq, Option.bind_some]
  congr 2
  simp only [← decide_not]
  congr 1
  simp only [eq_iff_iff]; omega
/-- What kit.IsName says. -/
def isNm (s : List UInt8) : Bool := ((kit_IsName s).map (·.1)).getD false
theorem kit_IsName_eq (s : List UInt8) : kit_IsName s = some (isNm s, ()) := by
  have : ∃ b, kit_IsName s = some (b, ()) := by
    unfold kit_IsName
    by_cases h1 : (s.length : Int) < 1
    · rw [bif_pos h1]; exact ⟨_, rfl⟩
    · rw [bif_neg h1]
      by_cases h2 : (s.length : Int) > 40
      · rw [bif_pos h2]; exact ⟨_, rfl⟩
      · rw [bif_neg h2]
        have hs : sidx s 0 = some (s[0]'(by omega)) := by simp [sidx]
        rw [hs]
        simp only [Option.bind_some]
        have ht : strings_Trim s [97, 98, 99, 100, 101, 102, 103, 104, 105, 106, 107, 108, 109, 110, 111, 112, 113, 114, 115, 116, 117, 118, 119, 120, 121, 122, 48, 49, 50, 51, 52, 53, 54, 55, 56, 57, 45] = some (Lib.trimS s [97, 98, 99, 100, 101, 102, 103, 104, 105, 106, 107, 108, 109, 110, 111, 112, 113, 114, 115, 116, 117, 118, 119, 120, 121, 122, 48, 49, 50, 51, 52, 53, 54, 55, 56, 57, 45], ()) := by
          unfold strings_Trim
          rw [show (decide (s.length ≤ 9223372036854775807)) = true by simp; omega]
          rfl
        rw [ht]
        simp only [Option.bind_some]
        generalize (decide ((((s[0]'(by omega)).toNat : Int)) < 97)) = b1
        generalize (decide ((((s[0]'(by omega)).toNat : Int)) > 122)) = b2
        cases b1 <;> cases b2 <;> exact ⟨_, rfl⟩
  obtain ⟨b, hb⟩ := this
  unfold isNm
  rw [hb]; rfl

theorem amount_CheckDecimal_eq (d : D_api_Decimal) : amount_CheckDecimal d = some (if -1000000000000000 ≤ d.1 ∧ d.1 ≤ 1000000000000000 ∧ 0 ≤ d.2 ∧ d.2 ≤ 9 then 0 else 1, ()) := by
  unfold amount_CheckDecimal
  rw [kit_Outside_eq, Option.bind_some, kit_Outside_eq]
  simp only [Option.bind_some]
  by_cases h1 : d.1 < -1000000000000000 ∨ 1000000000000000 < d.1
  · rw [bif_pos h1, if_neg (by omega)]
  · rw [bif_neg h1]
    by_cases h2 : d.2 < 0 ∨ 9 < d.2
    · rw [bif_pos h2, if_neg (by omega)]
    · rw [bif_neg h2, if_pos (by omega)]

theorem pow10_le {n : Nat} (h : n ≤ 18) : (10 : Int) ^ n ≤ 1000000000000000000 := by
  have := Nat.pow_le_pow_right (n := 10) (by omega) h
  have h2 := Int.ofNat_le.2 this
  simpa using h2
theorem pow10_pos (n : Nat) : (0 : Int) < 10 ^ n := pow_pos' (by omega) n
theorem bill_power_eq (n : Int) (h0 : 0 ≤ n) (h1 : n ≤ 18) : bill_power n = some (10 ^ n.toNat, ()) := by
  obtain ⟨m, rfl⟩ : ∃ m : Nat, n = m := ⟨n.toNat, by omega⟩
  unfold bill_power
  have : iter (X := bill_power_x3) (β := bill_power_r3) (Int.natAbs (1 : Int) + (Int.natAbs (m : Int) + (Int.natAbs (0 : Int) + 2))) (1, (m : Int), 0, ()) bill_power_b3 = some (Sum.inr (10 ^ m, ())) := by
    refine iter_post (Inv := fun i x => x = (10 ^ i, (m : Int), (i : Int), ())) m (fun r => r = some (Sum.inr (10 ^ m, ()))) ?_ ?_ _ 0 _ (by simp) (by omega) (by omega)
    · rintro i _ again hi rfl ih
      unfold bill_power_b3
      dsimp only
      have h10 := pow10_le (n := i + 1) (by omega)
      have hp := pow10_pos (i + 1)
      rw [Int.pow_succ] at h10 hp
      rw [bif_pos (by omega), w64_id (by omega) (by omega), w64_id (by omega) (by omega)]
      exact ih _ (by rw [Int.pow_succ]; rfl)
    · rintro _ again rfl
      unfold bill_power_b3
      dsimp only
      rw [bif_neg (by omega)]
  rw [this, joinB_inr]
  simp

theorem bill_between_eq (d : D_api_Decimal) (most : Int) (h0 : 0 ≤ d.2) (h1 : d.2 ≤ 9) (hm0 : 0 ≤ most) (hm1 : most ≤ 1000000000) : bill_between d most = some (decide (-(most * 10 ^ d.2.toNat) ≤ d.1 ∧ d.1 ≤ most * 10 ^ d.2.toNat), ()) := by
  unfold bill_between
  rw [bill_power_eq _ h0 (by omega), Option.bind_some]
  dsimp only
  have hp := pow10_pos d.2.toNat
  have hq : (10 : Int) ^ d.2.toNat ≤ 1000000000 := by
    have := Nat.pow_le_pow_right (n := 10) (by omega) (show d.2.toNat ≤ 9 by omega)
    have h2 := Int.ofNat_le.2 this
    simpa using h2
  have h3 : most * 10 ^ d.2.toNat ≤ 1000000000 * 1000000000 := by
    have a1 : most * 10 ^ d.2.toNat ≤ 1000000000 * 10 ^ d.2.toNat := Int.mul_le_mul_of_nonneg_right hm1 (by omega)
    omega
  have h4 : 0 ≤ most * 10 ^ d.2.toNat := Int.mul_nonneg hm0 (by omega)
  rw [w64_id (n := most * 10 ^ d.2.toNat) (by omega) (by omega), w64_id (by omega) (by omega), kit_Outside_eq, Option.bind_some]
  congr 2
  simp only [← decide_not]
  congr 1
  simp only [eq_iff_iff]; omega

/-- Money that is right. -/
def MonOk (d : D_api_Decimal) : Prop := 0 < d.1 ∧ 0 ≤ d.2 ∧ d.2 ≤ 4 ∧ d.1 ≤ 1000000000 * 10 ^ d.2.toNat
instance (d : D_api_Decimal) : Decidable (MonOk d) := by unfold MonOk; exact inferInstance
def monF (d : D_api_Decimal) : Int := if MonOk d then 0 else 1
theorem bill_moneyFault_eq (d : D_api_Decimal) : bill_moneyFault d = some (monF d, ()) := by
  unfold bill_moneyFault monF
  rw [amount_CheckDecimal_eq, Option.bind_some]
  dsimp only
  by_cases h : -1000000000000000 ≤ d.1 ∧ d.1 ≤ 1000000000000000 ∧ 0 ≤ d.2 ∧ d.2 ≤ 9
  · rw [if_pos h, show ((0 : Int) != 0) = false from rfl, cond_false]
    by_cases h1 : d.1 ≤ 0
    · rw [bif_pos h1, if_neg (by unfold MonOk; omega)]
    · rw [bif_neg h1]
      by_cases h2 : d.2 > 4
      · rw [bif_pos h2, if_neg (by unfold MonOk; omega)]
      · rw [bif_neg h2, bill_between_eq d 1000000000 (by omega) (by omega) (by omega) (by omega), Option.bind_some]
        dsimp only
        have hp := pow10_pos d.2.toNat
        by_cases h3 : -(1000000000 * 10 ^ d.2.toNat) ≤ d.1 ∧ d.1 ≤ 1000000000 * 10 ^ d.2.toNat
        · rw [decide_eq_true h3, Bool.not_true, cond_false, if_pos (by unfold MonOk; omega)]
        · rw [decide_eq_false h3, Bool.not_false, cond_true, if_neg (by unfold MonOk; omega)]
  · rw [if_neg h, show ((1 : Int) != 0) = true from rfl, cond_true, if_neg]
    unfold MonOk
    intro ⟨g1, g2, g3, g4⟩
    have hq : (10 : Int) ^ d.2.toNat ≤ 10000 := by
      have := Nat.pow_le_pow_right (n := 10) (by omega) (show d.2.toNat ≤ 4 by omega)
      have h2 := Int.ofNat_le.2 this
      simpa using h2
    omega

theorem slices_IndexFunc_api_Debt_eq (l : List D_api_Debt) (y : D_api_Debt) (hl : l.length < 1000000000) : slices_ContainsFunc_api_Debt l y = some (l.any (fun o => o.1 == y.1), ()) := by
  unfold slices_ContainsFunc_api_Debt slices_IndexFunc_api_Debt
  have loop : iter (X := slices_IndexFunc_api_Debt_x2) (β := slices_IndexFunc_api_Debt_r2) (List.length l + (Int.natAbs ((List.length l : Int)) + (Int.natAbs (0 : Int) + 2))) (l, y, (List.length l : Int), 0, ()) slices_IndexFunc_api_Debt_b2 = some (Sum.inr ()) ∧ l.any (fun o => o.1 == y.1) = false ∨
      ∃ i : Nat, iter (X := slices_IndexFunc_api_Debt_x2) (β := slices_IndexFunc_api_Debt_r2) (List.length l + (Int.natAbs ((List.length l : Int)) + (Int.natAbs (0 : Int) + 2))) (l, y, (List.length l : Int), 0, ()) slices_IndexFunc_api_Debt_b2 = some (Sum.inl ((i : Int), ())) ∧ l.any (fun o => o.1 == y.1) = true := by
    refine iter_post (Inv := fun i x => x = (l, y, (List.length l : Int), (i : Int), ()) ∧ (l.take i).any (fun o => o.1 == y.1) = false) l.length (fun r => r = some (Sum.inr ()) ∧ l.any (fun o => o.1 == y.1) = false ∨ ∃ i : Nat, r = some (Sum.inl ((i : Int), ())) ∧ l.any (fun o => o.1 == y.1) = true) ?_ ?_ _ 0 _ ⟨rfl, by simp⟩ (by omega) (by omega)
    · rintro i _ again hi ⟨rfl, hn⟩ ih
      unfold slices_IndexFunc_api_Debt_b2
      dsimp only
      have hy : l[i]? = some l[i] := getElem?_of hi
      rw [bif_pos (by omega), idx_nat, hy, Option.bind_some]
      unfold bill_CheckDebts_1
      rw [Option.bind_some]
      dsimp only
      cases hb : (l[i].1 == y.1) with
      | true =>
        right
        exact ⟨i, rfl, List.any_eq_true.2 ⟨l[i], List.getElem_mem _, hb⟩⟩
      | false =>
        rw [cond_false, w64_id (by omega) (by omega)]
        refine ih _ ⟨rfl, ?_⟩
        rw [List.take_add_one, hy, List.any_append, hn]
        simp [hb]
    · rintro _ again ⟨rfl, hn⟩
      unfold slices_IndexFunc_api_Debt_b2
      dsimp only
      rw [bif_neg (by omega)]
      rw [List.take_of_length_le (Nat.le_refl _)] at hn
      exact .inl ⟨rfl, hn⟩
  rcases loop with ⟨h1, h2⟩ | ⟨i, h1, h2⟩
  · rw [h1, joinB_inr, Option.bind_some, h2]; rfl
  · rw [h1, joinB_inl, Option.bind_some, h2]; simp

/-- A day before that of the one before it. -/
def prevLt {α : Type} (day : α → Int) (l : List α) (i : Nat) (d : α) : Bool := match i with
  | 0 => false
  | j + 1 => match l[j]? with
    | some q => decide (day d < day q)
    | none => false
/-- What is wrong with a debt. -/
def debtF (l : List D_api_Debt) (i : Nat) (d : D_api_Debt) : Int :=
  if isNm d.1 = false then 5 else if (l.take i).any (fun o => o.1 == d.1) = true then 7 else if ¬(1 ≤ d.2.1 ∧ d.2.1 ≤ 3652059) then 1
  else if prevLt (·.2.1) l i d = true then 8 else if ¬MonOk d.2.2.1 then 1
  else if d.2.2.2.1 < 0 ∨ 10000 < d.2.2.2.1 then 1 else if d.2.2.2.2.1 < 0 ∨ d.2.2.2.1 < d.2.2.2.2.1 then 1 else if d.2.2.2.2.2 < 0 ∨ 1000 < d.2.2.2.2.2 then 1 else 0

theorem bill_CheckDebts_eq (l : List D_api_Debt) : bill_CheckDebts l = some (if 200 < l.length then 2 else scanF (debtF l) 0 l, ()) := by
  unfold bill_CheckDebts
  by_cases hl : 200 < l.length
  · rw [bif_pos (by omega), if_pos hl]
  · rw [bif_neg (by omega), if_neg hl]
    have loop := iter_scan (f := bill_CheckDebts_b4) (fun i => (l, l, (l.length : Int), (i : Int), ())) l (debtF l) () (by
        intro i y again hy
        have hi := (List.getElem?_eq_some_iff.1 hy).1
        unfold bill_CheckDebts_b4
        dsimp only
        rw [bif_pos (by omega), idx_nat, hy, Option.bind_some, kit_IsName_eq, Option.bind_some]
        dsimp only
        unfold debtF
        cases hn : isNm y.1 with
        | false => simp
        | true =>
          rw [Bool.not_true, cond_false, if_neg (show ¬(true = false) by simp), chk_pos (by simp only [Bool.and_eq_true, decide_eq_true_eq]; omega), List.drop_zero, Int.toNat_natCast, slices_IndexFunc_api_Debt_eq _ _ (by rw [List.length_take]; omega), Option.bind_some]
          dsimp only
          cases ha : (l.take i).any (fun o => o.1 == y.1) with
          | true => simp
          | false =>
            rw [cond_false, if_neg (show ¬(false = true) by simp), kit_IsDay_eq, Option.bind_some]
            dsimp only
            by_cases hday : 1 ≤ y.2.1 ∧ y.2.1 ≤ 3652059
            · rw [decide_eq_true hday, Bool.not_true, cond_false, if_neg (not_not_intro hday)]
              have rest : (Option.bind (bill_moneyFault y.2.2.1) fun r7 =>
                  bif r7.1 != 0 then some (Sum.inl (r7.1, ())) else
                    Option.bind (kit_Outside y.2.2.2.1 0 10000) fun r8 =>
                    bif r8.1 then some (Sum.inl (1, ())) else
                      Option.bind (kit_Outside y.2.2.2.2.1 0 y.2.2.2.1) fun r9 =>
                      bif r9.1 then some (Sum.inl (1, ())) else
                        Option.bind (kit_Outside y.2.2.2.2.2 0 1000) fun r10 =>
                        bif r10.1 then some (Sum.inl (1, ())) else again (l, l, (l.length : Int), w64 ((i : Int) + 1), ())) =
                  if (if ¬MonOk y.2.2.1 then (1 : Int) else if y.2.2.2.1 < 0 ∨ 10000 < y.2.2.2.1 then 1 else if y.2.2.2.2.1 < 0 ∨ y.2.2.2.1 < y.2.2.2.2.1 then 1 else if y.2.2.2.2.2 < 0 ∨ 1000 < y.2.2.2.2.2 then 1 else 0) = 0 then again (l, l, (l.length : Int), ((i + 1 : Nat) : Int), ())
                  else some (Sum.inl ((if ¬MonOk y.2.2.1 then (1 : Int) else if y.2.2.2.1 < 0 ∨ 10000 < y.2.2.2.1 then 1 else if y.2.2.2.2.1 < 0 ∨ y.2.2.2.1 < y.2.2.2.2.1 then 1 else if y.2.2.2.2.2 < 0 ∨ 1000 < y.2.2.2.2.2 then 1 else 0), ())) := by
                rw [bill_moneyFault_eq, Option.bind_some, kit_Outside_eq, Option.bind_some, kit_Outside_eq, Option.bind_some, kit_Outside_eq, Option.bind_some, w64_id (by omega) (by omega)]
                unfold monF
                dsimp only
                by_cases hm : MonOk y.2.2.1
                · rw [if_pos hm, if_neg (not_not_intro hm), show ((0 : Int) != 0) = false from rfl, cond_false]
                  by_cases h1 : y.2.2.2.1 < 0 ∨ 10000 < y.2.2.2.1
                  · rw [bif_pos h1, if_pos h1]; rfl
                  · rw [bif_neg h1, if_neg h1]
                    by_cases h2 : y.2.2.2.2.1 < 0 ∨ y.2.2.2.1 < y.2.2.2.2.1
                    · rw [bif_pos h2, if_pos h2]; rfl
                    · rw [bif_neg h2, if_neg h2]
                      by_cases h3 : y.2.2.2.2.2 < 0 ∨ 1000 < y.2.2.2.2.2
                      · rw [bif_pos h3, if_pos h3]; rfl
                      · rw [bif_neg h3, if_neg h3]; rfl
                · rw [if_neg hm, if_pos hm]; rfl
              cases i with
              | zero =>
                rw [bif_neg (by simp), rest]
                rfl
              | succ j =>
                have hj : l[j]? = some l[j] := getElem?_of (by omega)
                have e1 : w64 (((j + 1 : Nat) : Int) - 1) = (j : Int) := by rw [w64_id (by omega) (by omega)]; omega
                have hp : prevLt (·.2.1) l (j + 1) y = decide (y.2.1 < l[j].2.1) := by simp only [prevLt, hj]
                rw [bif_pos (by omega), e1, idx_nat, hj, Option.bind_some, hp]
                by_cases h4 : y.2.1 < l[j].2.1
                · rw [bif_pos h4, if_pos (decide_eq_true h4)]; rfl
                · rw [bif_neg h4, decide_eq_false h4, rest]
                  rfl
            · rw [decide_eq_false hday, Bool.not_false, cond_true, if_pos hday]; rfl)
      (by
        intro again
        unfold bill_CheckDebts_b4
        dsimp only
        rw [bif_neg (by omega)])
      l 0 (List.length l + (List.length l + (Int.natAbs ((List.length l : Int)) + (Int.natAbs (0 : Int) + 2)))) rfl (by omega) (by omega)
    rw [show ((0 : Nat) : Int) = 0 from rfl] at loop
    rw [loop]
    by_cases h0 : scanF (debtF l) 0 l = 0
    · rw [if_pos h0, joinB_inr, h0]
    · rw [if_neg h0, joinB_inl]

theorem slices_Contains_string_eq (l : List (List UInt8)) (y : List UInt8) (hl : l.length < 1000000000) : slices_Contains_string l y = some (l.any (fun o => o == y), ()) := by
  unfold slices_Contains_string slices_Index_string
  have loop : iter (X := slices_Index_string_x2) (β := slices_Index_string_r2) (List.length l + (List.length y + (Int.natAbs ((List.length l : Int)) + (Int.natAbs (0 : Int) + 2)))) (l, y, (List.length l : Int), 0, ()) slices_Index_string_b2 = some (Sum.inr ()) ∧ l.any (fun o => o == y) = false ∨
      ∃ i : Nat, iter (X := slices_Index_string_x2) (β := slices_Index_string_r2) (List.length l + (List.length y + (Int.natAbs ((List.length l : Int)) + (Int.natAbs (0 : Int) + 2)))) (l, y, (List.length l : Int), 0, ()) slices_Index_string_b2 = some (Sum.inl ((i : Int), ())) ∧ l.any (fun o => o == y) = true := by
    refine iter_post (Inv := fun i x => x = (l, y, (List.length l : Int), (i : Int), ()) ∧ (l.take i).any (fun o => o == y) = false) l.length (fun r => r = some (Sum.inr ()) ∧ l.any (fun o => o == y) = false ∨ ∃ i : Nat, r = some (Sum.inl ((i : Int), ())) ∧ l.any (fun o => o == y) = true) ?_ ?_ _ 0 _ ⟨rfl, by simp⟩ (by omega) (by omega)
    · rintro i _ again hi ⟨rfl, hn⟩ ih
      unfold slices_Index_string_b2
      dsimp only
      have hy : l[i]? = some l[i] := getElem?_of hi
      rw [bif_pos (by omega), idx_nat, hy, Option.bind_some]
      cases hb : (y == l[i]) with
      | true =>
        right
        exact ⟨i, rfl, List.any_eq_true.2 ⟨l[i], List.getElem_mem _, by rw [eq_of_beq hb]; simp⟩⟩
      | false =>
        rw [cond_false, w64_id (by omega) (by omega)]
        refine ih _ ⟨rfl, ?_⟩
        rw [List.take_add_one, hy, List.any_append, hn]
        have : (l[i] == y) = false := by
          cases h : (l[i] == y) with
          | false => rfl
          | true => rw [eq_of_beq h] at hb; simp at hb
        simp [this]
    · rintro _ again ⟨rfl, hn⟩
      unfold slices_Index_string_b2
      dsimp only
      rw [bif_neg (by omega)]
      rw [List.take_of_length_le (Nat.le_refl _)] at hn
      exact .inl ⟨rfl, hn⟩
  rcases loop with ⟨h1, h2⟩ | ⟨i, h1, h2⟩
  · rw [h1, joinB_inr, Option.bind_some, h2]; rfl
  · rw [h1, joinB_inl, Option.bind_some, h2]; simp

/-- What is wrong with a name of a payment. -/
def nameF (l : List (List UInt8)) (i : Nat) (s : List UInt8) : Int := if isNm s = false then 5 else if (l.take i).any (fun o => o == s) = true then 7 else 0
/-- What is wrong with a payment. -/
def payF (l : List D_api_Payment) (i : Nat) (p : D_api_Payment) : Int :=
  if ¬(1 ≤ p.1 ∧ p.1 ≤ 3652059) then 1 else if prevLt (·.1) l i p = true then 8 else if ¬MonOk p.2.1 then 1 else if 100 < p.2.2.length then 2 else scanF (nameF p.2.2) 0 p.2.2

theorem pay_names (g1 g2 : List D_api_Payment) (g3 g4 : Int) (l : List (List UInt8)) (hl : l.length ≤ 100) (h1 h2 h3 : Int) (n : Nat) (hn : l.length < n) :
    iter (X := bill_CheckPayments_x16) (β := bill_CheckPayments_r16) n (g1, g2, g3, g4, l, (l.length : Int), 0, h1, h2, h3, l, ()) bill_CheckPayments_b16 = if scanF (nameF l) 0 l = 0 then some (Sum.inr (g1, g2, g3, g4, ())) else some (Sum.inl (Sum.inl (scanF (nameF l) 0 l, ()))) := by
  have key : ∀ (r : List (List UInt8)) (i n : Nat), l.drop i = r → i ≤ l.length → r.length < n → iter (X := bill_CheckPayments_x16) (β := bill_CheckPayments_r16) n (g1, g2, g3, g4, l, (l.length : Int), (i : Int), h1, h2, h3, l, ()) bill_CheckPayments_b16 = if scanF (nameF l) i r = 0 then some (Sum.inr (g1, g2, g3, g4, ())) else some (Sum.inl (Sum.inl (scanF (nameF l) i r, ()))) := by
    intro r
    induction r with
    | nil =>
      intro i n hd hi hn
      obtain ⟨n, rfl⟩ : ∃ m, n = m + 1 := ⟨n - 1, by simp at hn; omega⟩
      have : i = l.length := by
        have := congrArg List.length hd
        simp at this; omega
      subst this
      rw [iter_succ]
      unfold bill_CheckPayments_b16
      dsimp only
      rw [bif_neg (by omega)]; rfl
    | cons y r ih =>
      intro i n hd hi hn
      obtain ⟨n, rfl⟩ : ∃ m, n = m + 1 := ⟨n - 1, by simp at hn; omega⟩
      have hy : l[i]? = some y := by
        have := congrArg (·[0]?) hd
        simpa [List.getElem?_drop] using this
      have hr : l.drop (i + 1) = r := by
        have := congrArg List.tail hd
        simpa [List.tail_drop] using this
      have hi' : i < l.length := (List.getElem?_eq_some_iff.1 hy).1
      rw [iter_succ]
      generalize hag : (fun y => iter n y bill_CheckPayments_b16) = again
      unfold bill_CheckPayments_b16
      dsimp only
      rw [bif_pos (by omega), idx_nat, hy, Option.bind_some, kit_IsName_eq, Option.bind_some]
      dsimp only
      cases hnm : isNm y with
      | false =>
        have e : scanF (nameF l) i (y :: r) = 5 := by simp [scanF, nameF, hnm]
        rw [e]; rfl
      | true =>
        rw [Bool.not_true, cond_false, chk_pos (by simp only [Bool.and_eq_true, decide_eq_true_eq]; omega), List.drop_zero, Int.toNat_natCast, slices_Contains_string_eq _ _ (by rw [List.length_take]; omega), Option.bind_some]
        dsimp only
        cases ha : (l.take i).any (fun o => o == y) with
        | true =>
          have e : scanF (nameF l) i (y :: r) = 7 := by
            have : nameF l i y = 7 := by simp only [nameF, hnm, ha]; rfl
            simp [scanF, this]
          rw [e]; rfl
        | false =>
          have e : scanF (nameF l) i (y :: r) = scanF (nameF l) (i + 1) r := by
            have : nameF l i y = 0 := by simp only [nameF, hnm, ha]; rfl
            simp [scanF, this]
          rw [cond_false, w64_id (by omega) (by omega), ← hag, e]
          exact ih (i + 1) n hr hi' (by simp at hn; omega)
  exact key l 0 n rfl (by omega) hn

theorem bill_CheckPayments_eq (l : List D_api_Payment) : bill_CheckPayments l = some (if 500 < l.length then 2 else scanF (payF l) 0 l, ()) := by
  unfold bill_CheckPayments
  by_cases hl : 500 < l.length
  · rw [bif_pos (by omega), if_pos hl]
  · rw [bif_neg (by omega), if_neg hl]
    have loop := iter_scan (f := bill_CheckPayments_b4) (fun i => (l, l, (l.length : Int), (i : Int), ())) l (payF l) () (by
        intro i y again hy
        have hi := (List.getElem?_eq_some_iff.1 hy).1
        unfold bill_CheckPayments_b4
        dsimp only
        rw [bif_pos (by omega), idx_nat, hy, Option.bind_some, kit_IsDay_eq, Option.bind_some]
        dsimp only
        unfold payF
        by_cases hday : 1 ≤ y.1 ∧ y.1 ≤ 3652059
        · rw [decide_eq_true hday, Bool.not_true, cond_false, if_neg (not_not_intro hday)]
          have rest : (Option.bind (bill_moneyFault y.2.1) fun r5 =>
              bif r5.1 != 0 then some (Sum.inl (r5.1, ())) else
                bif decide (((List.length y.2.2 : Int)) > 100) then some (Sum.inl (2, ())) else
                  joinB (β := ((Int × Unit) ⊕ Unit)) (γ := ((List D_api_Payment) × (List D_api_Payment) × Int × Int × Unit)) (
                    iter (X := bill_CheckPayments_x16) (β := bill_CheckPayments_r16) (List.length l + (List.length l + (Int.natAbs (l.length : Int) + (Int.natAbs (i : Int) + (List.length y.2.2 + (Int.natAbs ((List.length y.2.2 : Int)) + (Int.natAbs (0 : Int) + (Int.natAbs y.1 + (Int.natAbs y.2.1.1 + (Int.natAbs y.2.1.2 + (List.length y.2.2 + 2))))))))))) (l, l, (l.length : Int), (i : Int), y.2.2, (List.length y.2.2 : Int), 0, y.1, y.2.1.1, y.2.1.2, y.2.2, ()) (bill_CheckPayments_b16)) fun v6 =>
                  again (v6.1, v6.2.1, v6.2.2.1, w64 (v6.2.2.2.1 + 1), ())) =
              if (if ¬MonOk y.2.1 then (1 : Int) else if 100 < y.2.2.length then 2 else scanF (nameF y.2.2) 0 y.2.2) = 0 then again (l, l, (l.length : Int), ((i + 1 : Nat) : Int), ())
              else some (Sum.inl ((if ¬MonOk y.2.1 then (1 : Int) else if 100 < y.2.2.length then 2 else scanF (nameF y.2.2) 0 y.2.2), ())) := by
            rw [bill_moneyFault_eq, Option.bind_some]
            unfold monF
            dsimp only
            by_cases hm : MonOk y.2.1
            · rw [if_pos hm, if_neg (not_not_intro hm), show ((0 : Int) != 0) = false from rfl, cond_false]
              by_cases h1 : 100 < y.2.2.length
              · rw [bif_pos (by omega), if_pos h1]; rfl
              · rw [bif_neg (by omega), if_neg h1, pay_names l l _ _ y.2.2 (by omega) _ _ _ _ (by omega)]
                by_cases h0 : scanF (nameF y.2.2) 0 y.2.2 = 0
                · rw [if_pos h0, if_pos h0, joinB_inr]
                  dsimp only
                  rw [w64_id (by omega) (by omega)]; rfl
                · rw [if_neg h0, if_neg h0, joinB_inl]
            · rw [if_neg hm, if_pos hm]; rfl
          cases i with
          | zero =>
            rw [bif_neg (by simp)]
            exact rest
          | succ j =>
            have hj : l[j]? = some l[j] := getElem?_of (by omega)
            have e1 : w64 (((j + 1 : Nat) : Int) - 1) = (j : Int) := by rw [w64_id (by omega) (by omega)]; omega
            have hp : prevLt (·.1) l (j + 1) y = decide (y.1 < l[j].1) := by simp only [prevLt, hj]
            rw [bif_pos (by omega), e1, idx_nat, hj, Option.bind_some, hp]
            by_cases h4 : y.1 < l[j].1
            · rw [bif_pos h4, if_pos (decide_eq_true h4)]; rfl
            · rw [bif_neg h4, decide_eq_false h4]
              exact rest
        · rw [decide_eq_false hday, Bool.not_false, cond_true, if_pos hday]; rfl)
      (by
        intro again
        unfold bill_CheckPayments_b4
        dsimp only
        rw [bif_neg (by omega)])
      l 0 (List.length l + (List.length l + (Int.natAbs ((List.length l : Int)) + (Int.natAbs (0 : Int) + 2)))) rfl (by omega) (by omega)
    rw [show ((0 : Nat) : Int) = 0 from rfl] at loop
    rw [loop]
    by_cases h0 : scanF (payF l) 0 l = 0
    · rw [if_pos h0, joinB_inr, h0]
    · rw [if_neg h0, joinB_inl]

def debtsF (l : List D_api_Debt) : Int := if 200 < l.length then 2 else scanF (debtF l) 0 l
def paysF (l : List D_api_Payment) : Int := if 500 < l.length then 2 else scanF (payF l) 0 l
theorem bill_bothFault_eq (d : List D_api_Debt) (p : List D_api_Payment) : bill_bothFault d p = some (if debtsF d ≠ 0 then debtsF d else paysF p, ()) := by
  unfold bill_bothFault
  rw [bill_CheckDebts_eq, Option.bind_some]
  dsimp only
  change (bif debtsF d != 0 then some (debtsF d, ()) else _) = _
  by_cases h : debtsF d = 0
  · rw [show (debtsF d != 0) = false by simp [h], cond_false, bill_CheckPayments_eq, Option.bind_some, if_neg (not_not_intro h)]; rfl
  · rw [show (debtsF d != 0) = true by simp [h], cond_true, if_pos h]

/-- Debts that are right. -/
structure DebtOk (d : D_api_Debt) : Prop where
  day0 : 1 ≤ d.2.1
  day1 : d.2.1 ≤ 3652059
  mon : MonOk d.2.2.1
  days0 : 0 ≤ d.2.2.2.1
  days1 : d.2.2.2.1 ≤ 10000
  with0 : 0 ≤ d.2.2.2.2.1
  with1 : d.2.2.2.2.1 ≤ d.2.2.2.1
  disc0 : 0 ≤ d.2.2.2.2.2
  disc1 : d.2.2.2.2.2 ≤ 1000
theorem debtF_zero {l : List D_api_Debt} {i : Nat} {d : D_api_Debt} (h : debtF l i d = 0) : DebtOk d ∧ (l.take i).any (fun o => o.1 == d.1) = false := by
  unfold debtF at h
  split at h
  · cases h
  · split at h
    · cases h
    · rename_i hany
      split at h
      · cases h
      · rename_i h3
        split at h
        · cases h
        · split at h
          · cases h
          · rename_i h5
            split at h
            · cases h
            · rename_i h6
              split at h
              · cases h
              · rename_i h7
                split at h
                · cases h
                · rename_i h8
                  exact ⟨⟨by omega, by omega, Decidable.of_not_not h5, by omega, by omega, by omega, by omega, by omega, by omega⟩, (Bool.not_eq_true _).mp hany⟩
structure PayOk (p : D_api_Payment) : Prop where
  day0 : 1 ≤ p.1
  day1 : p.1 ≤ 3652059
  mon : MonOk p.2.1
  names : p.2.2.length ≤ 100
theorem payF_zero {l : List D_api_Payment} {i : Nat} {p : D_api_Payment} (h : payF l i p = 0) : PayOk p := by
  unfold payF at h
  split at h
  · cases h
  · rename_i h3
    split at h
    · cases h
    · split at h
      · cases h
      · rename_i h5
        split at h
        · cases h
        · exact ⟨by omega, by omega, Decidable.of_not_not h5, by omega⟩
theorem debtsF_zero {l : List D_api_Debt} (h : debtsF l = 0) : l.length ≤ 200 ∧ ∀ d ∈ l, DebtOk d := by
  unfold debtsF at h
  split at h
  · cases h
  · refine ⟨by omega, fun d hd => ?_⟩
    obtain ⟨i, hi⟩ := List.mem_iff_getElem?.1 hd
    have := scanF_zero h i d hi
    rw [Nat.zero_add] at this
    exact (debtF_zero this).1
theorem paysF_zero {l : List D_api_Payment} (h : paysF l = 0) : l.length ≤ 500 ∧ ∀ d ∈ l, PayOk d := by
  unfold paysF at h
  split at h
  · cases h
  · refine ⟨by omega, fun d hd => ?_⟩
    obtain ⟨i, hi⟩ := List.mem_iff_getElem?.1 hd
    have := scanF_zero h i d hi
    rw [Nat.zero_add] at this
    exact payF_zero this

end Go.Md

namespace Go.Md
open Go.Dn

/-- Units with four places. -/
def cents (d : D_api_Decimal) : Int := d.1 * 10 ^ (4 - d.2).toNat
theorem MonOk.cents {d : D_api_Decimal} (h : MonOk d) : 0 < cents d ∧ cents d ≤ 10000000000000 := by
  obtain ⟨h1, h2, h3, h4⟩ := h
  unfold Md.cents
  have hp := pow10_pos (4 - d.2).toNat
  refine ⟨Int.mul_pos h1 hp, ?_⟩
  have a1 : d.1 * 10 ^ (4 - d.2).toNat ≤ 1000000000 * 10 ^ d.2.toNat * 10 ^ (4 - d.2).toNat := Int.mul_le_mul_of_nonneg_right h4 (by omega)
  rw [Int.mul_assoc, ← Int.pow_add, show d.2.toNat + (4 - d.2).toNat = 4 by omega] at a1
  omega
theorem bill_cents_eq {d : D_api_Decimal} (h : MonOk d) : bill_cents d = some (cents d, ()) := by
  have hc := h.cents
  obtain ⟨h1, h2, h3, h4⟩ := h
  unfold bill_cents
  rw [w64_id (by omega) (by omega), bill_power_eq _ (by omega) (by omega), Option.bind_some]
  unfold Md.cents at hc
  dsimp only
  rw [w64_id (by omega) (by omega)]; rfl

abbrev Bd := D_bill_debt
def owes (x : Bd) : Int := x.2.1
def paid (x : Bd) : Int := x.2.2.1
def taken (x : Bd) : Int := x.2.2.2.1
def done (x : Bd) : Int := x.2.2.2.2
def thereD (day : Int) (x : Bd) : Bool := decide (x.1.2.1 ≤ day) && (done x == 0)
def discD (x : Bd) : Int := min (x.1.2.2.1.1 * x.1.2.2.2.2.2 / 1000 * 10 ^ (4 - x.1.2.2.1.2).toNat) (owes x)
def payD (left day : Int) (x : Bd) : Int × Bd := (left - min left (owes x), (x.1, owes x - min left (owes x), paid x + min left (owes x), taken x, if owes x - min left (owes x) = 0 then day else done x))
def namedD (left day : Int) (x : Bd) : Int × Bd :=
  if left < owes x - discD x ∨ x.1.2.1 + x.1.2.2.2.2.1 < day then payD left day x else (left - (owes x - discD x), (x.1, 0, paid x + (owes x - discD x), discD x, day))

/-- A debt in the arena. -/
structure BdOk (x : Bd) : Prop where
  d : DebtOk x.1
  owes0 : 0 ≤ owes x
  paid0 : 0 ≤ paid x
  taken0 : 0 ≤ taken x
  sum : owes x + paid x + taken x = cents x.1.2.2.1
  none : done x = 0 → taken x = 0
  done0 : done x = 0 ∨ x.1.2.1 ≤ done x
  iff : owes x = 0 ↔ done x ≠ 0
theorem BdOk.le {x : Bd} (h : BdOk x) : owes x ≤ 10000000000000 ∧ paid x ≤ 10000000000000 ∧ taken x ≤ 10000000000000 := by
  have := h.d.mon.cents; have := h.sum; have := h.owes0; have := h.paid0; have := h.taken0; omega

theorem disc_bound {x : Bd} (h : BdOk x) : 0 ≤ discD x ∧ discD x ≤ owes x ∧ 0 ≤ x.1.2.2.1.1 * x.1.2.2.2.2.2 ∧ x.1.2.2.1.1 * x.1.2.2.2.2.2 ≤ 10000000000000000 ∧ 0 ≤ x.1.2.2.1.1 * x.1.2.2.2.2.2 / 1000 * 10 ^ (4 - x.1.2.2.1.2).toNat ∧ x.1.2.2.1.1 * x.1.2.2.2.2.2 / 1000 * 10 ^ (4 - x.1.2.2.1.2).toNat ≤ 10000000000000 := by
  obtain ⟨hd, ho, _⟩ := h
  have hc := hd.mon.cents
  obtain ⟨h1, h2, h3, h4⟩ := hd.mon
  have hp := pow10_pos (4 - x.1.2.2.1.2).toNat
  have hq : (10 : Int) ^ x.1.2.2.1.2.toNat ≤ 10000 := by
    have := Nat.pow_le_pow_right (n := 10) (by omega) (show x.1.2.2.1.2.toNat ≤ 4 by omega)
    have h2 := Int.ofNat_le.2 this
    simpa using h2
  have hu : x.1.2.2.1.1 ≤ 10000000000000 := by omega
  have a1 : 0 ≤ x.1.2.2.1.1 * x.1.2.2.2.2.2 := Int.mul_nonneg (by omega) hd.disc0
  have a2 : x.1.2.2.1.1 * x.1.2.2.2.2.2 ≤ x.1.2.2.1.1 * 1000 := Int.mul_le_mul_of_nonneg_left hd.disc1 (by omega)
  have a3 : x.1.2.2.1.1 * x.1.2.2.2.2.2 / 1000 ≤ x.1.2.2.1.1 := by omega
  have a4 : 0 ≤ x.1.2.2.1.1 * x.1.2.2.2.2.2 / 1000 := by omega
  have a5 : x.1.2.2.1.1 * x.1.2.2.2.2.2 / 1000 * 10 ^ (4 - x.1.2.2.1.2).toNat ≤ x.1.2.2.1.1 * 10 ^ (4 - x.1.2.2.1.2).toNat := Int.mul_le_mul_of_nonneg_right a3 (by omega)
  have a6 : 0 ≤ x.1.2.2.1.1 * x.1.2.2.2.2.2 / 1000 * 10 ^ (4 - x.1.2.2.1.2).toNat := Int.mul_nonneg a4 (by omega)
  unfold cents at hc
  refine ⟨?_, ?_, a1, by omega, a6, by omega⟩
  · unfold discD; omega
  · unfold discD; omega

section
variable {ar : List Bd} {h : Nat} {x : Bd}

theorem bill_there_eq (day : Int) (hx : ar[h]? = some x) : bill_debt_there (some h) day ar = some (thereD day x, ()) := by
  unfold bill_debt_there thereD done
  simp only [Option.bind_some, hx]
  by_cases hd : x.1.2.1 ≤ day
  · rw [bif_pos hd, decide_eq_true hd]; rfl
  · rw [bif_neg hd, decide_eq_false hd]; rfl

theorem bill_disc_eq (hx : ar[h]? = some x) (ok : BdOk x) : bill_debt_discount (some h) ar = some (discD x, ()) := by
  obtain ⟨b1, b2, b3, b4, b5, b6⟩ := disc_bound ok
  obtain ⟨h1, h2, h3, h4⟩ := ok.d.mon
  unfold bill_debt_discount
  simp only [Option.bind_some, hx]
  rw [w64_id (n := 4 - x.1.2.2.1.2) (by omega) (by omega), bill_power_eq _ (by omega) (by omega), Option.bind_some]
  dsimp only
  have e : w64 (w64 (Int.tdiv (w64 (x.1.2.2.1.1 * x.1.2.2.2.2.2)) 1000) * 10 ^ (4 - x.1.2.2.1.2).toNat) = x.1.2.2.1.1 * x.1.2.2.2.2.2 / 1000 * 10 ^ (4 - x.1.2.2.1.2).toNat := by
    rw [w64_id (n := x.1.2.2.1.1 * x.1.2.2.2.2.2) (by omega) (by omega), Int.tdiv_eq_ediv_of_nonneg b3, w64_id (n := x.1.2.2.1.1 * x.1.2.2.2.2.2 / 1000) (by omega) (by omega), w64_id (by omega) (by omega)]
  rw [e]
  unfold discD owes
  congr 2
  by_cases hlt : x.2.1 < x.1.2.2.1.1 * x.1.2.2.2.2.2 / 1000 * 10 ^ (4 - x.1.2.2.1.2).toNat
  · rw [if_pos hlt]; omega
  · rw [if_neg hlt]; omega

theorem set_get {α : Type} {l : List α} {i : Nat} {x y : α} (h : l[i]? = some x) : (l.set i y)[i]? = some y := List.getElem?_set_self (List.getElem?_eq_some_iff.1 h).1

theorem bill_pay_eq (left day : Int) (hx : ar[h]? = some x) (ok : BdOk x) (hl : 0 ≤ left) (hl2 : left ≤ 10000000000000) : bill_debt_pay (some h) left day ar = some ((payD left day x).1, ar.set h (payD left day x).2, ()) := by
  have hb := ok.le
  have h0 := ok.owes0
  have h1 := ok.paid0
  unfold owes paid at *
  unfold bill_debt_pay payD owes paid taken done
  have e : (if x.2.1 < left then x.2.1 else left) = min left x.2.1 := by split <;> omega
  simp only [Option.bind_some, hx, set_get hx, e]
  have e1 : w64 (x.2.2.1 + min left x.2.1) = x.2.2.1 + min left x.2.1 := w64_id (by omega) (by omega)
  have e2 : w64 (x.2.1 - min left x.2.1) = x.2.1 - min left x.2.1 := w64_id (by omega) (by omega)
  have e3 : w64 (left - min left x.2.1) = left - min left x.2.1 := w64_id (by omega) (by omega)
  simp only [e1, e2, e3, List.set_set, set_get hx, Option.bind_some]
  by_cases hz : x.2.1 - min left x.2.1 = 0
  · rw [hz]; rfl
  · rw [show (x.2.1 - min left x.2.1 == 0) = false by simpa using hz, cond_false, if_neg hz]

theorem bill_named_eq (left day : Int) (hx : ar[h]? = some x) (ok : BdOk x) (hl : 0 ≤ left) (hl2 : left ≤ 10000000000000) : bill_debt_named (some h) left day ar = some ((namedD left day x).1, ar.set h (namedD left day x).2, ()) := by
  have hb := ok.le
  have h0 := ok.owes0
  have h1 := ok.paid0
  obtain ⟨b1, b2, _⟩ := disc_bound ok
  have d1 := ok.d.day0; have d2 := ok.d.day1; have d3 := ok.d.with0; have d4 := ok.d.with1; have d5 := ok.d.days1
  unfold bill_debt_named namedD
  rw [bill_disc_eq hx ok, bill_pay_eq left day hx ok hl hl2]
  unfold owes paid at *
  simp only [Option.bind_some, hx, set_get hx]
  generalize discD x = dc at *
  have e1 : w64 (x.2.1 - dc) = x.2.1 - dc := w64_id (by omega) (by omega)
  have e2 : w64 (x.1.2.1 + x.1.2.2.2.2.1) = x.1.2.1 + x.1.2.2.2.2.1 := w64_id (by omega) (by omega)
  rw [e1, e2]
  by_cases c1 : left < x.2.1 - dc
  · rw [bif_pos (by omega), if_pos (.inl c1)]
  · rw [bif_neg (by omega)]
    by_cases c2 : x.1.2.1 + x.1.2.2.2.2.1 < day
    · rw [bif_pos (by omega), if_pos (.inr c2)]
    · rw [bif_neg (by omega), if_neg (by omega)]
      have e3 : w64 (x.2.2.1 + (x.2.1 - dc)) = x.2.2.1 + (x.2.1 - dc) := w64_id (by omega) (by omega)
      have e4 : w64 (left - (x.2.1 - dc)) = left - (x.2.1 - dc) := w64_id (by omega) (by omega)
      simp only [e3, e4, List.set_set, set_get hx, Option.bind_some]

theorem payD_ok {left day : Int} (ok : BdOk x) (ht : thereD day x = true) (hday : 0 < day) (hl : 0 ≤ left) : BdOk (payD left day x).2 ∧ 0 ≤ (payD left day x).1 ∧ (payD left day x).1 + paid (payD left day x).2 = left + paid x ∧ (payD left day x).2.1 = x.1 := by
  simp only [thereD, Bool.and_eq_true, decide_eq_true_eq, beq_iff_eq] at ht
  obtain ⟨hd, h0, h1, h2, h3, h4, h5, h6⟩ := ok
  unfold payD
  unfold owes paid taken done at *
  refine ⟨⟨hd, ?_, ?_, ?_, ?_, ?_, ?_, ?_⟩, ?_, ?_, rfl⟩ <;> simp only [owes, paid, taken, done]
  · omega
  · omega
  · exact h2
  · omega
  · intro h; split at h
    · omega
    · exact h4 h
  · split
    · right; exact ht.1
    · exact h5
  · split
    · constructor
      · intro _; omega
      · intro _; assumption
    · constructor
      · intro h; omega
      · intro h; exact absurd ht.2 h
  · omega
  · omega

theorem namedD_ok {left day : Int} (ok : BdOk x) (ht : thereD day x = true) (hday : 0 < day) (hl : 0 ≤ left) : BdOk (namedD left day x).2 ∧ 0 ≤ (namedD left day x).1 ∧ (namedD left day x).1 + paid (namedD left day x).2 = left + paid x ∧ (namedD left day x).2.1 = x.1 := by
  unfold namedD
  split
  · exact payD_ok ok ht hday hl
  · rename_i hc
    obtain ⟨b1, b2, _⟩ := disc_bound ok
    simp only [thereD, Bool.and_eq_true, decide_eq_true_eq, beq_iff_eq] at ht
    obtain ⟨hd, h0, h1, h2, h3, h4, h5, h6⟩ := ok
    have htk := h4 ht.2
    generalize discD x = dc at *
    unfold owes paid taken done at *
    refine ⟨⟨hd, ?_, ?_, ?_, ?_, ?_, ?_, ?_⟩, ?_, ?_, rfl⟩ <;> simp only [owes, paid, taken, done]
    · omega
    · omega
    · omega
    · omega
    · intro h; omega
    · right; exact ht.1
    · constructor
      · intro _; omega
      · intro _; trivial
    · omega
    · omega
end

end Go.Md

namespace Go.Md
open Go.Dn

theorem payD_le {x : Bd} {left day : Int} (ok : BdOk x) (hl : 0 ≤ left) : (payD left day x).1 ≤ left := by
  have := ok.owes0; unfold payD; simp only; omega
theorem namedD_le {x : Bd} {left day : Int} (ok : BdOk x) (hl : 0 ≤ left) : (namedD left day x).1 ≤ left := by
  unfold namedD
  split
  · exact payD_le ok hl
  · obtain ⟨b1, b2, _⟩ := disc_bound ok; simp only; omega

def stepN (day : Int) (find : List UInt8 → Option Nat) (s : Int × List Bd) (n : List UInt8) : Int × List Bd := match find n with
  | some h => (match s.2[h]? with
    | some x => if thereD day x = true then ((namedD s.1 day x).1, s.2.set h (namedD s.1 day x).2) else s
    | none => s)
  | none => s
def stepO (day : Int) (s : Int × List Bd) (o : Option Nat) : Int × List Bd := match o with
  | some h => (match s.2[h]? with
    | some x => if 0 < s.1 ∧ thereD day x = true then ((payD s.1 day x).1, s.2.set h (payD s.1 day x).2) else s
    | none => s)
  | none => s
def onePay (find : List UInt8 → Option Nat) (order : List (Option Nat)) (p : D_api_Payment) (ar : List Bd) : Int × List Bd := order.foldl (stepO p.1) (p.2.2.foldl (stepN p.1 find) (cents p.2.1, ar))
def payAll (find : List UInt8 → Option Nat) (order : List (Option Nat)) (day : Int) : List D_api_Payment → List Int → List Bd → List Int × List Bd
  | [], rest, ar => (rest, ar)
  | p :: r, rest, ar => if day < p.1 then (rest, ar) else payAll find order day r (rest ++ [(onePay find order p ar).1]) (onePay find order p ar).2

/-- The arena: the debts as they came, each right. -/
structure ArOk (ds : List D_api_Debt) (ar : List Bd) : Prop where
  ds : ar.map (·.1) = ds
  ok : ∀ x ∈ ar, BdOk x
theorem ArOk.len {ds : List D_api_Debt} {ar : List Bd} (h : ArOk ds ar) : ar.length = ds.length := by rw [← h.ds]; simp
theorem ArOk.set {ds : List D_api_Debt} {ar : List Bd} (h : ArOk ds ar) {i : Nat} {x y : Bd} (hx : ar[i]? = some x) (hy : BdOk y) (he : y.1 = x.1) : ArOk ds (ar.set i y) := by
  refine ⟨?_, fun z hz => ?_⟩
  · rw [List.map_set, he, ← h.ds]
    apply List.ext_getElem?
    intro j
    by_cases hj : i = j
    · subst hj
      rw [List.getElem?_set_self (by simp; exact (List.getElem?_eq_some_iff.1 hx).1), List.getElem?_map, hx]; rfl
    · rw [List.getElem?_set_ne hj]
  · rcases List.mem_or_eq_of_mem_set hz with hz | rfl
    · exact h.ok z hz
    · exact hy
theorem ArOk.get {ds : List D_api_Debt} {ar : List Bd} (h : ArOk ds ar) {i : Nat} {x : Bd} (hx : ar[i]? = some x) : BdOk x := h.ok x (List.mem_of_getElem? hx)

def sumPaid (ar : List Bd) : Int := (ar.map paid).sum
theorem sum_set {l : List Int} {i : Nat} {x y : Int} (h : l[i]? = some x) : (l.set i y).sum = l.sum + (y - x) := by
  induction l generalizing i with
  | nil => simp at h
  | cons a l ih =>
    cases i with
    | zero => simp at h; subst h; simp; omega
    | succ i => simp only [List.set_cons_succ, List.sum_cons, ih (by simpa using h)]; omega
theorem sumPaid_set {ar : List Bd} {i : Nat} {x y : Bd} (h : ar[i]? = some x) : sumPaid (ar.set i y) = sumPaid ar + (paid y - paid x) := by
  unfold sumPaid
  rw [List.map_set, sum_set (x := paid x) (by rw [List.getElem?_map, h]; rfl)]

/-- A state of a payment. -/
structure StOk (ds : List D_api_Debt) (L T : Int) (s : Int × List Bd) : Prop where
  ar : ArOk ds s.2
  l0 : 0 ≤ s.1
  l1 : s.1 ≤ L
  tot : s.1 + sumPaid s.2 = T

theorem stepN_ok {ds : List D_api_Debt} {L T day : Int} {find : List UInt8 → Option Nat} {s : Int × List Bd} {n : List UInt8} (h : StOk ds L T s) (hday : 0 < day) : StOk ds L T (stepN day find s n) := by
  unfold stepN
  split
  · split
    · rename_i hh x hx
      split
      · rename_i ht
        have hk := h.ar.get hx
        obtain ⟨a1, a2, a3, a4⟩ := namedD_ok hk ht hday h.l0
        have a5 := namedD_le (day := day) hk h.l0
        refine ⟨h.ar.set hx a1 a4, a2, by have := h.l1; simp only; omega, ?_⟩
        simp only
        rw [sumPaid_set hx]
        have := h.tot; omega
      · exact h
    · exact h
  · exact h
theorem stepO_ok {ds : List D_api_Debt} {L T day : Int} {s : Int × List Bd} {o : Option Nat} (h : StOk ds L T s) (hday : 0 < day) : StOk ds L T (stepO day s o) := by
  unfold stepO
  split
  · split
    · rename_i hh x hx
      split
      · rename_i ht
        have hk := h.ar.get hx
        obtain ⟨a1, a2, a3, a4⟩ := payD_ok hk ht.2 hday h.l0
        have a5 := payD_le (day := day) hk h.l0
        refine ⟨h.ar.set hx a1 a4, a2, by have := h.l1; simp only; omega, ?_⟩
        simp only
        rw [sumPaid_set hx]
        have := h.tot; omega
      · exact h
    · exact h
  · exact h
theorem foldN_ok {ds : List D_api_Debt} {L T day : Int} {find : List UInt8 → Option Nat} (hday : 0 < day) : ∀ {l : List (List UInt8)} {s : Int × List Bd}, StOk ds L T s → StOk ds L T (l.foldl (stepN day find) s)
  | [], _, h => h
  | a :: l, s, h => by
    rw [List.foldl_cons]
    exact foldN_ok (l := l) hday (stepN_ok h hday)
theorem foldO_ok {ds : List D_api_Debt} {L T day : Int} (hday : 0 < day) : ∀ {l : List (Option Nat)} {s : Int × List Bd}, StOk ds L T s → StOk ds L T (l.foldl (stepO day) s)
  | [], _, h => h
  | a :: l, s, h => by
    rw [List.foldl_cons]
    exact foldO_ok (l := l) hday (stepO_ok h hday)
theorem onePay_ok {ds : List D_api_Debt} {find : List UInt8 → Option Nat} {order : List (Option Nat)} {p : D_api_Payment} {ar : List Bd} (h : ArOk ds ar) (hp : PayOk p) : StOk ds (cents p.2.1) (cents p.2.1 + sumPaid ar) (onePay find order p ar) := by
  have hday : 0 < p.1 := by have := hp.day0; omega
  exact foldO_ok hday (foldN_ok hday ⟨h, by have := hp.mon.cents; simp only; omega, Int.le_refl _, rfl⟩)

abbrev NMap := List ((List UInt8) × (Option Nat))
def findM (m : NMap) (n : List UInt8) : Option Nat := Option.getD (mget (k := .str) (v := .hnd) m n) none

/-- The named debts. -/
theorem named_loop {ds : List D_api_Debt} {L T : Int} (hL : L ≤ 10000000000000) (day0 : Int) (al : List (Option Nat)) (rest : List Int) (ps : List D_api_Payment) (g1 g2 : Int) (names : List (List UInt8)) (hnl : names.length ≤ 100) (day : Int) (hday : 0 < day) (g3 g4 : Int) (g5 : List (List UInt8)) (order : List (Option Nat)) (m : NMap) (hm : ∀ n h, findM m n = some h → h < ds.length) (left : Int) (ar : List Bd) (hok : StOk ds L T (left, ar)) (fuel : Nat) (hf : names.length < fuel) :
    iter (X := bill_payments_x19) (β := bill_payments_r19) fuel (day0, al, rest, left, ps, g1, g2, names, (names.length : Int), 0, day, g3, g4, g5, order, m, ar, ()) bill_payments_b19 =
      some (Sum.inr (day0, al, rest, (names.foldl (stepN day (findM m)) (left, ar)).1, ps, g1, g2, day, g3, g4, g5, order, m, (names.foldl (stepN day (findM m)) (left, ar)).2, ())) := by
  refine iter_post (Inv := fun i x => ∃ s : Int × List Bd, x = (day0, al, rest, s.1, ps, g1, g2, names, (names.length : Int), (i : Int), day, g3, g4, g5, order, m, s.2, ()) ∧ StOk ds L T s ∧ (names.drop i).foldl (stepN day (findM m)) s = names.foldl (stepN day (findM m)) (left, ar)) names.length
    (fun r => r = some (Sum.inr (day0, al, rest, (names.foldl (stepN day (findM m)) (left, ar)).1, ps, g1, g2, day, g3, g4, g5, order, m, (names.foldl (stepN day (findM m)) (left, ar)).2, ()))) ?_ ?_ fuel 0 _ ⟨(left, ar), rfl, hok, rfl⟩ (by omega) (by omega)
  · rintro i _ again hi ⟨s, rfl, hs, he⟩ ih
    unfold bill_payments_b19
    dsimp only
    have hy : names[i]? = some names[i] := getElem?_of hi
    rw [List.drop_eq_getElem_cons hi, List.foldl_cons] at he
    have next : ∀ s', s' = stepN day (findM m) s names[i] → again (day0, al, rest, s'.1, ps, g1, g2, names, (names.length : Int), w64 ((i : Int) + 1), day, g3, g4, g5, order, m, s'.2, ()) = some (Sum.inr (day0, al, rest, (names.foldl (stepN day (findM m)) (left, ar)).1, ps, g1, g2, day, g3, g4, g5, order, m, (names.foldl (stepN day (findM m)) (left, ar)).2, ())) := by
      intro s' hs'
      rw [w64_id (by omega) (by omega)]
      exact ih _ ⟨s', rfl, by rw [hs']; exact stepN_ok hs hday, by rw [hs']; exact he⟩
    rw [bif_pos (by omega), idx_nat, hy, Option.bind_some]
    change (bif !(Option.isNone (findM m names[i])) then (Option.bind (bill_debt_there (findM m names[i]) day s.2) fun r3 => bif r3.1 then (Option.bind (bill_debt_named (findM m names[i]) s.1 day s.2) fun r4 => again (day0, al, rest, r4.1, ps, g1, g2, names, (names.length : Int), w64 ((i : Int) + 1), day, g3, g4, g5, order, m, r4.2.1, ())) else again (day0, al, rest, s.1, ps, g1, g2, names, (names.length : Int), w64 ((i : Int) + 1), day, g3, g4, g5, order, m, s.2, ())) else again (day0, al, rest, s.1, ps, g1, g2, names, (names.length : Int), w64 ((i : Int) + 1), day, g3, g4, g5, order, m, s.2, ())) = _
    cases hfd : findM m names[i] with
    | none => exact next s (by simp only [stepN, hfd])
    | some h =>
      have hlt := hm _ _ hfd
      have hx : s.2[h]? = some (s.2[h]'(by rw [hs.ar.len]; exact hlt)) := getElem?_of _
      generalize s.2[h]'(by rw [hs.ar.len]; exact hlt) = x at hx
      have hk := hs.ar.get hx
      simp only [Option.isNone_some, Bool.not_false, cond_true]
      rw [bill_there_eq day hx, Option.bind_some]
      dsimp only
      cases ht : thereD day x with
      | false => exact next s (by simp only [stepN, hfd, hx, ht]; rfl)
      | true =>
        have := hs.l1; have := hs.l0
        rw [cond_true, bill_named_eq s.1 day hx hk (by omega) (by omega), Option.bind_some]
        exact next ((namedD s.1 day x).1, s.2.set h (namedD s.1 day x).2) (by simp only [stepN, hfd, hx, ht]; rfl)
  · rintro _ again ⟨s, rfl, hs, he⟩
    unfold bill_payments_b19
    dsimp only
    rw [bif_neg (by omega)]
    rw [List.drop_of_length_le (Nat.le_refl _), List.foldl_nil] at he
    rw [he]

/-- The others. -/
theorem order_loop {ds : List D_api_Debt} {L T : Int} (hL : L ≤ 10000000000000) (day0 : Int) (al : List (Option Nat)) (rest : List Int) (ps : List D_api_Payment) (g1 g2 : Int) (day : Int) (hday : 0 < day) (g3 g4 : Int) (g5 : List (List UInt8)) (order : List (Option Nat)) (hol : order.length < 1000000) (hord : ∀ o ∈ order, ∃ h, o = some h ∧ h < ds.length) (m : NMap) (left : Int) (ar : List Bd) (hok : StOk ds L T (left, ar)) (fuel : Nat) (hf : order.length < fuel) :
    iter (X := bill_payments_x26) (β := bill_payments_r26) fuel (day0, al, rest, left, ps, g1, g2, (order.length : Int), 0, day, g3, g4, g5, order, m, ar, ()) bill_payments_b26 =
      some (Sum.inr (day0, al, rest, (order.foldl (stepO day) (left, ar)).1, ps, g1, g2, order, m, (order.foldl (stepO day) (left, ar)).2, ())) := by
  refine iter_post (Inv := fun i x => ∃ s : Int × List Bd, x = (day0, al, rest, s.1, ps, g1, g2, (order.length : Int), (i : Int), day, g3, g4, g5, order, m, s.2, ()) ∧ StOk ds L T s ∧ (order.drop i).foldl (stepO day) s = order.foldl (stepO day) (left, ar)) order.length
    (fun r => r = some (Sum.inr (day0, al, rest, (order.foldl (stepO day) (left, ar)).1, ps, g1, g2, order, m, (order.foldl (stepO day) (left, ar)).2, ()))) ?_ ?_ fuel 0 _ ⟨(left, ar), rfl, hok, rfl⟩ (by omega) (by omega)
  · rintro i _ again hi ⟨s, rfl, hs, he⟩ ih
    unfold bill_payments_b26
    dsimp only
    have hy : order[i]? = some order[i] := getElem?_of hi
    obtain ⟨h, ho, hlt⟩ := hord order[i] (List.getElem_mem _)
    rw [List.drop_eq_getElem_cons hi, List.foldl_cons] at he
    have next : ∀ s', s' = stepO day s order[i] → again (day0, al, rest, s'.1, ps, g1, g2, (order.length : Int), w64 ((i : Int) + 1), day, g3, g4, g5, order, m, s'.2, ()) = some (Sum.inr (day0, al, rest, (order.foldl (stepO day) (left, ar)).1, ps, g1, g2, order, m, (order.foldl (stepO day) (left, ar)).2, ())) := by
      intro s' hs'
      rw [w64_id (by omega) (by omega)]
      exact ih _ ⟨s', rfl, by rw [hs']; exact stepO_ok hs hday, by rw [hs']; exact he⟩
    rw [bif_pos (by omega), chk_pos (by simp only [Bool.and_eq_true, decide_eq_true_eq]; omega), Int.toNat_natCast, hy, Option.bind_some]
    have hx : s.2[h]? = some (s.2[h]'(by rw [hs.ar.len]; exact hlt)) := getElem?_of _
    generalize s.2[h]'(by rw [hs.ar.len]; exact hlt) = x at hx
    have hk := hs.ar.get hx
    rw [ho] at next ⊢
    by_cases h0 : s.1 > 0
    · rw [bif_pos h0, bill_there_eq day hx, Option.bind_some]
      dsimp only
      cases ht : thereD day x with
      | false => exact next s (by simp only [stepO, hx, ht]; simp)
      | true =>
        have := hs.l1; have := hs.l0
        rw [cond_true, bill_pay_eq s.1 day hx hk (by omega) (by omega), Option.bind_some]
        exact next ((payD s.1 day x).1, s.2.set h (payD s.1 day x).2) (by simp only [stepO, hx, ht]; rw [if_pos ⟨h0, trivial⟩])
    · rw [bif_neg h0]
      exact next s (by simp only [stepO, hx]; rw [if_neg (fun h => h0 h.1)])
  · rintro _ again ⟨s, rfl, hs, he⟩
    unfold bill_payments_b26
    dsimp only
    rw [bif_neg (by omega)]
    rw [List.drop_of_length_le (Nat.le_refl _), List.foldl_nil] at he
    rw [he]

/-- The payments. -/
theorem pays_loop {ds : List D_api_Debt} (day0 : Int) (al : List (Option Nat)) (ps : List D_api_Payment) (hps : ∀ p ∈ ps, PayOk p) (hpl : ps.length ≤ 500) (order : List (Option Nat)) (hol : order.length < 1000000) (hord : ∀ o ∈ order, ∃ h, o = some h ∧ h < ds.length) (m : NMap) (hm : ∀ n h, findM m n = some h → h < ds.length) (ar : List Bd) (hok : ArOk ds ar) (fuel : Nat) (hf : ps.length < fuel) :
    iter (X := bill_payments_x14) (β := bill_payments_r14) fuel (day0, al, [], ps, (ps.length : Int), 0, order, m, ar, ()) bill_payments_b14 =
      some (Sum.inr (al, (payAll (findM m) order day0 ps [] ar).1, (payAll (findM m) order day0 ps [] ar).2, ())) := by
  refine iter_post (Inv := fun i x => ∃ (rest : List Int) (ar' : List Bd), x = (day0, al, rest, ps, (ps.length : Int), (i : Int), order, m, ar', ()) ∧ rest.length = i ∧ ArOk ds ar' ∧ payAll (findM m) order day0 (ps.drop i) rest ar' = payAll (findM m) order day0 ps [] ar) ps.length
    (fun r => r = some (Sum.inr (al, (payAll (findM m) order day0 ps [] ar).1, (payAll (findM m) order day0 ps [] ar).2, ()))) ?_ ?_ fuel 0 _ ⟨[], ar, rfl, rfl, hok, rfl⟩ (by omega) (by omega)
  · rintro i _ again hi ⟨rest, ar', rfl, hr, ha, he⟩ ih
    unfold bill_payments_b14
    dsimp only
    have hy : ps[i]? = some ps[i] := getElem?_of hi
    have hpo := hps ps[i] (List.getElem_mem _)
    rw [List.drop_eq_getElem_cons hi] at he
    rw [bif_pos (by omega), idx_nat, hy, Option.bind_some]
    generalize ps[i] = p at *
    by_cases hd : p.1 > day0
    · rw [bif_pos hd]
      simp only [payAll] at he
      rw [if_pos (by omega)] at he
      rw [← he]
    · rw [bif_neg hd, bill_cents_eq hpo.mon, Option.bind_some]
      dsimp only
      have hday : 0 < p.1 := by have := hpo.day0; omega
      have hc := hpo.mon.cents
      simp only [payAll] at he
      rw [if_neg (by omega)] at he
      have st0 : StOk ds (cents p.2.1) (cents p.2.1 + sumPaid ar') (cents p.2.1, ar') := ⟨ha, by simp only; omega, Int.le_refl _, rfl⟩
      rw [named_loop (ds := ds) hc.2 day0 al rest ps (ps.length : Int) (i : Int) p.2.2 hpo.names p.1 hday p.2.1.1 p.2.1.2 p.2.2 order m hm (cents p.2.1) ar' st0 _ (by omega), joinB_inr]
      dsimp only
      have st1 : StOk ds (cents p.2.1) (cents p.2.1 + sumPaid ar') (p.2.2.foldl (stepN p.1 (findM m)) (cents p.2.1, ar')) := foldN_ok hday st0
      rw [order_loop (ds := ds) hc.2 day0 al rest ps (ps.length : Int) (i : Int) p.1 hday p.2.1.1 p.2.1.2 p.2.2 order hol hord m _ _ st1 _ (by omega), joinB_inr]
      dsimp only
      rw [chk_pos (chk_app (by omega) (by omega)), w64_id (by omega) (by omega)]
      have st2 := onePay_ok (find := findM m) (order := order) ha hpo
      exact ih _ ⟨_, _, rfl, by simp [hr], st2.ar, he⟩
  · rintro _ again ⟨rest, ar', rfl, hr, ha, he⟩
    unfold bill_payments_b14
    dsimp only
    rw [bif_neg (by omega)]
    rw [List.drop_of_length_le (Nat.le_refl _)] at he
    simp only [payAll] at he
    rw [← he]

/-- The arena as the debts come. -/
def arena0 (ds : List D_api_Debt) : List Bd := ds.map fun d => (d, cents d.2.2.1, 0, 0, 0)
theorem arena0_ok {ds : List D_api_Debt} (h : ∀ d ∈ ds, DebtOk d) : ArOk ds (arena0 ds) := by
  refine ⟨by unfold arena0; rw [List.map_map]; exact (List.map_congr_left (fun _ _ => rfl)).trans (List.map_id ds), fun x hx => ?_⟩
  obtain ⟨d, hd, rfl⟩ := List.mem_map.1 hx
  have hc := (h d hd).mon.cents
  exact ⟨h d hd, by simp only [owes]; omega, by simp [paid], by simp [taken], by simp [owes, paid, taken], by simp [taken], .inl (by simp [done]), by simp only [owes, done]; omega⟩

/-- Whose a name is: the last one's. -/
def lastM (n : List UInt8) : List D_api_Debt → Nat → Option Nat → Option Nat
  | [], _, acc => acc
  | d :: r, i, acc => lastM n r (i + 1) (if d.1 == n then some i else acc)
theorem lastM_lt {n : List UInt8} {N : Nat} : ∀ {l : List D_api_Debt} {i : Nat} {acc : Option Nat}, i + l.length = N → (∀ h, acc = some h → h < N) → ∀ h, lastM n l i acc = some h → h < N
  | [], _, _, _, ha, h, hh => ha h hh
  | d :: r, i, acc, hl, ha, h, hh => by
    simp only [lastM] at hh
    refine lastM_lt (l := r) (by simp at hl; omega) (fun h' h2 => ?_) h hh
    split at h2
    · cases h2; simp at hl; omega
    · exact ha h' h2

theorem mget_cons {k v : Ty} (p : k.den × v.den) (m : List (k.den × v.den)) (n : k.den) : mget (p :: m) n = bif k.beq n p.1 then some p.2 else mget m n := by
  unfold mget
  rw [List.find?_cons]
  cases k.beq n p.1 <;> rfl
theorem mset_cons {k v : Ty} (p : k.den × v.den) (m : List (k.den × v.den)) (x : k.den) (y : v.den) : mset (p :: m) x y = bif k.beq x p.1 then (x, y) :: m else p :: mset m x y := rfl
theorem mget_mset {k v : Ty} (hb : ∀ a b : k.den, k.beq a b = true ↔ a = b) (m : List (k.den × v.den)) (x : k.den) (y : v.den) (n : k.den) : mget (mset m x y) n = bif k.beq x n then some y else mget m n := by
  have hcomm : ∀ a b : k.den, k.beq a b = k.beq b a := fun a b => by
    rw [Bool.eq_iff_iff, hb, hb]; exact eq_comm
  induction m with
  | nil =>
    change mget [(x, y)] n = _
    rw [mget_cons, hcomm n x]
  | cons p m ih =>
    rw [mset_cons]
    cases hp : k.beq x p.1 with
    | true =>
      rw [cond_true, mget_cons, mget_cons, hcomm n p.1, ← (hb _ _).1 hp, hcomm n x]
      cases k.beq x n <;> rfl
    | false =>
      rw [cond_false, mget_cons, mget_cons, ih]
      cases hn : k.beq n p.1 with
      | true =>
        have : k.beq x n = false := by
          cases h : k.beq x n with
          | false => rfl
          | true => rw [(hb _ _).1 h, hn] at hp; cases hp
        rw [this]; rfl
      | false => rfl
theorem str_beq (a b : (Ty.str).den) : Ty.beq .str a b = true ↔ a = b := by
  show ((show List UInt8 from a) == (show List UInt8 from b)) = true ↔ _
  exact beq_iff_eq
theorem findM_mset (m : NMap) (x : List UInt8) (y : Option Nat) (n : List UInt8) : findM (mset (k := .str) (v := .hnd) m x y) n = if x == n then y else findM m n := by
  have := mget_mset (k := .str) (v := .hnd) str_beq m x y n
  unfold findM
  cases hx : (x == n) with
  | true =>
    have h2 : Ty.beq .str x n = true := hx
    rw [h2] at this
    have h3 := congrArg (fun o : Option (Option Nat) => o.getD none) this
    exact h3
  | false =>
    have h2 : Ty.beq .str x n = false := hx
    rw [h2] at this
    have h3 := congrArg (fun o : Option (Option Nat) => o.getD none) this
    exact h3

theorem first_loop (ds : List D_api_Debt) (hds : ∀ d ∈ ds, DebtOk d) (hl : ds.length ≤ 200) (ps : List D_api_Payment) (day : Int) (fuel : Nat) (hf : ds.length < fuel) :
    ∃ m : NMap, iter (X := bill_payments_x4) (β := bill_payments_r4) fuel (ps, day, [], ds, (ds.length : Int), 0, [], [], ()) bill_payments_b4 = some (Sum.inr (ps, day, (List.range ds.length).map some, m, arena0 ds, ())) ∧ ∀ n, findM m n = lastM n ds 0 none := by
  refine iter_post (Inv := fun i x => ∃ m : NMap, x = (ps, day, (List.range i).map some, ds, (ds.length : Int), (i : Int), m, arena0 (ds.take i), ()) ∧ ∀ n, lastM n (ds.drop i) i (findM m n) = lastM n ds 0 none) ds.length
    (fun r => ∃ m : NMap, r = some (Sum.inr (ps, day, (List.range ds.length).map some, m, arena0 ds, ())) ∧ ∀ n, findM m n = lastM n ds 0 none) ?_ ?_ fuel 0 _ ⟨[], rfl, fun n => rfl⟩ (by omega) (by omega)
  · rintro i _ again hi ⟨m, rfl, hm⟩ ih
    unfold bill_payments_b4
    dsimp only
    have hy : ds[i]? = some ds[i] := getElem?_of hi
    have hdk := hds ds[i] (List.getElem_mem _)
    have hal : (arena0 (ds.take i)).length = i := by simp [arena0]; omega
    rw [bif_pos (by omega), idx_nat, hy, Option.bind_some, bill_cents_eq hdk.mon, Option.bind_some]
    dsimp only
    rw [chk_pos (chk_app (by simp; omega) (by simp; omega)), w64_id (by omega) (by omega), hal]
    refine ih _ ⟨mset (k := .str) (v := .hnd) m ds[i].1 (some i), ?_, fun n => ?_⟩
    · have e1 : (List.range (i + 1)).map some = (List.range i).map some ++ [some i] := by rw [List.range_succ, List.map_append]; rfl
      have e2 : arena0 (ds.take (i + 1)) = arena0 (ds.take i) ++ [(ds[i], cents ds[i].2.2.1, 0, 0, 0)] := by
        unfold arena0; rw [take_succ_get hy, List.map_append]; rfl
      rw [e1, e2]; rfl
    · have := hm n
      rw [List.drop_eq_getElem_cons hi] at this
      simp only [lastM] at this
      rw [← this]
      congr 1
      exact findM_mset m ds[i].1 (some i) n
  · rintro _ again ⟨m, rfl, hm⟩
    unfold bill_payments_b4
    dsimp only
    rw [bif_neg (by omega), List.take_of_length_le (Nat.le_refl _)]
    refine ⟨m, rfl, fun n => ?_⟩
    have := hm n
    rw [List.drop_of_length_le (Nat.le_refl _)] at this
    exact this

/-- When a debt is to be paid. -/
def keyD (ar : List Bd) (o : Option Nat) : Int := match o with
  | some h => (match ar[h]? with
    | some x => x.1.2.1 + x.1.2.2.2.1
    | none => 0)
  | none => 0
theorem cmp_ok (ar : List Bd) : CmpOk (keyD ar) ar (fun o => ∃ h x, o = some h ∧ ar[h]? = some x ∧ BdOk x) := by
  rintro a b ⟨h, x, rfl, hx, kx⟩ ⟨h', y, rfl, hy, ky⟩
  have a1 := kx.d.day0; have a2 := kx.d.day1; have a3 := kx.d.days0; have a4 := kx.d.days1
  have b1 := ky.d.day0; have b2 := ky.d.day1; have b3 := ky.d.days0; have b4 := ky.d.days1
  unfold bill_payments_1 bill_debt_last
  simp only [Option.bind_some, hx, hy, keyD]
  refine ⟨_, rfl, ?_⟩
  rw [w64_id (n := x.1.2.1 + x.1.2.2.2.1) (by omega) (by omega), w64_id (n := y.1.2.1 + y.1.2.2.2.1) (by omega) (by omega), w64_id (by omega) (by omega)]
  omega

theorem both_same {β : Type} (a : Option β) : both a a = a := both_self a
theorem clone_eq (l : List (Option Nat)) (hl : l.length < 1000000) : slices_Clone_bill_debtP l = some (l, ()) := by
  unfold slices_Clone_bill_debtP
  rw [chk_pos (chk_app (by omega) (by omega))]
  cases l with
  | nil => exact both_same _
  | cons a l => rfl

/-- Laying payments to debts. -/
theorem bill_payments_eq (ds : List D_api_Debt) (hds : ∀ d ∈ ds, DebtOk d) (hl : ds.length ≤ 200) (ps : List D_api_Payment) (hps : ∀ p ∈ ps, PayOk p) (hpl : ps.length ≤ 500) (day : Int) :
    ∃ order, Srt (keyD (arena0 ds)) order ∧ SamE (keyD (arena0 ds)) ((List.range ds.length).map some) order ∧
      bill_payments ds ps day [] = some ((List.range ds.length).map some, (payAll (fun n => lastM n ds 0 none) order day ps [] (arena0 ds)).1, (payAll (fun n => lastM n ds 0 none) order day ps [] (arena0 ds)).2, ()) := by
  have ha := arena0_ok hds
  obtain ⟨m, h1, h2⟩ := first_loop ds hds hl ps day (List.length ps + (Int.natAbs day + (List.length ([] : List (Option Nat)) + (List.length ds + (Int.natAbs ((List.length ds : Int)) + (Int.natAbs (0 : Int) + (List.length ([] : List ((List UInt8) × (Option Nat))) + (List.length ([] : List D_bill_debt) + 2)))))))) (by omega)
  have hall : ∀ o ∈ (List.range ds.length).map some, ∃ h x, o = some h ∧ (arena0 ds)[h]? = some x ∧ BdOk x := by
    intro o ho
    obtain ⟨h, hh, rfl⟩ := List.mem_map.1 ho
    have hlt : h < (arena0 ds).length := by rw [ha.len]; simpa using hh
    exact ⟨h, _, rfl, getElem?_of hlt, ha.get (getElem?_of hlt)⟩
  obtain ⟨order, g1, g2, g3⟩ := sortStable_eq (cmp_ok (arena0 ds)) ((List.range ds.length).map some) (by simp; omega) hall
  refine ⟨order, g2, g3, ?_⟩
  unfold bill_payments
  rw [h1, joinB_inr]
  dsimp only
  rw [clone_eq _ (by simp; omega), Option.bind_some]
  dsimp only
  rw [g1, Option.bind_some]
  dsimp only
  have hfind : findM m = fun n => lastM n ds 0 none := funext h2
  have hord : ∀ o ∈ order, ∃ h, o = some h ∧ h < ds.length := by
    intro o ho
    obtain ⟨h, hh, rfl⟩ := List.mem_map.1 (g3.mem.1 ho)
    exact ⟨h, rfl, by simpa using hh⟩
  have hol : order.length = ds.length := by rw [g3.length]; simp
  rw [pays_loop (ds := ds) day ((List.range ds.length).map some) ps hps hpl order (by omega) hord m (fun n h hh => by
    rw [hfind] at hh
    exact lastM_lt (by simp) (fun h h2 => by cases h2) h hh) (arena0 ds) ha _ (by omega), joinB_inr, hfind]

end Go.Md

namespace Go.Md
open Go.Dn

/-- As few places as a value needs. -/
def few : Nat → Int → Int × Nat
  | 0, z => (z, 0)
  | p + 1, z => if z % 10 = 0 then few p (z / 10) else (z, p + 1)
theorem few_val : ∀ (p : Nat) (z : Int), (few p z).2 ≤ p ∧ (few p z).1 * 10 ^ (p - (few p z).2) = z ∧ (few p z).1.natAbs ≤ z.natAbs
  | 0, z => by simp [few]
  | p + 1, z => by
    unfold few
    split
    · rename_i h
      obtain ⟨h1, h2, h3⟩ := few_val p (z / 10)
      refine ⟨by omega, ?_, by omega⟩
      rw [show p + 1 - (few p (z / 10)).2 = (p - (few p (z / 10)).2) + 1 by omega, Int.pow_succ, ← Int.mul_assoc, h2]
      omega
    · simp
theorem few_zero : ∀ p, few p 0 = (0, 0)
  | 0 => rfl
  | p + 1 => by unfold few; simp [few_zero p]

theorem amount_Made_eq (z : Int) (p : Int) : amount_Made (W z) p = some (if z.natAbs ≤ 1000000000000000 then ((z, p), 0, ()) else ((0, 0), 1, ())) := by
  unfold amount_Made
  rw [whole_Int_Int_eq z 1000000000000000 (by omega) (by omega), Option.bind_some]
  by_cases h : (z.natAbs : Int) ≤ 1000000000000000
  · rw [if_pos h, if_pos (by omega)]; rfl
  · rw [if_neg h, if_neg (by omega)]; rfl

theorem amount_Fewest_eq (z : Int) (hz : z.natAbs < 4294967296 ^ 99) (p : Nat) (hp : p ≤ 1000) : amount_Fewest (W z) (p : Int) = some (if (few p z).1.natAbs ≤ 1000000000000000 then (((few p z).1, ((few p z).2 : Int)), 0, ()) else ((0, 0), 1, ())) := by
  unfold amount_Fewest
  rw [whole_Of_eq 10 (by omega) (by omega), Option.bind_some]
  dsimp only
  have loop : ∀ (n : Nat) (z : Int) (p : Nat), z.natAbs < 4294967296 ^ 99 → p ≤ 1000 → p < n → iter (X := amount_Fewest_x2) (β := amount_Fewest_r2) n ((p : Int), (W z).1, (W z).2, 0, 0, (W 10).1, (W 10).2, ()) amount_Fewest_b2 = some (Sum.inr (((few p z).2 : Int), (W (few p z).1).1, (W (few p z).1).2, 0, 0, ())) := by
    intro n
    induction n with
    | zero => intro z p _ _ h; omega
    | succ n ih =>
      intro z p hz hp hn
      rw [iter_succ]
      generalize hag : (fun y => iter n y amount_Fewest_b2) = again
      unfold amount_Fewest_b2
      dsimp only
      cases p with
      | zero => rw [bif_neg (by omega)]; rfl
      | succ p =>
        have e10 : (10 : Int).natAbs = 10 := rfl
        rw [bif_pos (by omega)]
        change (Option.bind (whole_Int_By (W z) (W 10)) _) = _
        rw [whole_Int_By_eq z 10 hz (by rw [e10]; exact Nat.lt_of_lt_of_le (by omega) (Nat.pow_le_pow_right (n := 4294967296) (by omega) (show 1 ≤ 99 by omega))) (by omega), Option.bind_some]
        dsimp only
        rw [whole_Int_Sign_eq, Option.bind_some]
        dsimp only
        rw [e10]
        by_cases hm : z % 10 = 0
        · have hm2 : z.natAbs % 10 = 0 := by omega
          rw [hm2, show ((((0 : Nat) : Int).sign) != 0) = false from rfl, cond_false]
          change (Option.bind (whole_Int_Sign (W z)) _) = _
          rw [whole_Int_Sign_eq, Option.bind_some]
          dsimp only
          have hf : few (p + 1) z = few p (z / 10) := by simp [few, hm]
          rw [hf]
          have hz' : (z / 10).natAbs < 4294967296 ^ 99 := Nat.lt_of_le_of_lt (by omega) hz
          by_cases hneg : z < 0
          · rw [bif_pos (by rw [Int.sign_eq_neg_one_of_neg hneg]; omega), whole_Int_Minus_eq _ (by simp only [Int.natAbs_natCast]; exact Nat.lt_of_le_of_lt (Nat.div_le_self _ _) hz), Option.bind_some]
            dsimp only
            rw [show -((z.natAbs / 10 : Nat) : Int) = z / 10 by omega, w64_id (by omega) (by omega), show ((p + 1 : Nat) : Int) - 1 = (p : Int) by omega, ← hag]
            exact ih (z / 10) p hz' (by omega) (by omega)
          · rw [bif_neg (by
              rcases (show z = 0 ∨ 0 < z by omega) with h | h
              · subst h; decide
              · rw [Int.sign_eq_one_of_pos h]; omega), show ((z.natAbs / 10 : Nat) : Int) = z / 10 by omega, w64_id (by omega) (by omega), show ((p + 1 : Nat) : Int) - 1 = (p : Int) by omega, ← hag]
            exact ih (z / 10) p hz' (by omega) (by omega)
        · have hm2 : 0 < z.natAbs % 10 := by omega
          have : (((z.natAbs % 10 : Nat) : Int).sign != 0) = true := by
            rw [Int.sign_eq_one_of_pos (by omega)]; rfl
          rw [this, cond_true]
          have hf : few (p + 1) z = (z, p + 1) := by simp [few, hm]
          rw [hf]
  have := loop (Int.natAbs (p : Int) + (List.length (W z).2 + (Int.natAbs (0 : Int) + (Int.natAbs (0 : Int) + (List.length (W 10).2 + 2))))) z p hz hp (by omega)
  rw [this, joinB_inr]
  dsimp only
  change (Option.bind (amount_Made (W (few p z).1) ((few p z).2 : Int)) _) = _
  rw [amount_Made_eq, Option.bind_some]

/-- Money as it is told. -/
def told (n : Int) : D_api_Decimal := ((few 4 n).1, ((few 4 n).2 : Int))
theorem pow32_big : (18446744073709551616 : Nat) ≤ 4294967296 ^ 99 := by
  have := Nat.pow_le_pow_right (n := 4294967296) (by omega) (show 2 ≤ 99 by omega)
  omega
theorem bill_money_eq (n : Int) (h : n.natAbs ≤ 1000000000000000) : bill_money n = some (told n, 0, ()) := by
  unfold bill_money
  rw [whole_Of_eq n (by omega) (by omega), Option.bind_some]
  dsimp only
  have := amount_Fewest_eq n (Nat.lt_of_lt_of_le (by omega) pow32_big) 4 (by omega)
  rw [show ((4 : Nat) : Int) = 4 from rfl] at this
  have h2 := (few_val 4 n).2.2
  rw [this, if_pos (by omega), Option.bind_some]; rfl
theorem bill_toldMoney_eq (n : Int) (h : n.natAbs ≤ 1000000000000000) : bill_toldMoney n = some (told n, ()) := by
  unfold bill_toldMoney
  rw [bill_money_eq n h]; rfl

/-- A decimal with nine places. -/
def dec9 (d : D_api_Decimal) : Int := d.1 * 10 ^ (9 - d.2).toNat
theorem dec9_told (n : Int) : dec9 (told n) = n * 100000 := by
  unfold dec9 told
  obtain ⟨h1, h2, _⟩ := few_val 4 n
  dsimp only
  conv => rhs; rw [← h2]
  rw [Int.mul_assoc]
  congr 1
  rw [show (9 - ((few 4 n).2 : Int)).toNat = (4 - (few 4 n).2) + 5 by omega, Int.pow_add]; rfl
theorem dec9_cents {d : D_api_Decimal} (h : MonOk d) : dec9 d = cents d * 100000 := by
  obtain ⟨h1, h2, h3, h4⟩ := h
  unfold dec9 cents
  rw [Int.mul_assoc]
  congr 1
  rw [show (9 - d.2).toNat = (4 - d.2).toNat + 5 by omega, Int.pow_add]; rfl

/-- A decimal that is one. -/
def DecOk (d : D_api_Decimal) : Prop := d.1.natAbs ≤ 1000000000000000 ∧ 0 ≤ d.2 ∧ d.2 ≤ 9
theorem told_ok {n : Int} (h : n.natAbs ≤ 1000000000000000) : DecOk (told n) := by
  obtain ⟨h1, _, h3⟩ := few_val 4 n
  exact ⟨by simp only [told]; omega, by simp only [told]; omega, by simp only [told]; omega⟩
theorem MonOk.dec {d : D_api_Decimal} (h : MonOk d) : DecOk d := by
  obtain ⟨h1, h2, h3, h4⟩ := h
  have hq : (10 : Int) ^ d.2.toNat ≤ 10000 := by
    have := Nat.pow_le_pow_right (n := 10) (by omega) (show d.2.toNat ≤ 4 by omega)
    have h2 := Int.ofNat_le.2 this
    simpa using h2
  exact ⟨by omega, h2, by omega⟩

theorem len6 {z : Int} (h : z.natAbs < 1000000000000000000000000000000000000000000000000000000000000) : (dg6 z.natAbs).length ≤ 10 := dg6_len (k := 10) (by simpa using h)

theorem r1_Power_eq (n : Nat) (hn : n ≤ 40) : r1_Power (n : Int) = some (N (10 ^ n), ()) := by
  unfold r1_Power
  rw [r1_Of_eq 1 (by omega) (by omega), Option.bind_some]
  dsimp only
  have hb : ∀ i : Nat, i ≤ 41 → (dg6 ((10 : Int) ^ i).natAbs).length ≤ 10 := by
    intro i hi
    refine len6 ?_
    have h1 : ((10 : Int) ^ i).natAbs = 10 ^ i := by rw [Int.natAbs_pow]; rfl
    have h2 := Nat.pow_le_pow_right (n := 10) (by omega) hi
    omega
  have loop : iter (X := r1_Power_x3) (β := r1_Power_r3) (Int.natAbs (n : Int) + (Int.natAbs (0 : Int) + (List.length ([] : List Int) + (List.length (N 1).2 + 2)))) ((n : Int), 0, false, [], (N 1).1, (N 1).2, ()) r1_Power_b3 = some (Sum.inr (false, [], (N (10 ^ n)).1, (N (10 ^ n)).2, ())) := by
    refine iter_post (Inv := fun i x => x = ((n : Int), (i : Int), false, [], (N (10 ^ i)).1, (N (10 ^ i)).2, ())) n (fun r => r = some (Sum.inr (false, [], (N (10 ^ n)).1, (N (10 ^ n)).2, ()))) ?_ ?_ _ 0 _ (by simp) (by omega) (by omega)
    · rintro i _ again hi rfl ih
      unfold r1_Power_b3
      dsimp only
      rw [bif_pos (by omega), r1_Of_eq 10 (by omega) (by omega), Option.bind_some]
      change (Option.bind (r1_TimesOf (N (10 ^ i)) (N 10)) _) = _
      have h10 : (dg6 (10 : Int).natAbs).length ≤ 10 := len6 (by decide)
      rw [r1_TimesOf_eq _ _ (by have := hb i (by omega); omega) (by omega), Option.bind_some]
      dsimp only
      rw [w64_id (by omega) (by omega)]
      exact ih _ (by rw [Int.pow_succ]; rfl)
    · rintro _ again rfl
      unfold r1_Power_b3
      dsimp only
      rw [bif_neg (by omega)]
  rw [loop, joinB_inr]

theorem r1_At_eq (d : D_api_Decimal) (hd : DecOk d) : r1_At d 9 = some (N (dec9 d), ()) := by
  obtain ⟨h1, h2, h3⟩ := hd
  unfold r1_At
  rw [r1_Of_eq _ (by omega) (by omega), Option.bind_some, w64_id (by omega) (by omega)]
  dsimp only
  obtain ⟨m, hm⟩ : ∃ m : Nat, 9 - d.2 = m := ⟨(9 - d.2).toNat, by omega⟩
  rw [hm, r1_Power_eq m (by omega), Option.bind_some]
  dsimp only
  have hl1 : (dg6 d.1.natAbs).length ≤ 10 := len6 (by omega)
  have hl2 : (dg6 ((10 : Int) ^ m).natAbs).length ≤ 10 := by
    refine len6 ?_
    have h1 : ((10 : Int) ^ m).natAbs = 10 ^ m := by rw [Int.natAbs_pow]; rfl
    have h2 := Nat.pow_le_pow_right (n := 10) (by omega) (show m ≤ 9 by omega)
    omega
  rw [r1_TimesOf_eq _ _ (by omega) (by omega), Option.bind_some]
  unfold dec9
  rw [hm]; rfl
theorem dec9_bound {d : D_api_Decimal} (hd : DecOk d) : (dec9 d).natAbs ≤ 1000000000000000000000000 := by
  obtain ⟨h1, h2, h3⟩ := hd
  unfold dec9
  rw [Int.natAbs_mul, Int.natAbs_pow]
  have h4 := Nat.pow_le_pow_right (n := 10) (by omega) (show (9 - d.2).toNat ≤ 9 by omega)
  have h5 : d.1.natAbs * (10 : Int).natAbs ^ (9 - d.2).toNat ≤ 1000000000000000 * 1000000000 := Nat.mul_le_mul h1 (by simpa using h4)
  omega

def sum9 (l : List D_api_Decimal) : Int := (l.map dec9).sum
theorem sum9_bound : ∀ {l : List D_api_Decimal}, (∀ d ∈ l, DecOk d) → (sum9 l).natAbs ≤ l.length * 1000000000000000000000000
  | [], _ => by simp [sum9]
  | d :: l, h => by
    have h1 := dec9_bound (h d (by simp))
    have h2 := sum9_bound (l := l) (fun x hx => h x (by simp [hx]))
    have e : sum9 (d :: l) = dec9 d + sum9 l := by simp [sum9]
    rw [e, List.length_cons]
    omega
theorem r11_Money_eq (l : List D_api_Decimal) (hl : l.length ≤ 1000000) (hok : ∀ d ∈ l, DecOk d) : r11_Money l = some (N (sum9 l), ()) := by
  unfold r11_Money r1_Exact
  have loop : iter (X := r1_Exact_x3) (β := r1_Exact_r3) (List.length l + (Int.natAbs ((List.length l : Int)) + (Int.natAbs (0 : Int) + (List.length ([] : List Int) + (List.length ([] : List Int) + 2))))) (l, (List.length l : Int), 0, false, [], false, [], ()) r1_Exact_b3 = some (Sum.inr (false, [], (N (sum9 l)).1, (N (sum9 l)).2, ())) := by
    refine iter_post (Inv := fun i x => x = (l, (List.length l : Int), (i : Int), false, [], (N (sum9 (l.take i))).1, (N (sum9 (l.take i))).2, ())) l.length (fun r => r = some (Sum.inr (false, [], (N (sum9 l)).1, (N (sum9 l)).2, ()))) ?_ ?_ _ 0 _ (by simp [sum9, N, dg6_zero]) (by omega) (by omega)
    · rintro i _ again hi rfl ih
      unfold r1_Exact_b3
      dsimp only
      have hy : l[i]? = some l[i] := getElem?_of hi
      have hdk := hok l[i] (List.getElem_mem _)
      have hb := sum9_bound (l := l.take i) (fun d hd => hok d (List.mem_of_mem_take hd))
      rw [List.length_take] at hb
      have hb2 := dec9_bound hdk
      rw [bif_pos (by omega), idx_nat, hy, Option.bind_some, r1_At_eq _ hdk, Option.bind_some]
      change (Option.bind (r1_Plus (N (sum9 (l.take i))) (N (dec9 l[i]))) _) = _
      have l1 : (dg6 (sum9 (l.take i)).natAbs).length ≤ 10 := len6 (by omega)
      have l2 : (dg6 (dec9 l[i]).natAbs).length ≤ 10 := len6 (by omega)
      rw [r1_Plus_eq _ _ (by omega) (by omega), Option.bind_some]
      dsimp only
      rw [w64_id (by omega) (by omega)]
      refine ih _ ?_
      have e : sum9 (l.take (i + 1)) = sum9 (l.take i) + dec9 l[i] := by rw [take_succ_get hy]; unfold sum9; rw [List.map_append, List.sum_append]; simp
      rw [e]; rfl
    · rintro _ again rfl
      unfold r1_Exact_b3
      dsimp only
      rw [bif_neg (by omega), List.take_of_length_le (Nat.le_refl _)]
  rw [loop, joinB_inr]; rfl
theorem sum9_len {l : List D_api_Decimal} (hl : l.length ≤ 1000000) (hok : ∀ d ∈ l, DecOk d) : (dg6 (sum9 l).natAbs).length ≤ 10 := len6 (by have := sum9_bound hok; omega)

end Go.Md

namespace Go.Md
open Go.Dn

def paidOf (x : Bd) : D_api_Paid := (x.1.1, told (paid x), told (taken x), done x)

theorem payAll_ok {ds : List D_api_Debt} {find : List UInt8 → Option Nat} {order : List (Option Nat)} {day : Int} : ∀ {ps : List D_api_Payment} {rest : List Int} {ar : List Bd}, (∀ p ∈ ps, PayOk p) → ArOk ds ar → (∀ n ∈ rest, 0 ≤ n ∧ n ≤ 10000000000000) →
    ArOk ds (payAll find order day ps rest ar).2 ∧ (∀ n ∈ (payAll find order day ps rest ar).1, 0 ≤ n ∧ n ≤ 10000000000000)
  | [], _, _, _, ha, hr => ⟨ha, hr⟩
  | p :: ps, rest, ar, hp, ha, hr => by
    unfold payAll
    split
    · exact ⟨ha, hr⟩
    · have hpo := hp p (by simp)
      have hs := onePay_ok (find := find) (order := order) ha hpo
      refine payAll_ok (fun q hq => hp q (by simp [hq])) hs.ar (fun n hn => ?_)
      rcases List.mem_append.1 hn with h | h
      · exact hr n h
      · rw [List.mem_singleton.1 h]
        have := hpo.mon.cents; have := hs.l0; have := hs.l1; omega
theorem payAll_sum {ds : List D_api_Debt} {find : List UInt8 → Option Nat} {order : List (Option Nat)} {day : Int} : ∀ {ps : List D_api_Payment} {rest : List Int} {ar : List Bd}, (∀ p ∈ ps, PayOk p) → (∀ p ∈ ps, p.1 ≤ day) → ArOk ds ar →
    (payAll find order day ps rest ar).1.sum + sumPaid (payAll find order day ps rest ar).2 = rest.sum + sumPaid ar + (ps.map fun p => cents p.2.1).sum ∧ (payAll find order day ps rest ar).1.length = rest.length + ps.length
  | [], _, _, _, _, _ => by simp [payAll]
  | p :: ps, rest, ar, hp, hd, ha => by
    unfold payAll
    rw [if_neg (by have := hd p (by simp); omega)]
    have hpo := hp p (by simp)
    have hs := onePay_ok (find := find) (order := order) ha hpo
    obtain ⟨h1, h2⟩ := payAll_sum (ps := ps) (find := find) (order := order) (day := day) (rest := rest ++ [(onePay find order p ar).1]) (fun q hq => hp q (by simp [hq])) (fun q hq => hd q (by simp [hq])) hs.ar
    refine ⟨?_, by rw [h2]; simp; omega⟩
    rw [h1]
    have := hs.tot
    simp only [List.sum_append, List.sum_cons, List.sum_nil, List.map_cons]
    omega

theorem range_get {ar : List Bd} {n i : Nat} (hn : ar.length = n) (hi : i < n) : ((List.range n).map some)[i]? = some (some i) := by simp [hi]

/-- What Pay returns. -/
theorem bill_Pay_eq (ds : List D_api_Debt) (ps : List D_api_Payment) :
    (∃ f, f ≠ 0 ∧ bill_Pay ds ps = some ([], [], f, ()) ∧ f = (if debtsF ds ≠ 0 then debtsF ds else paysF ps)) ∨
    (debtsF ds = 0 ∧ paysF ps = 0 ∧ ∃ order, Srt (keyD (arena0 ds)) order ∧ SamE (keyD (arena0 ds)) ((List.range ds.length).map some) order ∧
      bill_Pay ds ps = some ((payAll (fun n => lastM n ds 0 none) order 3652059 ps [] (arena0 ds)).2.map paidOf, (payAll (fun n => lastM n ds 0 none) order 3652059 ps [] (arena0 ds)).1.map told, 0, ())) := by
  unfold bill_Pay
  rw [bill_bothFault_eq, Option.bind_some]
  dsimp only
  by_cases hf : (if debtsF ds ≠ 0 then debtsF ds else paysF ps) = 0
  · right
    have h1 : debtsF ds = 0 := by
      by_cases h : debtsF ds = 0
      · exact h
      · rw [if_pos h] at hf; exact hf
    have h2 : paysF ps = 0 := by rw [if_neg (not_not_intro h1)] at hf; exact hf
    obtain ⟨hl, hds⟩ := debtsF_zero h1
    obtain ⟨hpl, hps⟩ := paysF_zero h2
    obtain ⟨order, g1, g2, g3⟩ := bill_payments_eq ds hds hl ps hps hpl 3652059
    refine ⟨h1, h2, order, g1, g2, ?_⟩
    rw [hf, show ((0 : Int) != 0) = false from rfl, cond_false, g3, Option.bind_some]
    dsimp only
    have ha := payAll_ok (find := fun n => lastM n ds 0 none) (order := order) (day := 3652059) (rest := []) hps (arena0_ok hds) (by simp)
    generalize hres : payAll (fun n => lastM n ds 0 none) order 3652059 ps [] (arena0 ds) = res at ha
    obtain ⟨rest, ar⟩ := res
    dsimp only at ha ⊢
    have hal : ar.length = ds.length := ha.1.len
    have loop1 : ∀ (hnd : List (Option Nat)), hnd = (List.range ds.length).map some → ∀ fuel, hnd.length < fuel → iter (X := bill_Pay_x7) (β := bill_Pay_r7) fuel (rest, [], hnd, (hnd.length : Int), 0, ar, ()) bill_Pay_b7 = some (Sum.inr (rest, ar.map paidOf, ar, ())) := by
      intro hnd hh fuel hfu
      have hlen : hnd.length = ds.length := by rw [hh]; simp
      refine iter_post (Inv := fun i x => x = (rest, (ar.take i).map paidOf, hnd, (hnd.length : Int), (i : Int), ar, ())) hnd.length (fun r => r = some (Sum.inr (rest, ar.map paidOf, ar, ()))) ?_ ?_ fuel 0 _ (by simp) (by omega) (by omega)
      · rintro i _ again hi rfl ih
        unfold bill_Pay_b7
        dsimp only
        have hx : ar[i]? = some (ar[i]'(by omega)) := getElem?_of _
        generalize ar[i]'(by omega) = x at hx
        have hk := ha.1.get hx
        have hb := hk.le
        have p0 := hk.paid0
        have t0 := hk.taken0
        have hg : hnd[i]? = some (some i) := by rw [hh]; exact range_get hal (by omega)
        rw [bif_pos (by omega), idx_nat, hg]
        simp only [Option.bind_some, hx]
        change (Option.bind (bill_toldMoney (paid x)) fun r7 => Option.bind (bill_toldMoney (taken x)) fun r10 => _) = _
        rw [bill_toldMoney_eq _ (by omega), Option.bind_some, bill_toldMoney_eq _ (by omega), Option.bind_some]
        dsimp only
        rw [chk_pos (chk_app (by simp; omega) (by simp; omega)), w64_id (by omega) (by omega)]
        refine ih _ ?_
        rw [take_succ_get hx, List.map_append]; rfl
      · rintro _ again rfl
        unfold bill_Pay_b7
        dsimp only
        rw [bif_neg (by omega), List.take_of_length_le (by omega)]
    have hrl : rest.length ≤ ps.length := by
      have := (payAll_sum (ds := ds) (find := fun n => lastM n ds 0 none) (order := order) (day := 3652059) (rest := []) (ar := arena0 ds) hps (fun p hp => (hps p hp).day1) (arena0_ok hds)).2
      rw [hres] at this; simp at this; omega
    have loop2 : ∀ (xs : List D_api_Paid) fuel, rest.length < fuel → iter (X := bill_Pay_x13) (β := bill_Pay_r13) fuel (xs, [], rest, (rest.length : Int), 0, ar, ()) bill_Pay_b13 = some (Sum.inr (xs, rest.map told, ar, ())) := by
      intro xs fuel hfu
      refine iter_post (Inv := fun i x => x = (xs, (rest.take i).map told, rest, (rest.length : Int), (i : Int), ar, ())) rest.length (fun r => r = some (Sum.inr (xs, rest.map told, ar, ()))) ?_ ?_ fuel 0 _ (by simp) (by omega) (by omega)
      · rintro i _ again hi rfl ih
        unfold bill_Pay_b13
        dsimp only
        have hx : rest[i]? = some (rest[i]'(by omega)) := getElem?_of _
        have hb := ha.2 (rest[i]'(by omega)) (List.getElem_mem _)
        generalize rest[i]'(by omega) = x at hx hb
        rw [bif_pos (by omega), idx_nat, hx, Option.bind_some, bill_toldMoney_eq _ (by omega), Option.bind_some]
        dsimp only
        rw [chk_pos (chk_app (by simp; omega) (by simp; omega)), w64_id (by omega) (by omega)]
        refine ih _ ?_
        rw [take_succ_get hx, List.map_append]; rfl
      · rintro _ again rfl
        unfold bill_Pay_b13
        dsimp only
        rw [bif_neg (by omega), List.take_of_length_le (by omega)]
    rw [loop1 _ rfl _ (by omega), joinB_inr]
    dsimp only
    rw [loop2 _ _ (by omega), joinB_inr]
  · left
    refine ⟨_, hf, ?_, rfl⟩
    rw [show ((if debtsF ds ≠ 0 then debtsF ds else paysF ps) != 0) = true by simpa using hf, cond_true]

theorem isNm_a : isNm [97] = true := by rfl
theorem l11_awake_eq : l11_awake = some (true, ()) := by
  unfold l11_awake
  have hd : debtsF [([97], 5, (7, 0), 0, 0, 0)] = 0 := by
    unfold debtsF
    have : debtF [([97], 5, (7, 0), 0, 0, 0)] 0 ([97], 5, (7, 0), 0, 0, 0) = 0 := by
      unfold debtF; rw [isNm_a]; decide
    simp only [scanF, this]; decide
  have hp : paysF [(6, (9, 0), [])] = 0 := by decide
  rcases bill_Pay_eq [([97], 5, (7, 0), 0, 0, 0)] [(6, (9, 0), [])] with ⟨f, h1, _, h3⟩ | ⟨_, _, order, _, h2, h3⟩
  · rw [hd, hp] at h3; simp at h3; exact absurd h3 h1
  · have ho : order = [some 0] := by
      have := h2.perm
      exact List.perm_singleton.1 this.symm
    rw [h3, Option.bind_some]
    subst ho
    rfl

theorem clone_dec_eq (l : List D_api_Decimal) (hl : l.length < 1000000) : slices_Clone_api_Decimal l = some (l, ()) := by
  unfold slices_Clone_api_Decimal
  rw [chk_pos (chk_app (by omega) (by omega))]
  cases l with
  | nil => exact both_same _
  | cons a l => rfl

theorem sum9_told (l : List Int) : sum9 (l.map told) = l.sum * 100000 := by
  induction l with
  | nil => rfl
  | cons a l ih =>
    have e : sum9 ((a :: l).map told) = dec9 (told a) + sum9 (l.map told) := by simp [sum9]
    rw [e, ih, dec9_told, List.sum_cons, Int.add_mul]
theorem sum9_append (a b : List D_api_Decimal) : sum9 (a ++ b) = sum9 a + sum9 b := by simp [sum9]
theorem sum9_amounts : ∀ {ps : List D_api_Payment}, (∀ p ∈ ps, PayOk p) → sum9 (ps.map fun p => p.2.1) = (ps.map fun p => cents p.2.1).sum * 100000
  | [], _ => rfl
  | p :: ps, h => by
    have e : sum9 ((p :: ps).map fun p => p.2.1) = dec9 p.2.1 + sum9 (ps.map fun p => p.2.1) := by simp [sum9]
    rw [e, sum9_amounts (fun q hq => h q (by simp [hq])), dec9_cents (h p (by simp)).mon, List.map_cons, List.sum_cons, Int.add_mul]

/-- The law. -/
theorem paysAddUp (ds : List D_api_Debt) (ps : List D_api_Payment) : l11_BillPaysAddUp ds ps = some (true, ()) := by
  unfold l11_BillPaysAddUp
  rcases bill_Pay_eq ds ps with ⟨f, h1, h2, _⟩ | ⟨hd, hp, order, _, _, h3⟩
  · rw [h2, Option.bind_some]
    dsimp only
    rw [show (f != 0) = true by simpa using h1, l11_awake_eq]
    rfl
  · obtain ⟨hl, hds⟩ := debtsF_zero hd
    obtain ⟨hpl, hps⟩ := paysF_zero hp
    rw [h3, Option.bind_some]
    have ha := payAll_ok (find := fun n => lastM n ds 0 none) (order := order) (day := 3652059) (rest := []) hps (arena0_ok hds) (by simp)
    have hsum := payAll_sum (ds := ds) (find := fun n => lastM n ds 0 none) (order := order) (day := 3652059) (rest := []) (ar := arena0 ds) hps (fun p hp => (hps p hp).day1) (arena0_ok hds)
    generalize payAll (fun n => lastM n ds 0 none) order 3652059 ps [] (arena0 ds) = res at ha hsum
    obtain ⟨rest, ar⟩ := res
    dsimp only at ha hsum ⊢
    have hal : ar.length = ds.length := ha.1.len
    have hz : sumPaid (arena0 ds) = 0 := by
      unfold sumPaid arena0
      generalize ds = l
      induction l with
      | nil => rfl
      | cons a l ih => simp only [List.map_cons, List.sum_cons, ih, paid]; rfl
    rw [hz] at hsum
    simp only [List.sum_nil, List.length_nil, Nat.zero_add, Int.zero_add] at hsum
    obtain ⟨hs1, hs2⟩ := hsum
    rw [show ((0 : Int) != 0) = false from rfl, cond_false]
    simp only [List.length_map]
    rw [show ((ar.length : Int) != (ds.length : Int)) = false by simp [hal], cond_false, show ((rest.length : Int) != (ps.length : Int)) = false by simp [hs2], cond_false, l11_awake_eq, Option.bind_some]
    dsimp only
    rw [Bool.not_true, cond_false, clone_dec_eq _ (by simp; omega), Option.bind_some]
    dsimp only
    -- what came
    have loop1 : ∀ fuel, ps.length < fuel → iter (X := l11_BillPaysAddUp_x8) (β := l11_BillPaysAddUp_r8) fuel (ds, ar.map paidOf, [], ps, (ps.length : Int), 0, rest.map told, ()) l11_BillPaysAddUp_b8 = some (Sum.inr (ds, ar.map paidOf, ps.map (fun p => p.2.1), rest.map told, ())) := by
      intro fuel hf
      refine iter_post (Inv := fun i x => x = (ds, ar.map paidOf, (ps.take i).map (fun p => p.2.1), ps, (ps.length : Int), (i : Int), rest.map told, ())) ps.length (fun r => r = some (Sum.inr (ds, ar.map paidOf, ps.map (fun p => p.2.1), rest.map told, ()))) ?_ ?_ fuel 0 _ (by simp) (by omega) (by omega)
      · rintro i _ again hi rfl ih
        unfold l11_BillPaysAddUp_b8
        dsimp only
        have hy : ps[i]? = some ps[i] := getElem?_of hi
        rw [bif_pos (by omega), idx_nat, hy, Option.bind_some, chk_pos (chk_app (by simp; omega) (by simp; omega)), w64_id (by omega) (by omega)]
        refine ih _ ?_
        rw [take_succ_get hy, List.map_append]; rfl
      · rintro _ again rfl
        unfold l11_BillPaysAddUp_b8
        dsimp only
        rw [bif_neg (by omega), List.take_of_length_le (Nat.le_refl _)]
    rw [loop1 _ (by omega), joinB_inr]
    dsimp only
    -- each debt
    have hget : ∀ {i : Nat} {x : Bd}, ar[i]? = some x → ds[i]? = some x.1 := by
      intro i x hx
      have := congrArg (·[i]?) ha.1.ds
      simp only [List.getElem?_map, hx] at this
      exact this.symm
    have loop2 : ∀ (came : List D_api_Decimal) fuel, ar.length < fuel → iter (X := l11_BillPaysAddUp_x13) (β := l11_BillPaysAddUp_r13) fuel (ds, came, rest.map told, ar.map paidOf, (List.length (ar.map paidOf) : Int), 0, ()) l11_BillPaysAddUp_b13 = some (Sum.inr (came, rest.map told ++ (ar.map paid).map told, ())) := by
      intro came fuel hf
      refine iter_post (Inv := fun i x => x = (ds, came, rest.map told ++ ((ar.take i).map paid).map told, ar.map paidOf, (List.length (ar.map paidOf) : Int), (i : Int), ())) ar.length (fun r => r = some (Sum.inr (came, rest.map told ++ (ar.map paid).map told, ()))) ?_ ?_ fuel 0 _ (by simp) (by omega) (by omega)
      · rintro i _ again hi rfl ih
        unfold l11_BillPaysAddUp_b13
        dsimp only
        have hx : ar[i]? = some (ar[i]'(by omega)) := getElem?_of _
        generalize ar[i]'(by omega) = x at hx
        have hy : (ar.map paidOf)[i]? = some (paidOf x) := by rw [List.getElem?_map, hx]; rfl
        have hdi := hget hx
        have hk := ha.1.get hx
        have hb := hk.le
        have p0 := hk.paid0; have t0 := hk.taken0; have o0 := hk.owes0; have hsm := hk.sum; have hiff := hk.iff; have hdn := hk.done0; have hnn := hk.none; have hd0 := hk.d.day0
        have hcn := hk.d.mon.cents
        rw [List.length_map, bif_pos (by omega), idx_nat, hy, Option.bind_some, chk_pos (chk_app (by simp; omega) (by simp; omega)), idx_nat, hdi]
        simp only [Option.bind_some]
        have e1 : (paidOf x).2.1 = told (paid x) := rfl
        have e2 : (paidOf x).2.2.1 = told (taken x) := rfl
        have e3 : (paidOf x).2.2.2 = done x := rfl
        have e4 : (paidOf x).1 = x.1.1 := rfl
        rw [e1, e2, e3, e4]
        have ok1 : ∀ d ∈ [told (paid x), told (taken x)], DecOk d := by
          intro d hd
          simp only [List.mem_cons, List.mem_nil_iff, or_false] at hd
          rcases hd with rfl | rfl
          · exact told_ok (by omega)
          · exact told_ok (by omega)
        have ok2 : ∀ d ∈ [x.1.2.2.1], DecOk d := by
          intro d hd
          rw [List.mem_singleton.1 hd]
          exact hk.d.mon.dec
        have s1 : sum9 [told (paid x), told (taken x)] = (paid x + taken x) * 100000 := by
          simp only [sum9, List.map_cons, List.map_nil, List.sum_cons, List.sum_nil, dec9_told]; omega
        have s2 : sum9 [x.1.2.2.1] = cents x.1.2.2.1 * 100000 := by
          simp only [sum9, List.map_cons, List.map_nil, List.sum_cons, List.sum_nil, dec9_cents hk.d.mon]; omega
        have l1 := sum9_len (l := [told (paid x), told (taken x)]) (by simp) ok1
        have l2 := sum9_len (l := [x.1.2.2.1]) (by simp) ok2
        rw [r11_Money_eq _ (by simp) ok1, Option.bind_some, r11_Money_eq _ (by simp) ok2, Option.bind_some]
        dsimp only
        rw [r1_Cmp_eq _ _ (by omega) (by omega), Option.bind_some, s1, s2]
        dsimp only
        have next : again (ds, came, rest.map told ++ ((ar.take i).map paid).map told ++ [told (paid x)], ar.map paidOf, (ar.length : Int), w64 ((i : Int) + 1), ()) = some (Sum.inr (came, rest.map told ++ (ar.map paid).map told, ())) := by
          rw [w64_id (by omega) (by omega)]
          refine ih _ ?_
          rw [take_succ_get hx, List.map_append, List.map_append, List.append_assoc]; simp
        have hnn2 : (x.1.1 == x.1.1) = true := by simp
        rw [hnn2]
        by_cases ho : owes x = 0
        · have hz : (paid x + taken x) * 100000 - cents x.1.2.2.1 * 100000 = 0 := by omega
          have hdone : done x ≠ 0 := hiff.1 ho
          have hpos : 0 < done x := by omega
          rw [hz, decide_eq_true (show done x > 0 from hpos), show (done x == 0) = false by simpa using hdone, decide_eq_false (show ¬ done x < x.1.2.1 by omega)]
          exact next
        · have hneg : (paid x + taken x) * 100000 - cents x.1.2.2.1 * 100000 < 0 := by omega
          have hdone : done x = 0 := by
            rcases Decidable.em (done x = 0) with h | h
            · exact h
            · exact absurd (hiff.2 h) ho
          have htk : taken x = 0 := hnn hdone
          have ht0 : (told (taken x)).1 = 0 := by rw [htk]; rfl
          rw [Int.sign_eq_neg_one_of_neg hneg, hdone, ht0]
          exact next
      · rintro _ again rfl
        unfold l11_BillPaysAddUp_b13
        dsimp only
        rw [List.length_map, bif_neg (by omega), List.take_of_length_le (Nat.le_refl _)]
    have := loop2 (ps.map fun p => p.2.1) (List.length ds + (List.length (ps.map fun p => p.2.1) + (List.length (rest.map told) + (List.length (ar.map paidOf) + (Int.natAbs ((List.length (ar.map paidOf) : Int)) + (Int.natAbs (0 : Int) + 2)))))) (by simp; omega)
    rw [this, joinB_inr]
    dsimp only
    have okc : ∀ d ∈ ps.map (fun p => p.2.1), DecOk d := by
      intro d hd
      obtain ⟨p, hp, rfl⟩ := List.mem_map.1 hd
      exact (hps p hp).mon.dec
    have okw : ∀ d ∈ rest.map told ++ (ar.map paid).map told, DecOk d := by
      intro d hd
      rcases List.mem_append.1 hd with h | h
      · obtain ⟨n, hn, rfl⟩ := List.mem_map.1 h
        have := ha.2 n hn
        exact told_ok (by omega)
      · obtain ⟨n, hn, rfl⟩ := List.mem_map.1 h
        obtain ⟨x, hx, rfl⟩ := List.mem_map.1 hn
        have := (ha.1.ok x hx).le
        have := (ha.1.ok x hx).paid0
        exact told_ok (by omega)
    have l1 := sum9_len (l := ps.map (fun p => p.2.1)) (by simp; omega) okc
    have l2 := sum9_len (l := rest.map told ++ (ar.map paid).map told) (by simp; omega) okw
    rw [r11_Money_eq _ (by simp; omega) okc, Option.bind_some, r11_Money_eq _ (by simp; omega) okw, Option.bind_some]
    dsimp only
    rw [r1_Cmp_eq _ _ (by omega) (by omega), Option.bind_some, sum9_amounts hps, sum9_append, sum9_told, sum9_told]
    have e : (ps.map fun p => cents p.2.1).sum * 100000 - (rest.sum * 100000 + (ar.map paid).sum * 100000) = 0 := by
      unfold sumPaid at hs1; omega
    rw [e]; rfl

end Go.Md
