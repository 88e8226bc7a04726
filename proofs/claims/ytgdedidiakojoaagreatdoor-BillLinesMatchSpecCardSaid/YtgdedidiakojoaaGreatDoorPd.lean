/-
  Plain facts: OpenAt and Ages; names, as the reference sees them. No condition.
-/
import Derived.Test.YtgdedidiakojoaaGreatDoorPc
import Derived.Test.YtgdedidiakojoaaGreatDoorMd
set_option linter.all false
namespace Go.Md
open Go.Dn

end Go.Md

namespace Go.Md
open Go.Dn

theorem iter_scan2 {X α B : Type} {f : X → (X → Option B) → Option B} (mk : Nat → X) (l : List α) (g : Nat → α → Int) (fin : Option B) (out : Int → Option B)
    (hstep : ∀ i y again, l[i]? = some y → f (mk i) again = if g i y = 0 then again (mk (i + 1)) else out (g i y)) (hend : ∀ again, f (mk l.length) again = fin) :
    ∀ (r : List α) (i n : Nat), l.drop i = r → i ≤ l.length → r.length < n → iter n (mk i) f = if scanF g i r = 0 then fin else out (scanF g i r)
  | _, _, 0, _, _, hn => absurd hn (Nat.not_lt_zero _)
  | [], i, n + 1, hd, hi, _ => by
    have : i = l.length := by
      have := congrArg List.length hd
      simp at this; omega
    subst this
    rw [iter_succ, hend]; rfl
  | y :: r, i, n + 1, hd, hi, hn => by
    have hy : l[i]? = some y := by
      have := congrArg (·[0]?) hd
      simpa [List.getElem?_drop] using this
    have hr : l.drop (i + 1) = r := by
      have := congrArg List.tail hd
      simpa [List.tail_drop] using this
    have hi' : i < l.length := (List.getElem?_eq_some_iff.1 hy).1
    rw [iter_succ, hstep i y _ hy]
    by_cases hg : g i y = 0
    · have e : scanF g i (y :: r) = scanF g (i + 1) r := by simp [scanF, hg]
      rw [if_pos hg, e]
      exact iter_scan2 mk l g fin out hstep hend r (i + 1) n hr hi' (by simp at hn; omega)
    · have e : scanF g i (y :: r) = g i y := by simp [scanF, hg]
      rw [if_neg hg, e, if_neg hg]

end Go.Md

namespace Go.Md
open Go.Dn

/-- Not done by a day. -/
def LaterQ (D : Int) (S : Nat → Prop) (ar : List Bd) : Prop := ∀ i x, S i → ar[i]? = some x → done x = 0 ∨ D < done x
theorem LaterQ.set {D : Int} {S : Nat → Prop} {ar : List Bd} {h : Nat} {x y : Bd} (hq : LaterQ D S ar) (hx : ar[h]? = some x) (hy : (done x = 0 ∨ D < done x) → (done y = 0 ∨ D < done y)) : LaterQ D S (ar.set h y) := by
  intro i z hi hz
  by_cases e : h = i
  · subst e
    rw [set_get hx] at hz
    cases hz
    exact hy (hq h x hi hx)
  · rw [List.getElem?_set_ne e] at hz
    exact hq i z hi hz
end Go.Md

namespace Go.Md
open Go.Dn

def nmC : List UInt8 := [97, 98, 99, 100, 101, 102, 103, 104, 105, 106, 107, 108, 109, 110, 111, 112, 113, 114, 115, 116, 117, 118, 119, 120, 121, 122, 48, 49, 50, 51, 52, 53, 54, 55, 56, 57, 45]
def nmB (c : UInt8) : Bool := nmC.contains c
set_option maxRecDepth 100000 in
theorem nmB_fin : ∀ n : Fin 256, nmB (UInt8.ofNat n.1) = ((decide (97 ≤ n.1) && decide (n.1 ≤ 122)) || ((decide (48 ≤ n.1) && decide (n.1 ≤ 57)) || decide (n.1 = 45))) := by decide
theorem nmB_eq (c : UInt8) : nmB c = ((decide (97 ≤ c.toNat) && decide (c.toNat ≤ 122)) || ((decide (48 ≤ c.toNat) && decide (c.toNat ≤ 57)) || decide (c.toNat = 45))) := by
  have := nmB_fin ⟨c.toNat, UInt8.toNat_lt c⟩
  simpa using this

theorem dropW_nil {α : Type} {p : α → Bool} : ∀ {l : List α}, l.dropWhile p = [] ↔ ∀ x ∈ l, p x = true
  | [] => by simp
  | y :: r => by
    cases hp : p y with
    | true => rw [List.dropWhile_cons_of_pos hp, dropW_nil]; simp [hp]
    | false => rw [List.dropWhile_cons_of_neg (by simp [hp])]; simp [hp]
theorem dropW_head {α : Type} {p : α → Bool} {y : α} {r : List α} : ∀ {l : List α}, l.dropWhile p = y :: r → p y = false
  | [], h => by simp at h
  | z :: t, h => by
    cases hp : p z with
    | true => rw [List.dropWhile_cons_of_pos hp] at h; exact dropW_head h
    | false => rw [List.dropWhile_cons_of_neg (by simp [hp])] at h; cases h; exact hp

theorem trimS_nil (s c : List UInt8) : (Lib.trimS s c == []) = s.all (c.contains ·) := by
  rw [Bool.eq_iff_iff]
  simp only [beq_iff_eq, List.all_eq_true]
  unfold Lib.trimS Lib.trimLeftS Lib.trimRightS
  constructor
  · intro h
    rw [dropW_nil] at h
    cases hd : s.reverse.dropWhile (c.contains ·) with
    | nil =>
      rw [dropW_nil] at hd
      intro x hx
      exact hd x (by simpa using hx)
    | cons y r =>
      exfalso
      have h1 := h y (by rw [hd]; simp)
      have h2 := dropW_head hd
      rw [h1] at h2
      cases h2
  · intro h
    have : s.reverse.dropWhile (c.contains ·) = [] := dropW_nil.2 fun x hx => h x (by simpa using hx)
    rw [this]; rfl

theorem scanF_all {α : Type} (p : α → Bool) (e : Int) (he : e ≠ 0) : ∀ (l : List α) (i : Nat), scanF (fun _ c => if p c = true then 0 else e) i l = if l.all p = true then 0 else e
  | [], i => by simp [scanF]
  | y :: r, i => by
    have ih := scanF_all p e he r (i + 1)
    cases hp : p y with
    | true => simp only [scanF, hp, if_true, List.all_cons, Bool.true_and]; exact ih
    | false => simp [scanF, hp, he]

theorem sidx_get {s : List UInt8} {i : Nat} {c : UInt8} (h : s[i]? = some c) : sidx s (i : Int) = some c := by simp [sidx, h]

theorem r1_IsName_eq (s : List UInt8) : r1_IsName s = some (isNm s, ()) := by
  unfold r1_IsName isNm kit_IsName r1_isName
  by_cases h0 : s = []
  · subst h0; rfl
  have hb : (s == []) = false := by simpa using h0
  have hl : 0 < s.length := List.length_pos_iff.2 h0
  rw [hb, cond_false, bif_neg (show ¬((s.length : Int) < 1) by omega)]
  by_cases h2 : (s.length : Int) > 40
  · rw [bif_pos h2, bif_pos h2]; rfl
  rw [bif_neg h2, bif_neg h2]
  have hs : sidx s 0 = some (s[0]'hl) := sidx_get (i := 0) (getElem?_of hl)
  simp only [hs, Option.bind_some]
  by_cases h3 : (((s[0]'hl).toNat : Int)) < 97
  · simp only [bif_pos h3]; rfl
  simp only [bif_neg h3]
  by_cases h4 : (((s[0]'hl).toNat : Int)) > 122
  · simp only [bif_pos h4]; rfl
  simp only [bif_neg h4]
  have ht : strings_Trim s [97, 98, 99, 100, 101, 102, 103, 104, 105, 106, 107, 108, 109, 110, 111, 112, 113, 114, 115, 116, 117, 118, 119, 120, 121, 122, 48, 49, 50, 51, 52, 53, 54, 55, 56, 57, 45] = some (Lib.trimS s nmC, ()) := by
    unfold strings_Trim
    rw [show (decide (s.length ≤ 9223372036854775807)) = true by simp; omega]
    rfl
  rw [ht, Option.bind_some]
  have loop := iter_scan2 (f := r1_isName_b4) (fun i => (s, (s.length : Int), (i : Int), ())) s (fun _ c => if nmB c = true then 0 else 1) (some (Sum.inr ())) (fun _ => some (Sum.inl (false, ())))
    (fun i c again hi => by
      have hil := (List.getElem?_eq_some_iff.1 hi).1
      unfold r1_isName_b4
      dsimp only
      rw [bif_pos (show (i : Int) < (s.length : Int) by omega), sidx_get hi, Option.bind_some, nmB_eq c, w64_id (by omega) (by omega)]
      by_cases a1 : (c.toNat : Int) < 97 <;> by_cases a2 : (c.toNat : Int) > 122 <;> by_cases a3 : (c.toNat : Int) < 48 <;> by_cases a4 : (c.toNat : Int) > 57 <;> by_cases a5 : (c.toNat : Int) = 45 <;>
        first
        | omega
        | (have b1 : (97 ≤ c.toNat) = ¬ ((c.toNat : Int) < 97) := by simp only [eq_iff_iff]; omega
           have b2 : (c.toNat ≤ 122) = ¬ ((c.toNat : Int) > 122) := by simp only [eq_iff_iff]; omega
           have b3 : (48 ≤ c.toNat) = ¬ ((c.toNat : Int) < 48) := by simp only [eq_iff_iff]; omega
           have b4 : (c.toNat ≤ 57) = ¬ ((c.toNat : Int) > 57) := by simp only [eq_iff_iff]; omega
           have b5 : (c.toNat = 45) = ((c.toNat : Int) = 45) := by simp only [eq_iff_iff]; omega
           simp only [b1, b2, b3, b4, b5, a1, a2, a3, a4, a5, bne, decide_true, decide_false, not_true_eq_false, not_false_eq_true, Bool.and_true, Bool.true_and, Bool.and_false, Bool.false_and, Bool.or_true, Bool.true_or, Bool.or_false, Bool.false_or, cond_true, cond_false, if_true, Bool.false_eq_true, if_false, Int.one_ne_zero, beq_self_eq_true, Bool.not_true]
           first | rfl | (have a6 : ((c.toNat : Int) == 45) = false := by simp only [beq_eq_false_iff_ne, ne_eq]; exact a5
                          rw [a6]; rfl)))
    (fun again => by
      unfold r1_isName_b4
      dsimp only
      rw [bif_neg (by omega)])
    s 0 (List.length s + (Int.natAbs ((List.length s : Int)) + (Int.natAbs (0 : Int) + 2))) rfl (Nat.zero_le _) (by omega)
  rw [show ((0 : Nat) : Int) = 0 from rfl] at loop
  rw [loop, scanF_all nmB 1 (by omega), trimS_nil]
  have e : (s.all fun x => nmC.contains x) = s.all nmB := rfl
  rw [e]
  cases s.all nmB <;> rfl

theorem r1_within_eq (a b c : Int) : r1_within a b c = some (decide (b ≤ a ∧ a ≤ c), ()) := by
  unfold r1_within
  by_cases h : b ≤ a
  · rw [bif_pos h]; simp [h]
  · rw [bif_neg h]; simp [h]
theorem r11_within_eq (a b c : Int) : r11_within a b c = some (decide (b ≤ a ∧ a ≤ c), ()) := r1_within_eq a b c
theorem r1_IsDay_eq (n : Int) : r1_IsDay n = some (decide (1 ≤ n ∧ n ≤ 3652059), ()) := by
  unfold r1_IsDay r1_isDay
  rw [r1_within_eq]; rfl
theorem r1_CheckDecimal_eq (d : D_api_Decimal) : r1_CheckDecimal d = some (if -1000000000000000 ≤ d.1 ∧ d.1 ≤ 1000000000000000 ∧ 0 ≤ d.2 ∧ d.2 ≤ 9 then 0 else 1, ()) := by
  unfold r1_CheckDecimal
  rw [r1_within_eq, Option.bind_some]
  by_cases h1 : -1000000000000000 ≤ d.1 ∧ d.1 ≤ 1000000000000000
  · rw [decide_eq_true h1]
    simp only [Bool.not_true, cond_false]
    rw [r1_within_eq, Option.bind_some]
    by_cases h2 : 0 ≤ d.2 ∧ d.2 ≤ 9
    · rw [decide_eq_true h2, if_pos ⟨h1.1, h1.2, h2⟩]; rfl
    · rw [decide_eq_false h2, if_neg (fun h => h2 h.2.2)]; rfl
  · rw [decide_eq_false h1, if_neg (fun h => h1 ⟨h.1, h.2.1⟩)]; rfl

theorem r11_cmp_eq {a b : D_api_Decimal} (ha : DecOk a) (hb : DecOk b) : r11_cmp a b = some ((dec9 a - dec9 b).sign, ()) := by
  unfold r11_cmp
  have l1 := dec9_bound ha
  have l2 := dec9_bound hb
  have m1 := len6 (z := dec9 a) (by omega)
  have m2 := len6 (z := dec9 b) (by omega)
  rw [r1_At_eq a ha, Option.bind_some, r1_At_eq b hb, Option.bind_some, r1_Cmp_eq _ _ (by omega) (by omega)]
  rfl

instance (d : D_api_Decimal) : Decidable (DecOk d) := by unfold DecOk; infer_instance

theorem r11_isIn_eq (d : D_api_Decimal) (lo hi pl : Int) (hlo : lo.natAbs ≤ 1000000000000000) (hhi : hi.natAbs ≤ 1000000000000000) : r11_isIn d lo hi pl = some (decide (DecOk d ∧ d.2 ≤ pl ∧ lo * 10 ^ 9 ≤ dec9 d ∧ dec9 d ≤ hi * 10 ^ 9), ()) := by
  unfold r11_isIn
  rw [r1_CheckDecimal_eq, Option.bind_some]
  have hd : DecOk d ↔ (-1000000000000000 ≤ d.1 ∧ d.1 ≤ 1000000000000000 ∧ 0 ≤ d.2 ∧ d.2 ≤ 9) := by unfold DecOk; omega
  have z : ∀ n : Int, n.natAbs ≤ 1000000000000000 → DecOk (n, 0) ∧ dec9 (n, 0) = n * 10 ^ 9 := fun n hn => ⟨⟨hn, by simp, by simp⟩, by simp [dec9]⟩
  by_cases h1 : DecOk d
  · rw [if_pos (hd.1 h1)]
    dsimp only
    rw [show ((0 : Int) == 0) = true from rfl, cond_true]
    by_cases h2 : d.2 ≤ pl
    · rw [bif_pos h2, r11_cmp_eq h1 (z lo hlo).1, Option.bind_some, (z lo hlo).2]
      dsimp only
      by_cases h3 : lo * 10 ^ 9 ≤ dec9 d
      · rw [bif_pos (by rw [ge_iff_le, Int.sign_nonneg_iff]; omega), r11_cmp_eq h1 (z hi hhi).1, Option.bind_some, (z hi hhi).2]
        have : ((dec9 d - hi * 10 ^ 9).sign ≤ 0) = (DecOk d ∧ d.2 ≤ pl ∧ lo * 10 ^ 9 ≤ dec9 d ∧ dec9 d ≤ hi * 10 ^ 9) := by
          rw [Int.sign_nonpos_iff, eq_iff_iff]
          constructor
          · intro h; exact ⟨h1, h2, h3, by omega⟩
          · intro h; omega
        simp only [this]
      · rw [bif_neg (by rw [ge_iff_le, Int.sign_nonneg_iff]; omega), decide_eq_false (fun h => h3 h.2.2.1)]
    · rw [bif_neg h2, decide_eq_false (fun h => h2 h.2.1)]
  · rw [if_neg (fun h => h1 (hd.2 h)), decide_eq_false (p := DecOk d ∧ d.2 ≤ pl ∧ lo * 10 ^ 9 ≤ dec9 d ∧ dec9 d ≤ hi * 10 ^ 9) (fun h => h1 h.1)]; rfl

end Go.Md
