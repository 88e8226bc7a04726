/-
  Plain facts: products, powers, rounding. No condition.
-/
import Derived.Test.YtglaikpklmafkaaGreatDoorYq
import Derived.Test.YtglaikpklmafkaaGreatDoorYn
set_option linter.all false
namespace Go.Md
open Go.Dn

theorem whole_sum_v_eq (a b : List Int) : whole_sum_v a b = whole_sum a b := rfl

theorem whole_Int_Plus_eq (x y : Int) (hx : x.natAbs < 4294967296 ^ 99) (hy : y.natAbs < 4294967296 ^ 99) : whole_Int_Plus (W x) (W y) = some (W (x + y), ()) := by
  have hlx := dg32_len hx
  have hly := dg32_len hy
  unfold whole_Int_Plus W
  dsimp only
  by_cases hs : decide (x < 0) = decide (y < 0)
  · rw [show (decide (x < 0) == decide (y < 0)) = true by simp [hs], cond_true, whole_sum_v_eq]
    obtain ⟨s, h1, h2, h3, h4⟩ := whole_sum_eq (dg32 x.natAbs) (dg32 y.natAbs) (dg32_dig _) (dg32_dig _) (by omega) (by omega)
    rw [h1, Option.bind_some]
    dsimp only
    rw [whole_made_eq _ _ h2 (by omega), Option.bind_some, h3, v32_dg, v32_dg]
    simp only [decide_eq_decide] at hs
    show some (W _, ()) = some (W (x + y), ())
    congr 3
    by_cases h : x < 0
    · simp only [h, decide_true, if_true]; omega
    · simp only [h, decide_false, Bool.false_eq_true, if_false]; omega
  · rw [show (decide (x < 0) == decide (y < 0)) = false by simp [hs], cond_false]
    obtain ⟨c, h1, h2, h3⟩ := whole_compare_eq x.natAbs y.natAbs (by omega) (by omega)
    rw [h1, Option.bind_some]
    dsimp only
    simp only [decide_eq_decide] at hs
    have hlen : ∀ a b : Nat, b ≤ a → (dg32 b).length ≤ (dg32 a).length := fun a b h => by
      rcases Nat.lt_or_ge (dg32 a).length (dg32 b).length with h' | h'
      · have := dg32_len_lt h'; omega
      · exact h'
    by_cases hc : c ≥ 0
    · rw [bif_pos hc, whole_less_eq _ _ (dg32_dig _) (dg32_dig _) (by omega) (hlen _ _ (by omega)) (by rw [v32_dg, v32_dg]; omega), Option.bind_some]
      dsimp only
      rw [whole_made_eq _ _ (dg32_dig _) (by have := hlen x.natAbs (v32 (dg32 x.natAbs) - v32 (dg32 y.natAbs)).toNat (by rw [v32_dg, v32_dg]; omega); omega), Option.bind_some]
      rw [v32_dg, v32_dg, v32_dg]
      show some (W _, ()) = some (W (x + y), ())
      congr 3
      by_cases h : x < 0
      · simp only [h, decide_true, if_true]; omega
      · simp only [h, decide_false, Bool.false_eq_true, if_false]; omega
    · rw [bif_neg hc, whole_less_eq _ _ (dg32_dig _) (dg32_dig _) (by omega) (hlen _ _ (by omega)) (by rw [v32_dg, v32_dg]; omega), Option.bind_some]
      dsimp only
      rw [whole_made_eq _ _ (dg32_dig _) (by have := hlen y.natAbs (v32 (dg32 y.natAbs) - v32 (dg32 x.natAbs)).toNat (by rw [v32_dg, v32_dg]; omega); omega), Option.bind_some]
      rw [v32_dg, v32_dg, v32_dg]
      show some (W _, ()) = some (W (x + y), ())
      congr 3
      by_cases h : y < 0
      · simp only [h, decide_true, if_true]; omega
      · simp only [h, decide_false, Bool.false_eq_true, if_false]; omega

theorem whole_Int_Less_eq (x y : Int) (hx : x.natAbs < 4294967296 ^ 99) (hy : y.natAbs < 4294967296 ^ 99) : whole_Int_Less (W x) (W y) = some (W (x - y), ()) := by
  unfold whole_Int_Less
  rw [whole_Int_Minus_eq y hy, Option.bind_some]
  dsimp only
  rw [whole_Int_Plus_eq x (-y) hx (by omega), Option.bind_some, Int.sub_eq_add_neg]

theorem whole_Int_Compare_eq (x y : Int) (hx : x.natAbs < 4294967296 ^ 99) (hy : y.natAbs < 4294967296 ^ 99) : whole_Int_Compare (W x) (W y) = some ((x - y).sign, ()) := by
  unfold whole_Int_Compare
  rw [whole_Int_Less_eq x y hx hy, Option.bind_some]
  dsimp only
  rw [whole_Int_Sign_eq, Option.bind_some]

theorem times_digit {x y z c : Int} (hx : 0 ≤ x ∧ x < 4294967296) (hy : 0 ≤ y ∧ y < 4294967296) (hz : 0 ≤ z ∧ z < 4294967296) (hc : 0 ≤ c ∧ c < 4294967296) : 0 ≤ x * y ∧ x * y ≤ 18446744065119617025 ∧ c + (z + x * y) ≤ 18446744073709551615 := by
  have h1 : 0 ≤ x * y := Int.mul_nonneg hx.1 hy.1
  have h2 : x * y ≤ 4294967295 * 4294967295 := Int.mul_le_mul (by omega) (by omega) (by omega) (by omega)
  omega

theorem whole_Times_inner (i : Nat) (x : Int) (ga : List Int) (gn gi : Int) (b : List Int) (s1 : Bool) (l1 : List Int) (s2 : Bool) (l2 : List Int) (s3 : Bool) (l3 : List Int) (out : List Int) (hx : 0 ≤ x ∧ x < 4294967296) (hb : Dg b) (hbl : b.length < 10000) (hil : i < 10000) (ho : i + b.length ≤ out.length) (hol : out.length < 100000) (hd : Dg out) (n : Nat) (hn : b.length < n) :
    ∃ o c, iter n (((i : Int), x, (0 : Int), ga, gn, gi, b, (b.length : Int), (0 : Int), s1, l1, s2, l2, s3, l3, out, ()) : whole_Int_Times_x7) whole_Int_Times_b7 = some (Sum.inr ((i : Int), c, ga, gn, gi, s1, l1, s2, l2, s3, l3, o, ())) ∧
      Dg o ∧ o.length = out.length ∧ 0 ≤ c ∧ c < 4294967296 ∧ v32 o + 4294967296 ^ (i + b.length) * c = v32 out + 4294967296 ^ i * x * v32 b ∧ ∀ j, i + b.length ≤ j → o[j]? = out[j]? := by
  refine iter_post (Inv := fun k X => ∃ o c, X = (((i : Int), x, c, ga, gn, gi, b, (b.length : Int), (k : Int), s1, l1, s2, l2, s3, l3, o, ()) : whole_Int_Times_x7) ∧ Dg o ∧ o.length = out.length ∧ 0 ≤ c ∧ c < 4294967296 ∧ v32 o + 4294967296 ^ (i + k) * c = v32 out + 4294967296 ^ i * x * v32 (b.take k) ∧ ∀ j, i + k ≤ j → o[j]? = out[j]?) b.length
    (fun r => ∃ o c, r = some (Sum.inr ((i : Int), c, ga, gn, gi, s1, l1, s2, l2, s3, l3, o, ())) ∧ Dg o ∧ o.length = out.length ∧ 0 ≤ c ∧ c < 4294967296 ∧ v32 o + 4294967296 ^ (i + b.length) * c = v32 out + 4294967296 ^ i * x * v32 b ∧ ∀ j, i + b.length ≤ j → o[j]? = out[j]?) ?_ ?_ n 0 _ ⟨out, 0, rfl, hd, rfl, by omega, by omega, by simp [v32_nil], fun _ _ => rfl⟩ (by omega) (by omega)
  · rintro k _ again hk ⟨o, c, rfl, h1, h2, h3, h4, h5, h6⟩ ih
    unfold whole_Int_Times_b7
    dsimp only
    have hy : b[k]? = some b[k] := getElem?_of hk
    have hyd := hb.get hy
    have hts := v32_take_succ hy
    have hz : o[i + k]? = some (o[i + k]'(by omega)) := getElem?_of (by omega)
    have hzd := h1.get hz
    generalize b[k] = y at hy hyd hts
    generalize o[i + k]'(by omega) = z at hz hzd
    obtain ⟨m1, m2, m3⟩ := times_digit hx hyd hzd ⟨h3, h4⟩
    have e1 : w64 ((i : Int) + (k : Int)) = ((i + k : Nat) : Int) := by rw [w64_id (by omega) (by omega)]; omega
    rw [bif_pos (by omega), idx_nat, hy, Option.bind_some, e1, chk_pos (by simp only [Bool.and_eq_true, decide_eq_true_eq]; omega), Int.toNat_natCast, hz, Option.bind_some, chk_pos (by simp only [Bool.and_eq_true, decide_eq_true_eq]; omega), Option.bind_some,
      wu64_id (n := x) (by omega) (by omega), wu64_id (n := y) (by omega) (by omega), wu64_id (n := z) (by omega) (by omega), wu64_id (n := x * y) (by omega) (by omega), wu64_id (n := z + x * y) (by omega) (by omega), wu64_id (n := c + (z + x * y)) (by omega) (by omega), wu32_mod, fdiv32, w64_id (n := (k : Int) + 1) (by omega) (by omega)]
    generalize ht : c + (z + x * y) = t at *
    refine ih _ ⟨_, _, rfl, h1.set (by omega), by rw [List.length_set]; exact h2, by omega, by omega, ?_, fun j hj => ?_⟩
    · rw [v32_set hz, hts]
      have e2 : (4294967296 : Int) ^ (i + (k + 1)) = 4294967296 ^ i * 4294967296 ^ k * 4294967296 := by rw [← Nat.add_assoc, Int.pow_succ, Int.pow_add]
      have e3 : (4294967296 : Int) ^ (i + k) = 4294967296 ^ i * 4294967296 ^ k := Int.pow_add ..
      rw [e3] at h5
      rw [e2, e3]
      have e4 := Int.mul_ediv_add_emod t 4294967296
      generalize (4294967296 : Int) ^ i = p at *
      generalize (4294967296 : Int) ^ k = q at *
      generalize t / 4294967296 = d at *
      generalize t % 4294967296 = r at *
      grind
    · rw [List.getElem?_set_ne (by omega)]; exact h6 j (by omega)
  · rintro _ again ⟨o, c, rfl, h1, h2, h3, h4, h5, h6⟩
    unfold whole_Int_Times_b7
    dsimp only
    rw [bif_neg (by omega)]
    rw [List.take_of_length_le (Nat.le_refl _)] at h5
    exact ⟨o, c, rfl, h1, h2, h3, h4, h5, h6⟩

theorem whole_Times_outer (a b : List Int) (ha : Dg a) (hb : Dg b) (hal : a.length < 1000) (hbl : b.length < 1000) (s1 s2 s3 : Bool) (l3 : List Int) (n : Nat) (hn : a.length < n) :
    ∃ o, iter n ((a, (a.length : Int), (0 : Int), s1, a, s2, b, s3, l3, List.replicate (a.length + b.length) 0, ()) : whole_Int_Times_x3) whole_Int_Times_b3 = some (Sum.inr (s1, a, s2, b, s3, l3, o, ())) ∧ Dg o ∧ o.length = a.length + b.length ∧ v32 o = v32 a * v32 b := by
  refine iter_post (Inv := fun i X => ∃ o, X = ((a, (a.length : Int), (i : Int), s1, a, s2, b, s3, l3, o, ()) : whole_Int_Times_x3) ∧ Dg o ∧ o.length = a.length + b.length ∧ v32 o = v32 (a.take i) * v32 b ∧ ∀ j, i + b.length ≤ j → j < a.length + b.length → o[j]? = some 0) a.length
    (fun r => ∃ o, r = some (Sum.inr (s1, a, s2, b, s3, l3, o, ())) ∧ Dg o ∧ o.length = a.length + b.length ∧ v32 o = v32 a * v32 b) ?_ ?_ n 0 _ ⟨_, rfl, fun d hd => by rw [List.mem_replicate] at hd; omega, by simp, by rw [v32_replicate]; simp [v32_nil], fun j _ hj => by rw [List.getElem?_replicate, if_pos hj]⟩ (by omega) (by omega)
  · rintro i _ again hi ⟨o, rfl, h1, h2, h3, h4⟩ ih
    unfold whole_Int_Times_b3
    dsimp only
    have hy : a[i]? = some a[i] := getElem?_of hi
    have hyd := ha.get hy
    have hts := v32_take_succ hy
    generalize a[i] = x at hy hyd hts
    rw [bif_pos (by omega), idx_nat, hy, Option.bind_some]
    obtain ⟨o', c, k1, k2, k3, k4, k5, k6, k7⟩ := whole_Times_inner i x a (a.length : Int) (i : Int) b s1 a s2 b s3 l3 o hyd hb (by omega) (by omega) (by omega) (by omega) h1 (Int.natAbs (i : Int) + (Int.natAbs x + (Int.natAbs (0 : Int) + (List.length a + (Int.natAbs (a.length : Int) + (Int.natAbs (i : Int) + (List.length b + (Int.natAbs ((List.length b : Int)) + (Int.natAbs (0 : Int) + (List.length a + (List.length b + (List.length l3 + (List.length o + 2))))))))))))) (by omega)
    rw [k1, joinB_inr]
    dsimp only
    have e1 : w64 ((i : Int) + (b.length : Int)) = ((i + b.length : Nat) : Int) := by rw [w64_id (by omega) (by omega)]; omega
    have hz : o'[i + b.length]? = some 0 := by rw [k7 _ (Nat.le_refl _)]; exact h4 _ (Nat.le_refl _) (by omega)
    rw [e1, chk_pos (by simp only [Bool.and_eq_true, decide_eq_true_eq]; omega), Int.toNat_natCast, hz, Option.bind_some, wu32_id (by omega) (by omega), w64_id (n := (i : Int) + 1) (by omega) (by omega)]
    refine ih _ ⟨_, rfl, k2.set (by omega), by rw [List.length_set]; omega, ?_, fun j hj hj2 => ?_⟩
    · rw [v32_set hz, hts]
      have e3 : (4294967296 : Int) ^ (i + b.length) = 4294967296 ^ i * 4294967296 ^ b.length := Int.pow_add ..
      rw [e3] at k6 ⊢
      grind
    · rw [List.getElem?_set_ne (by omega), k7 j (by omega)]; exact h4 j (by omega) hj2
  · rintro _ again ⟨o, rfl, h1, h2, h3, h4⟩
    unfold whole_Int_Times_b3
    dsimp only
    rw [bif_neg (by omega)]
    rw [List.take_of_length_le (Nat.le_refl _)] at h3
    exact ⟨o, rfl, h1, h2, h3⟩

theorem whole_Int_Times_eq (x y : Int) (hx : x.natAbs < 4294967296 ^ 99) (hy : y.natAbs < 4294967296 ^ 99) : whole_Int_Times (W x) (W y) = some (W (x * y), ()) := by
  have hlx := dg32_len hx
  have hly := dg32_len hy
  unfold whole_Int_Times W
  dsimp only
  have e1 : w64 (((dg32 x.natAbs).length : Int) + ((dg32 y.natAbs).length : Int)) = (((dg32 x.natAbs).length + (dg32 y.natAbs).length : Nat) : Int) := by rw [w64_id (by omega) (by omega)]; omega
  rw [e1, chk_pos (by simp only [Bool.and_eq_true, decide_eq_true_eq]; omega)]
  obtain ⟨o, h1, h2, h3, h4⟩ := whole_Times_outer (dg32 x.natAbs) (dg32 y.natAbs) (dg32_dig _) (dg32_dig _) (by omega) (by omega) (decide (x < 0)) (decide (y < 0)) false [] (List.length (dg32 x.natAbs) + (Int.natAbs ((List.length (dg32 x.natAbs) : Int)) + (Int.natAbs (0 : Int) + (List.length (dg32 x.natAbs) + (List.length (dg32 y.natAbs) + (List.length ([] : List Int) + (List.length ((List.replicate (Int.toNat (((dg32 x.natAbs).length + (dg32 y.natAbs).length : Nat) : Int)) 0) : List Int) + 2))))))) (by omega)
  rw [Int.toNat_natCast] at h1 ⊢
  rw [h1, joinB_inr]
  dsimp only
  rw [whole_made_eq _ _ h2 (by omega), Option.bind_some, h4, v32_dg, v32_dg]
  show some (W _, ()) = some (W (x * y), ())
  congr 3
  rw [← Int.natCast_mul, ← Int.natAbs_mul]
  by_cases h : x < 0 <;> by_cases h' : y < 0
  · have := Int.mul_pos_of_neg_of_neg h h'
    simp [h, h']; omega
  · have := Int.mul_nonneg (show 0 ≤ -x by omega) (show 0 ≤ y by omega)
    rw [Int.neg_mul] at this
    simp [h, h']; omega
  · have := Int.mul_nonneg (show 0 ≤ x by omega) (show 0 ≤ -y by omega)
    rw [Int.mul_neg] at this
    simp [h, h']; omega
  · have := Int.mul_nonneg (show 0 ≤ x by omega) (show 0 ≤ y by omega)
    simp [h, h']; omega

end Go.Md

namespace Go.Md
open Go.Dn

/-- At most 10^k. -/
def Le (k : Nat) (z : Int) : Prop := z.natAbs ≤ 10 ^ k
theorem Le.mul {a b : Nat} {x y : Int} (hx : Le a x) (hy : Le b y) : Le (a + b) (x * y) := by
  unfold Le at *
  rw [Int.natAbs_mul, Nat.pow_add]
  exact Nat.mul_le_mul hx hy
theorem Le.mono {a b : Nat} {x : Int} (hx : Le a x) (h : a ≤ b) : Le b x := Nat.le_trans hx (Nat.pow_le_pow_right (by omega) h)
theorem Le.add {a : Nat} {x y : Int} (hx : Le a x) (hy : Le a y) : Le (a + 1) (x + y) := by
  unfold Le at *
  rw [Nat.pow_succ]
  omega
theorem Le.neg {a : Nat} {x : Int} (hx : Le a x) : Le a (-x) := by unfold Le at *; omega
theorem Le.w {k : Nat} {z : Int} (h : Le k z) (hk : k ≤ 900) : z.natAbs < 4294967296 ^ 99 :=
  Nat.lt_of_le_of_lt (h.mono hk) (by decide +kernel)
theorem Le.n {k : Nat} {z : Int} (h : Le k z) (hk : k ≤ 500) : (dg6 z.natAbs).length < 90 := by
  have := dg6_len (k := 84) (n := z.natAbs) (Nat.lt_of_le_of_lt (h.mono hk) (by decide +kernel))
  omega
theorem Le.pow (n : Nat) : Le n (10 ^ n) := by
  unfold Le
  rw [Int.natAbs_pow]; exact Nat.le_refl _
theorem Le.int {n : Int} (h1 : -9223372036854775808 ≤ n) (h2 : n ≤ 9223372036854775807) : Le 19 n := by unfold Le; omega

theorem Le.succ {k n : Nat} (h : Le k (n : Int)) : Le (k + 1) ((n + 1 : Nat) : Int) := by
  unfold Le at *
  rw [Nat.pow_succ]
  have : 1 ≤ 10 ^ k := Nat.pow_pos (by omega)
  omega

theorem whole_Power_eq (n : Nat) (hn : n ≤ 60) : whole_Power (n : Int) = some (W (10 ^ n), ()) := by
  unfold whole_Power
  rw [whole_Of_eq 1 (by omega) (by omega), Option.bind_some]
  dsimp only
  have loop : ∀ (f : Nat), n < f → iter f (((n : Int), (0 : Int), false, ([] : List Int), (W 1).1, (W 1).2, ()) : whole_Power_x3) whole_Power_b3 = some (Sum.inr (false, [], (W (10 ^ n)).1, (W (10 ^ n)).2, ())) := by
    intro f hf
    refine iter_post (Inv := fun i X => X = (((n : Int), (i : Int), false, ([] : List Int), (W (10 ^ i)).1, (W (10 ^ i)).2, ()) : whole_Power_x3)) n (fun r => r = some (Sum.inr (false, [], (W (10 ^ n)).1, (W (10 ^ n)).2, ()))) ?_ ?_ f 0 _ rfl (by omega) (by omega)
    · rintro i _ again hi rfl ih
      unfold whole_Power_b3
      dsimp only
      rw [bif_pos (by omega), whole_Of_eq 10 (by omega) (by omega), Option.bind_some]
      dsimp only
      rw [whole_Int_Times_eq (10 ^ i) 10 ((Le.pow i).w (by omega)) ((Le.int (n := 10) (by omega) (by omega)).w (by omega)), Option.bind_some, w64_id (by omega) (by omega)]
      refine ih _ ?_
      rw [Int.pow_succ]
      rfl
    · rintro _ again rfl
      unfold whole_Power_b3
      dsimp only
      rw [bif_neg (by omega)]
  rw [loop _ (by omega), joinB_inr]

theorem amount_Scaled_eq (d : D_api_Decimal) (p : Int) (h1 : -9223372036854775808 ≤ d.1) (h2 : d.1 ≤ 9223372036854775807) (hp0 : 0 ≤ p - d.2) (hp : p - d.2 ≤ 60) (hd : -1000 ≤ d.2 ∧ d.2 ≤ 1000) : amount_Scaled d p = some (W (d.1 * 10 ^ (p - d.2).toNat), ()) := by
  unfold amount_Scaled
  rw [whole_Of_eq _ h1 h2, Option.bind_some, w64_id (by omega) (by omega)]
  obtain ⟨n, hn⟩ : ∃ n : Nat, p - d.2 = n := ⟨(p - d.2).toNat, by omega⟩
  rw [hn, whole_Power_eq n (by omega), Option.bind_some]
  dsimp only
  rw [whole_Int_Times_eq _ _ ((Le.int h1 h2).w (by omega)) ((Le.pow n).w (by omega)), Option.bind_some, Int.toNat_natCast]

end Go.Md

namespace Go.Md
open Go.Dn

end Go.Md

namespace Go.Md
open Go.Dn

end Go.Md
