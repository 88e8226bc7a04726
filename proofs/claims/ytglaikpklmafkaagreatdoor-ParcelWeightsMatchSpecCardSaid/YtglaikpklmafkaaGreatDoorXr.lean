/-
  Plain facts: products, powers, rounding. No condition.
-/
import Derived.Test.YtglaikpklmafkaaGreatDoorXq
import Derived.Test.YtglaikpklmafkaaGreatDoorXn
set_option linter.all false
namespace Go.Md
open Go.Dn

theorem whole_sum_v_eq (a b : List Int) : whole_sum_v a b = whole_sum a b := rfl

theorem whole_Int_Plus_eq (x y : Int) (hx : x.natAbs < 4294967296 ^ 99) (hy : y.natAbs < 4294967296 ^ 99) : whole_Int_Plus (W x) (W y) = some (W (x + y), ()) := by
  have hlx := dg32_len hx
  have hly := dg32_len hy
  unfold whole_Int_Plus W
  dsimp only
  by_cases hs : decide (x < 0) = decide (y < 0)
  · rw [show (decide (x < 0) == decide (y < 0)) = true by simp [hs], cond_true, whole_sum_v_eq]
    obtain ⟨s, h1, h2, h3, h4⟩ := whole_sum_eq (dg32 x.natAbs) (dg32 y.natAbs) (dg32_dig _) (dg32_dig _) (by omega) (by omega)
    rw [h1, Option.bind_some]
    dsimp only
    rw [whole_made_eq _ _ h2 (by omega), Option.bind_some, h3, v32_dg, v32_dg]
    simp only [decide_eq_decide] at hs
    show some (W _, ()) = some (W (x + y), ())
    congr 3
    by_cases h : x < 0
    · simp only [h, decide_true, if_true]; omega
    · simp only [h, decide_false, Bool.false_eq_true, if_false]; omega
  · rw [show (decide (x < 0) == decide (y < 0)) = false by simp [hs], cond_false]
    obtain ⟨c, h1, h2, h3⟩ := whole_compare_eq x.natAbs y.natAbs (by omega) (by omega)
    rw [h1, Option.bind_some]
    dsimp only
    simp only [decide_eq_decide] at hs
    have hlen : ∀ a b : Nat, b ≤ a → (dg32 b).length ≤ (dg32 a).length := fun a b h => by
      rcases Nat.lt_or_ge (dg32 a).length (dg32 b).length with h' | h'
      · have := dg32_len_lt h'; omega
      · exact h'
    by_cases hc : c ≥ 0
    · rw [bif_pos hc, whole_less_eq _ _ (dg32_dig _) (dg32_dig _) (by omega) (hlen _ _ (by omega)) (by rw [v32_dg, v32_dg]; omega), Option.bind_some]
      dsimp only
      rw [whole_made_eq _ _ (dg32_dig _) (by have := hlen x.natAbs (v32 (dg32 x.natAbs) - v32 (dg32 y.natAbs)).toNat (by rw [v32_dg, v32_dg]; omega); omega), Option.bind_some]
      rw [v32_dg, v32_dg, v32_dg]
      show some (W _, ()) = some (W (x + y), ())
      congr 3
      by_cases h : x < 0
      · simp only [h, decide_true, if_true]; omega
      · simp only [h, decide_false, Bool.false_eq_true, if_false]; omega
    · rw [bif_neg hc, whole_less_eq _ _ (dg32_dig _) (dg32_dig _) (by omega) (hlen _ _ (by omega)) (by rw [v32_dg, v32_dg]; omega), Option.bind_some]
      dsimp only
      rw [whole_made_eq _ _ (dg32_dig _) (by have := hlen y.natAbs (v32 (dg32 y.natAbs) - v32 (dg32 x.natAbs)).toNat (by rw [v32_dg, v32_dg]; omega); omega), Option.bind_some]
      rw [v32_dg, v32_dg, v32_dg]
      show some (W _, ()) = some (W (x + y), ())
      congr 3
      by_cases h : y < 0
      · simp only [h, decide_true, if_true]; omega
      · simp only [h, decide_false, Bool.false_eq_true, if_false]; omega

theorem times_digit {x y z c : Int} (hx : 0 ≤ x ∧ x < 4294967296) (hy : 0 ≤ y ∧ y < 4294967296) (hz : 0 ≤ z ∧ z < 4294967296) (hc : 0 ≤ c ∧ c < 4294967296) : 0 ≤ x * y ∧ x * y ≤ 18446744065119617025 ∧ c + (z + x * y) ≤ 18446744073709551615 := by
  have h1 : 0 ≤ x * y := Int.mul_nonneg hx.1 hy.1
  have h2 : x * y ≤ 4294967295 * 4294967295 := Int.mul_le_mul (by omega) (by omega) (by omega) (by omega)
  omega

theorem whole_Times_inner (i : Nat) (x : Int) (ga : List Int) (gn gi : Int) (b : List Int) (s1 : Bool) (l1 : List Int) (s2 : Bool) (l2 : List Int) (s3 : Bool) (l3 : List Int) (out : List Int) (hx : 0 ≤ x ∧ x < 4294967296) (hb : Dg b) (hbl : b.length < 10000) (hil : i < 10000) (ho : i + b.length ≤ out.length) (hol : out.length < 100000) (hd : Dg out) (n : Nat) (hn : b.length < n) :
    ∃ o c, iter n (((i : Int), x, (0 : Int), ga, gn, gi, b, (b.length : Int), (0 : Int), s1, l1, s2, l2, s3, l3, out, ()) : whole_Int_Times_x7) whole_Int_Times_b7 = some (Sum.inr ((i : Int), c, ga, gn, gi, s1, l1, s2, l2, s3, l3, o, ())) ∧
      Dg o ∧ o.length = out.length ∧ 0 ≤ c ∧ c < 4294967296 ∧ v32 o + 4294967296 ^ (i + b.length) * c = v32 out + 4294967296 ^ i * x * v32 b ∧ ∀ j, i + b.length ≤ j → o[j]? = out[j]? := by
  refine iter_post (Inv := fun k X => ∃ o c, X = (((i : Int), x, c, ga, gn, gi, b, (b.length : Int), (k : Int), s1, l1, s2, l2, s3, l3, o, ()) : whole_Int_Times_x7) ∧ Dg o ∧ o.length = out.length ∧ 0 ≤ c ∧ c < 4294967296 ∧ v32 o + 4294967296 ^ (i + k) * c = v32 out + 4294967296 ^ i * x * v32 (b.take k) ∧ ∀ j, i + k ≤ j → o[j]? = out[j]?) b.length
    (fun r => ∃ o c, r = some (Sum.inr ((i : Int), c, ga, gn, gi, s1, l1, s2, l2, s3, l3, o, ())) ∧ Dg o ∧ o.length = out.length ∧ 0 ≤ c ∧ c < 4294967296 ∧ v32 o + 4294967296 ^ (i + b.length) * c = v32 out + 4294967296 ^ i * x * v32 b ∧ ∀ j, i + b.length ≤ j → o[j]? = out[j]?) ?_ ?_ n 0 _ ⟨out, 0, rfl, hd, rfl, by omega, by omega, by simp [v32_nil], fun _ _ => rfl⟩ (by omega) (by omega)
  · rintro k _ again hk ⟨o, c, rfl, h1, h2, h3, h4, h5, h6⟩ ih
    unfold whole_Int_Times_b7
    dsimp only
    have hy : b[k]? = some b[k] := getElem?_of hk
    have hyd := hb.get hy
    have hts := v32_take_succ hy
    have hz : o[i + k]? = some (o[i + k]'(by omega)) := getElem?_of (by omega)
    have hzd := h1.get hz
    generalize b[k] = y at hy hyd hts
    generalize o[i + k]'(by omega) = z at hz hzd
    obtain ⟨m1, m2, m3⟩ := times_digit hx hyd hzd ⟨h3, h4⟩
    have e1 : w64 ((i : Int) + (k : Int)) = ((i + k : Nat) : Int) := by rw [w64_id (by omega) (by omega)]; omega
    rw [bif_pos (by omega), idx_nat, hy, Option.bind_some, e1, chk_pos (by simp only [Bool.and_eq_true, decide_eq_true_eq]; omega), Int.toNat_natCast, hz, Option.bind_some, chk_pos (by simp only [Bool.and_eq_true, decide_eq_true_eq]; omega), Option.bind_some,
      wu64_id (n := x) (by omega) (by omega), wu64_id (n := y) (by omega) (by omega), wu64_id (n := z) (by omega) (by omega), wu64_id (n := x * y) (by omega) (by omega), wu64_id (n := z + x * y) (by omega) (by omega), wu64_id (n := c + (z + x * y)) (by omega) (by omega), wu32_mod, fdiv32, w64_id (n := (k : Int) + 1) (by omega) (by omega)]
    generalize ht : c + (z + x * y) = t at *
    refine ih _ ⟨_, _, rfl, h1.set (by omega), by rw [List.length_set]; exact h2, by omega, by omega, ?_, fun j hj => ?_⟩
    · rw [v32_set hz, hts]
      have e2 : (4294967296 : Int) ^ (i + (k + 1)) = 4294967296 ^ i * 4294967296 ^ k * 4294967296 := by rw [← Nat.add_assoc, Int.pow_succ, Int.pow_add]
      have e3 : (4294967296 : Int) ^ (i + k) = 4294967296 ^ i * 4294967296 ^ k := Int.pow_add ..
      rw [e3] at h5
      rw [e2, e3]
      have e4 := Int.mul_ediv_add_emod t 4294967296
      generalize (4294967296 : Int) ^ i = p at *
      generalize (4294967296 : Int) ^ k = q at *
      generalize t / 4294967296 = d at *
      generalize t % 4294967296 = r at *
      grind
    · rw [List.getElem?_set_ne (by omega)]; exact h6 j (by omega)
  · rintro _ again ⟨o, c, rfl, h1, h2, h3, h4, h5, h6⟩
    unfold whole_Int_Times_b7
    dsimp only
    rw [bif_neg (by omega)]
    rw [List.take_of_length_le (Nat.le_refl _)] at h5
    exact ⟨o, c, rfl, h1, h2, h3, h4, h5, h6⟩

theorem whole_Times_outer (a b : List Int) (ha : Dg a) (hb : Dg b) (hal : a.length < 1000) (hbl : b.length < 1000) (s1 s2 s3 : Bool) (l3 : List Int) (n : Nat) (hn : a.length < n) :
    ∃ o, iter n ((a, (a.length : Int), (0 : Int), s1, a, s2, b, s3, l3, List.replicate (a.length + b.length) 0, ()) : whole_Int_Times_x3) whole_Int_Times_b3 = some (Sum.inr (s1, a, s2, b, s3, l3, o, ())) ∧ Dg o ∧ o.length = a.length + b.length ∧ v32 o = v32 a * v32 b := by
  refine iter_post (Inv := fun i X => ∃ o, X = ((a, (a.length : Int), (i : Int), s1, a, s2, b, s3, l3, o, ()) : whole_Int_Times_x3) ∧ Dg o ∧ o.length = a.length + b.length ∧ v32 o = v32 (a.take i) * v32 b ∧ ∀ j, i + b.length ≤ j → j < a.length + b.length → o[j]? = some 0) a.length
    (fun r => ∃ o, r = some (Sum.inr (s1, a, s2, b, s3, l3, o, ())) ∧ Dg o ∧ o.length = a.length + b.length ∧ v32 o = v32 a * v32 b) ?_ ?_ n 0 _ ⟨_, rfl, fun d hd => by rw [List.mem_replicate] at hd; omega, by simp, by rw [v32_replicate]; simp [v32_nil], fun j _ hj => by rw [List.getElem?_replicate, if_pos hj]⟩ (by omega) (by omega)
  · rintro i _ again hi ⟨o, rfl, h1, h2, h3, h4⟩ ih
    unfold whole_Int_Times_b3
    dsimp only
    have hy : a[i]? = some a[i] := getElem?_of hi
    have hyd := ha.get hy
    have hts := v32_take_succ hy
    generalize a[i] = x at hy hyd hts
    rw [bif_pos (by omega), idx_nat, hy, Option.bind_some]
    obtain ⟨o', c, k1, k2, k3, k4, k5, k6, k7⟩ := whole_Times_inner i x a (a.length : Int) (i : Int) b s1 a s2 b s3 l3 o hyd hb (by omega) (by omega) (by omega) (by omega) h1 (Int.natAbs (i : Int) + (Int.natAbs x + (Int.natAbs (0 : Int) + (List.length a + (Int.natAbs (a.length : Int) + (Int.natAbs (i : Int) + (List.length b + (Int.natAbs ((List.length b : Int)) + (Int.natAbs (0 : Int) + (List.length a + (List.length b + (List.length l3 + (List.length o + 2))))))))))))) (by omega)
    rw [k1, joinB_inr]
    dsimp only
    have e1 : w64 ((i : Int) + (b.length : Int)) = ((i + b.length : Nat) : Int) := by rw [w64_id (by omega) (by omega)]; omega
    have hz : o'[i + b.length]? = some 0 := by rw [k7 _ (Nat.le_refl _)]; exact h4 _ (Nat.le_refl _) (by omega)
    rw [e1, chk_pos (by simp only [Bool.and_eq_true, decide_eq_true_eq]; omega), Int.toNat_natCast, hz, Option.bind_some, wu32_id (by omega) (by omega), w64_id (n := (i : Int) + 1) (by omega) (by omega)]
    refine ih _ ⟨_, rfl, k2.set (by omega), by rw [List.length_set]; omega, ?_, fun j hj hj2 => ?_⟩
    · rw [v32_set hz, hts]
      have e3 : (4294967296 : Int) ^ (i + b.length) = 4294967296 ^ i * 4294967296 ^ b.length := Int.pow_add ..
      rw [e3] at k6 ⊢
      grind
    · rw [List.getElem?_set_ne (by omega), k7 j (by omega)]; exact h4 j (by omega) hj2
  · rintro _ again ⟨o, rfl, h1, h2, h3, h4⟩
    unfold whole_Int_Times_b3
    dsimp only
    rw [bif_neg (by omega)]
    rw [List.take_of_length_le (Nat.le_refl _)] at h3
    exact ⟨o, rfl, h1, h2, h3⟩

theorem whole_Int_Times_eq (x y : Int) (hx : x.natAbs < 4294967296 ^ 99) (hy : y.natAbs < 4294967296 ^ 99) : whole_Int_Times (W x) (W y) = some (W (x * y), ()) := by
  have hlx := dg32_len hx
  have hly := dg32_len hy
  unfold whole_Int_Times W
  dsimp only
  have e1 : w64 (((dg32 x.natAbs).length : Int) + ((dg32 y.natAbs).length : Int)) = (((dg32 x.natAbs).length + (dg32 y.natAbs).length : Nat) : Int) := by rw [w64_id (by omega) (by omega)]; omega
  rw [e1, chk_pos (by simp only [Bool.and_eq_true, decide_eq_true_eq]; omega)]
  obtain ⟨o, h1, h2, h3, h4⟩ := whole_Times_outer (dg32 x.natAbs) (dg32 y.natAbs) (dg32_dig _) (dg32_dig _) (by omega) (by omega) (decide (x < 0)) (decide (y < 0)) false [] (List.length (dg32 x.natAbs) + (Int.natAbs ((List.length (dg32 x.natAbs) : Int)) + (Int.natAbs (0 : Int) + (List.length (dg32 x.natAbs) + (List.length (dg32 y.natAbs) + (List.length ([] : List Int) + (List.length ((List.replicate (Int.toNat (((dg32 x.natAbs).length + (dg32 y.natAbs).length : Nat) : Int)) 0) : List Int) + 2))))))) (by omega)
  rw [Int.toNat_natCast] at h1 ⊢
  rw [h1, joinB_inr]
  dsimp only
  rw [whole_made_eq _ _ h2 (by omega), Option.bind_some, h4, v32_dg, v32_dg]
  show some (W _, ()) = some (W (x * y), ())
  congr 3
  rw [← Int.natCast_mul, ← Int.natAbs_mul]
  by_cases h : x < 0 <;> by_cases h' : y < 0
  · have := Int.mul_pos_of_neg_of_neg h h'
    simp [h, h']; omega
  · have := Int.mul_nonneg (show 0 ≤ -x by omega) (show 0 ≤ y by omega)
    rw [Int.neg_mul] at this
    simp [h, h']; omega
  · have := Int.mul_nonneg (show 0 ≤ x by omega) (show 0 ≤ -y by omega)
    rw [Int.mul_neg] at this
    simp [h, h']; omega
  · have := Int.mul_nonneg (show 0 ≤ x by omega) (show 0 ≤ y by omega)
    simp [h, h']; omega

end Go.Md

namespace Go.Md
open Go.Dn

/-- At most 10^k. -/
def Le (k : Nat) (z : Int) : Prop := z.natAbs ≤ 10 ^ k
theorem Le.mul {a b : Nat} {x y : Int} (hx : Le a x) (hy : Le b y) : Le (a + b) (x * y) := by
  unfold Le at *
  rw [Int.natAbs_mul, Nat.pow_add]
  exact Nat.mul_le_mul hx hy
theorem Le.mono {a b : Nat} {x : Int} (hx : Le a x) (h : a ≤ b) : Le b x := Nat.le_trans hx (Nat.pow_le_pow_right (by omega) h)
theorem Le.add {a : Nat} {x y : Int} (hx : Le a x) (hy : Le a y) : Le (a + 1) (x + y) := by
  unfold Le at *
  rw [Nat.pow_succ]
  omega
theorem Le.neg {a : Nat} {x : Int} (hx : Le a x) : Le a (-x) := by unfold Le at *; omega
theorem Le.w {k : Nat} {z : Int} (h : Le k z) (hk : k ≤ 900) : z.natAbs < 4294967296 ^ 99 :=
  Nat.lt_of_le_of_lt (h.mono hk) (by decide +kernel)
theorem Le.n {k : Nat} {z : Int} (h : Le k z) (hk : k ≤ 500) : (dg6 z.natAbs).length < 90 := by
  have := dg6_len (k := 84) (n := z.natAbs) (Nat.lt_of_le_of_lt (h.mono hk) (by decide +kernel))
  omega
theorem Le.pow (n : Nat) : Le n (10 ^ n) := by
  unfold Le
  rw [Int.natAbs_pow]; exact Nat.le_refl _
theorem Le.nat {k n : Nat} (h : n ≤ 10 ^ k) : Le k (n : Int) := h
theorem Le.int {n : Int} (h1 : -9223372036854775808 ≤ n) (h2 : n ≤ 9223372036854775807) : Le 19 n := by unfold Le; omega

theorem Le.succ {k n : Nat} (h : Le k (n : Int)) : Le (k + 1) ((n + 1 : Nat) : Int) := by
  unfold Le at *
  rw [Nat.pow_succ]
  have : 1 ≤ 10 ^ k := Nat.pow_pos (by omega)
  omega

theorem whole_Power_eq (n : Nat) (hn : n ≤ 60) : whole_Power (n : Int) = some (W (10 ^ n), ()) := by
  unfold whole_Power
  rw [whole_Of_eq 1 (by omega) (by omega), Option.bind_some]
  dsimp only
  have loop : ∀ (f : Nat), n < f → iter f (((n : Int), (0 : Int), false, ([] : List Int), (W 1).1, (W 1).2, ()) : whole_Power_x3) whole_Power_b3 = some (Sum.inr (false, [], (W (10 ^ n)).1, (W (10 ^ n)).2, ())) := by
    intro f hf
    refine iter_post (Inv := fun i X => X = (((n : Int), (i : Int), false, ([] : List Int), (W (10 ^ i)).1, (W (10 ^ i)).2, ()) : whole_Power_x3)) n (fun r => r = some (Sum.inr (false, [], (W (10 ^ n)).1, (W (10 ^ n)).2, ()))) ?_ ?_ f 0 _ rfl (by omega) (by omega)
    · rintro i _ again hi rfl ih
      unfold whole_Power_b3
      dsimp only
      rw [bif_pos (by omega), whole_Of_eq 10 (by omega) (by omega), Option.bind_some]
      dsimp only
      rw [whole_Int_Times_eq (10 ^ i) 10 ((Le.pow i).w (by omega)) ((Le.int (n := 10) (by omega) (by omega)).w (by omega)), Option.bind_some, w64_id (by omega) (by omega)]
      refine ih _ ?_
      rw [Int.pow_succ]
      rfl
    · rintro _ again rfl
      unfold whole_Power_b3
      dsimp only
      rw [bif_neg (by omega)]
  rw [loop _ (by omega), joinB_inr]

theorem amount_Scaled_eq (d : D_api_Decimal) (p : Int) (h1 : -9223372036854775808 ≤ d.1) (h2 : d.1 ≤ 9223372036854775807) (hp0 : 0 ≤ p - d.2) (hp : p - d.2 ≤ 60) (hd : -1000 ≤ d.2 ∧ d.2 ≤ 1000) : amount_Scaled d p = some (W (d.1 * 10 ^ (p - d.2).toNat), ()) := by
  unfold amount_Scaled
  rw [whole_Of_eq _ h1 h2, Option.bind_some, w64_id (by omega) (by omega)]
  obtain ⟨n, hn⟩ : ∃ n : Nat, p - d.2 = n := ⟨(p - d.2).toNat, by omega⟩
  rw [hn, whole_Power_eq n (by omega), Option.bind_some]
  dsimp only
  rw [whole_Int_Times_eq _ _ ((Le.int h1 h2).w (by omega)) ((Le.pow n).w (by omega)), Option.bind_some, Int.toNat_natCast]

end Go.Md

namespace Go.Md
open Go.Dn

theorem N_nat (n : Nat) : N (n : Int) = (false, dg6 n) := by
  unfold N
  rw [show decide ((n : Int) < 0) = false by simp]; rfl

theorem drop_get_cons {α : Type} {l : List α} {k : Nat} {y : α} (h : l[k]? = some y) : l.drop k = y :: l.drop (k + 1) := by
  obtain ⟨hk, rfl⟩ := List.getElem?_eq_some_iff.1 h
  exact List.drop_eq_getElem_cons hk

theorem r1_half_eq (n : Nat) (hl : (dg6 n).length < 1000) : r1_half (N (n : Int)) = some (N ((n / 2 : Nat) : Int), ((n % 2 : Nat) : Int), ()) := by
  unfold r1_half
  rw [N_nat]
  dsimp only
  have hdig := dg6_dig n
  have hval := v6_dg n
  generalize hd : dg6 n = d at *
  have e1 : w64 ((d.length : Int) - 1) = (d.length : Int) - 1 := w64_id (by omega) (by omega)
  rw [e1, Int.toNat_natCast, chk_pos (by simp only [Bool.and_eq_true, decide_eq_true_eq]; omega)]
  have loop : ∀ f, d.length < f → ∃ o : List Int, iter f (((0 : Int), (d.length : Int) - 1, false, d, false, ([] : List Int), false, List.replicate d.length 0, ()) : r1_half_x4) r1_half_b4 = some (Sum.inr (((n % 2 : Nat) : Int), false, [], false, o, ())) ∧ Dg6 o ∧ o.length = d.length ∧ v6 o = ((n / 2 : Nat) : Int) := by
    intro f hf
    refine iter_post (Inv := fun i X => ∃ o : List Int, X = ((v6 (d.drop (d.length - i)) % 2, (d.length : Int) - i - 1, false, d, false, ([] : List Int), false, o, ()) : r1_half_x4) ∧ Dg6 o ∧ o.length = d.length ∧ v6 o = v6 (d.drop (d.length - i)) / 2 * 1000000 ^ (d.length - i) ∧ ∀ j, j < d.length - i → o[j]? = some 0) d.length
      (fun r => ∃ o : List Int, r = some (Sum.inr (((n % 2 : Nat) : Int), false, [], false, o, ())) ∧ Dg6 o ∧ o.length = d.length ∧ v6 o = ((n / 2 : Nat) : Int)) ?_ ?_ f 0 _ ⟨List.replicate d.length 0, ?_, fun x hx => by rw [List.mem_replicate] at hx; omega, by simp, ?_, fun j hj => by rw [List.getElem?_replicate, if_pos (by omega)]⟩ (by omega) (by omega)
    · rintro i _ again hi ⟨o, rfl, h1, h2, h3, h4⟩ ih
      unfold r1_half_b4
      dsimp only
      obtain ⟨k, hk⟩ : ∃ k, d.length - i = k + 1 := ⟨d.length - i - 1, by omega⟩
      have hki : d.length - (i + 1) = k := by omega
      have hy : d[k]? = some (d[k]'(by omega)) := getElem?_of (by omega)
      have hyd := hdig.get hy
      have hcons := drop_get_cons hy
      generalize d[k]'(by omega) = y at hy hyd hcons
      rw [hk] at h3 h4 ⊢
      rw [hki] at ih
      rw [hcons] at ih
      rw [v6_cons] at ih
      have hnn := v6_nonneg (hdig.drop (k + 1))
      generalize v6 (d.drop (k + 1)) = V at *
      have hi1 : (d.length : Int) - i - 1 = ((k : Nat) : Int) := by omega
      rw [hi1, bif_pos (by omega), idx_nat, hy, Option.bind_some]
      have hz : o[k]? = some 0 := h4 k (by omega)
      rw [w64_id (n := V % 2 * 1000000) (by omega) (by omega), w64_id (n := V % 2 * 1000000 + y) (by omega) (by omega)]
      rw [Int.tdiv_eq_ediv_of_nonneg (by omega), Int.tmod_eq_emod_of_nonneg (by omega), w64_id (n := (V % 2 * 1000000 + y) / 2) (by omega) (by omega), w64_id (n := (k : Int) - 1) (by omega) (by omega)]
      rw [chk_pos (by simp only [Bool.and_eq_true, decide_eq_true_eq]; omega), Int.toNat_natCast, hz, Option.bind_some]
      refine ih _ ⟨o.set k ((V % 2 * 1000000 + y) / 2), ?_, h1.set (by omega), by rw [List.length_set]; exact h2, ?_, fun j hj => ?_⟩
      · rw [show (V % 2 * 1000000 + y) % 2 = (y + 1000000 * V) % 2 by omega, show (k : Int) - 1 = (d.length : Int) - ((i + 1 : Nat) : Int) - 1 by omega]
      · rw [v6_set hz, h3, Int.pow_succ]
        have e2 : (y + 1000000 * V) / 2 = V / 2 * 1000000 + (V % 2 * 1000000 + y) / 2 := by omega
        rw [e2]
        grind
      · rw [List.getElem?_set_ne (by omega)]; exact h4 j (by omega)
    · rintro _ again ⟨o, rfl, h1, h2, h3, h4⟩
      unfold r1_half_b4
      dsimp only
      rw [bif_neg (by omega)]
      rw [Nat.sub_self, List.drop_zero, hval] at h3 ⊢
      exact ⟨o, rfl, h1, h2, by rw [h3]; simp⟩
    · rw [Nat.sub_zero, List.drop_length, v6_nil, show ((d.length : Int) - ((0 : Nat) : Int) - 1) = (d.length : Int) - 1 by omega]; rfl
    · have : v6 (List.replicate d.length 0) = 0 := by
        generalize d.length = m
        induction m with
        | zero => rfl
        | succ n ih => rw [List.replicate_succ, v6_cons, ih]; rfl
      rw [this]; simp [v6_nil]
  obtain ⟨o, h1, h2, h3, h4⟩ := loop (Int.natAbs (0 : Int) + (Int.natAbs ((d.length : Int) - 1) + (List.length d + (List.length ([] : List Int) + (List.length ((List.replicate d.length 0) : List Int) + 2))))) (by omega)
  rw [h1, joinB_inr]
  dsimp only
  rw [r1_made false o h2 (by omega), Option.bind_some, h4]
  rfl

theorem dg2_cons {n : Nat} (h : 0 < n) : dg 2 n = ((n % 2 : Nat) : Int) :: dg 2 (n / 2) := dg_pos (by omega) h

theorem r1_DivMod_bits (b0 : Bool) (b1 : List Int) (g1 g2 : Bool) (l1 l2 : List Int) : ∀ (k fuel n : Nat) (bits : List Int), n < 2 ^ k → k < fuel → bits.length + k < 100000 → (dg6 n).length < 1000 →
    iter fuel ((bits, b0, b1, g1, l1, g2, l2, (N (n : Int)).1, (N (n : Int)).2, ()) : r1_DivMod_x3) r1_DivMod_b3 = some (Sum.inr (bits ++ dg 2 n, b0, b1, g1, l1, g2, l2, ())) := by
  intro k
  induction k with
  | zero =>
    intro fuel n bits hn hf hb hl
    obtain ⟨f, rfl⟩ : ∃ f, fuel = f + 1 := ⟨fuel - 1, by omega⟩
    have : n = 0 := by simpa using hn
    subst this
    show r1_DivMod_b3 _ _ = _
    unfold r1_DivMod_b3
    dsimp only
    rw [show ((N ((0 : Nat) : Int)).1, (N ((0 : Nat) : Int)).2) = N ((0 : Nat) : Int) from rfl, r1_Sign_eq, Option.bind_some]
    rw [dg_zero, List.append_nil]
    rfl
  | succ k ih =>
    intro fuel n bits hn hf hb hl
    obtain ⟨f, rfl⟩ : ∃ f, fuel = f + 1 := ⟨fuel - 1, by omega⟩
    show r1_DivMod_b3 _ (fun y => iter f y r1_DivMod_b3) = _
    generalize hag : (fun y => iter f y r1_DivMod_b3) = again
    unfold r1_DivMod_b3
    dsimp only
    rw [show ((N (n : Int)).1, (N (n : Int)).2) = N (n : Int) from rfl, r1_Sign_eq, Option.bind_some]
    by_cases h0 : n = 0
    · subst h0
      rw [dg_zero, List.append_nil]
      rfl
    · dsimp only
      rw [bif_pos (by rw [gt_iff_lt, Int.sign_pos_iff]; omega), r1_half_eq n hl, Option.bind_some]
      dsimp only
      rw [chk_pos (chk_app (by omega) (by omega)), ← hag]
      dsimp only
      rw [ih f (n / 2) _ (by rw [Nat.pow_succ] at hn; omega) (by omega) (by simp; omega) (Nat.lt_of_le_of_lt (dg6_len_le (Nat.div_le_self _ _)) hl), dg2_cons (show 0 < n by omega), List.append_assoc]
      rfl

theorem r1_DivMod_eq (a b : Nat) (hb : 0 < b) (ha : Le 400 (a : Int)) (hb2 : Le 400 (b : Int)) : r1_DivMod (N (a : Int)) (N (b : Int)) = some (N ((a / b : Nat) : Int), N ((a % b : Nat) : Int), ()) := by
  unfold r1_DivMod
  dsimp only
  have hla := ha.n (by omega)
  rw [show (a : Int).natAbs = a from rfl] at hla
  have hpow : a < 2 ^ (20 * (dg6 a).length + 1) := by
    have h1 := v6_lt (dg6_dig a)
    rw [v6_dg] at h1
    have h2 : ((1000000 : Int) ^ (dg6 a).length) = ((1000000 ^ (dg6 a).length : Nat) : Int) := by simp
    rw [h2] at h1
    have h3 : (1000000 : Nat) ^ (dg6 a).length ≤ (2 ^ 20) ^ (dg6 a).length := Nat.pow_le_pow_left (by omega) _
    rw [← Nat.pow_mul] at h3
    have h4 : 2 ^ (20 * (dg6 a).length) ≤ 2 ^ (20 * (dg6 a).length + 1) := Nat.pow_le_pow_right (by omega) (by omega)
    omega
  have hN : (N (a : Int)).2 = dg6 a := by rw [N_nat]
  rw [hN]
  have hl1 := r1_DivMod_bits (N (b : Int)).1 (N (b : Int)).2 false false [] [] (20 * (dg6 a).length + 1) (20 * (dg6 a).length + 2) a [] hpow (by omega) (by simp; omega) (by omega)
  rw [hN] at hl1
  rw [hl1, joinB_inr, List.nil_append, r1_Of_eq 2 (by omega) (by omega), Option.bind_some]
  dsimp only
  have hdig : Dig 2 (dg 2 a) := dg_dig (B := 2) (by omega) a
  have hval : val 2 (dg 2 a) = (a : Int) := val_dg (B := 2) (by omega) a
  have hlen : (dg 2 a).length < 3000 := by have := dg_len (B := 2) (by omega) _ a hpow; omega
  generalize hd : dg 2 a = d at *
  have e1 : w64 ((d.length : Int) - 1) = (d.length : Int) - 1 := w64_id (by omega) (by omega)
  rw [e1]
  have loop : ∀ f, d.length < f → iter f ((d, (d.length : Int) - 1, (N (b : Int)).1, (N (b : Int)).2, false, ([] : List Int), false, ([] : List Int), (N 0).1, (N 0).2, (N 0).1, (N 0).2, (N 2).1, (N 2).2, ()) : r1_DivMod_x11) r1_DivMod_b11 = some (Sum.inr (false, [], false, [], (N ((a / b : Nat) : Int)).1, (N ((a / b : Nat) : Int)).2, (N ((a % b : Nat) : Int)).1, (N ((a % b : Nat) : Int)).2, ())) := by
    intro f hf
    refine iter_post (Inv := fun i X => ∃ V : Nat, X = ((d, (d.length : Int) - i - 1, (N (b : Int)).1, (N (b : Int)).2, false, ([] : List Int), false, ([] : List Int), (N ((V / b : Nat) : Int)).1, (N ((V / b : Nat) : Int)).2, (N ((V % b : Nat) : Int)).1, (N ((V % b : Nat) : Int)).2, (N 2).1, (N 2).2, ()) : r1_DivMod_x11) ∧ (V : Int) = val 2 (d.drop (d.length - i)) ∧ V ≤ a) d.length
      (fun r => r = some (Sum.inr (false, [], false, [], (N ((a / b : Nat) : Int)).1, (N ((a / b : Nat) : Int)).2, (N ((a % b : Nat) : Int)).1, (N ((a % b : Nat) : Int)).2, ()))) ?_ ?_ f 0 _ ⟨0, ?_, by simp [val], by omega⟩ (by omega) (by omega)
    · rintro i _ again hi ⟨V, rfl, hV, hVa⟩ ih
      unfold r1_DivMod_b11
      dsimp only
      obtain ⟨k, hk⟩ : ∃ k, d.length - i = k + 1 := ⟨d.length - i - 1, by omega⟩
      have hki : d.length - (i + 1) = k := by omega
      have hy : d[k]? = some (d[k]'(by omega)) := getElem?_of (by omega)
      have hyd := hdig.get hy
      have hcons := drop_get_cons hy
      generalize d[k]'(by omega) = y at hy hyd hcons
      rw [hk] at hV
      rw [hki, hcons] at ih
      have hV' : val 2 (y :: d.drop (k + 1)) = y + 2 * V := by rw [val, hV]
      have hle : y + 2 * V ≤ a := by
        have h1 : val 2 (d.drop k) * 2 ^ k + val 2 (d.take k) = a := by
          have := val_append (B := 2) (d.take k) (d.drop k)
          rw [List.take_append_drop, hval, List.length_take, Nat.min_eq_left (by omega)] at this
          rw [this, Int.mul_comm, Int.add_comm]
        have h2 := val_nonneg (B := 2) (by omega) (hdig.take k)
        have h3 : (1 : Int) ≤ 2 ^ k := pow_pos' (by omega) k
        rw [hcons, hV'] at h1
        have h4 : 0 ≤ (y + 2 * (V : Int)) * (2 ^ k - 1) := Int.mul_nonneg (by omega) (by omega)
        rw [Int.mul_sub, Int.mul_one] at h4
        omega
      obtain ⟨m, rfl⟩ : ∃ m : Nat, y = m := ⟨y.toNat, by omega⟩
      have hm2 : m = 0 ∨ m = 1 := by omega
      have hi1 : (d.length : Int) - i - 1 = ((k : Nat) : Int) := by omega
      have hq : Le 400 ((V / b : Nat) : Int) := Nat.le_trans (Nat.le_trans (Nat.div_le_self _ _) hVa) ha
      have hr : Le 400 ((V % b : Nat) : Int) := Nat.le_trans (Nat.le_trans (Nat.mod_le _ _) hVa) ha
      have h2 : Le 1 2 := by unfold Le; decide
      rw [hi1, bif_pos (by omega)]
      rw [show ∀ z : Int, ((N z).1, (N z).2) = N z from fun _ => rfl]
      rw [show ∀ z : Int, ((N z).1, (N z).2) = N z from fun _ => rfl]
      rw [show ∀ z : Int, ((N z).1, (N z).2) = N z from fun _ => rfl]
      rw [show ∀ z : Int, ((N z).1, (N z).2) = N z from fun _ => rfl]
      have bq := hq.n (by omega)
      have br := hr.n (by omega)
      have b2 := h2.n (by omega)
      have bb := hb2.n (by omega)
      rw [r1_TimesOf_eq _ _ (by omega) (by omega), Option.bind_some, r1_TimesOf_eq _ _ (by omega) (by omega), Option.bind_some]
      rw [chk_pos (by simp only [Bool.and_eq_true, decide_eq_true_eq]; omega), Int.toNat_natCast, hy, Option.bind_some, r1_Of_eq _ (by omega) (by omega), Option.bind_some]
      dsimp only
      have br2 := (hr.mul h2).n (by omega)
      have brm := ((hr.mul h2).add ((Le.nat (k := 1) (n := m) (by omega)).mono (by omega : 1 ≤ 400 + 1))).n (by omega)
      have bm := (Le.nat (k := 1) (n := m) (by omega)).n (by omega)
      have bq2 := (hq.mul h2).n (by omega)
      rw [r1_Plus_eq _ _ (by omega) (by omega), Option.bind_some]
      dsimp only
      rw [r1_Cmp_eq _ _ (by omega) (by omega), Option.bind_some]
      dsimp only
      rw [w64_id (n := (k : Int) - 1) (by omega) (by omega)]
      have hdm := Nat.div_add_mod V b
      have hml := Nat.mod_lt V hb
      by_cases hge : b ≤ V % b * 2 + m
      · rw [bif_pos (by rw [ge_iff_le, Int.sign_nonneg_iff]; omega), r1_Of_eq 1 (by omega) (by omega), Option.bind_some]
        dsimp only
        have b1 : (dg6 (Int.natAbs 1)).length < 90 := (Le.int (n := 1) (by omega) (by omega)).n (by omega)
        rw [r1_Plus_eq _ _ (by omega) (by omega), Option.bind_some, r1_Minus_eq, Option.bind_some]
        dsimp only
        have bnb := hb2.neg.n (by omega)
        rw [r1_Plus_eq _ _ (by omega) (by omega), Option.bind_some]
        have e : (m + 2 * V) / b = V / b * 2 + 1 ∧ (m + 2 * V) % b = V % b * 2 + m - b := by
          have h1 : m + 2 * V = b * (V / b * 2 + 1) + (V % b * 2 + m - b) := by
            rw [Nat.mul_add, Nat.mul_one, show b * (V / b * 2) = 2 * (b * (V / b)) by grind]; omega
          have h2 : V % b * 2 + m - b < b := by omega
          rw [h1]
          exact ⟨by rw [Nat.mul_add_div hb, Nat.div_eq_of_lt h2, Nat.add_zero], by rw [Nat.mul_add_mod, Nat.mod_eq_of_lt h2]⟩
        refine ih _ ⟨m + 2 * V, ?_, by rw [hV']; omega, by omega⟩
        rw [e.1, e.2]
        have e3 : (((V % b * 2 + m - b : Nat)) : Int) = ((V % b : Nat) : Int) * 2 + (m : Int) + -(b : Int) := by omega
        have e4 : ((V / b * 2 + 1 : Nat) : Int) = ((V / b : Nat) : Int) * 2 + 1 := by omega
        rw [e3, e4]
        congr 2
        omega
      · rw [bif_neg (by rw [ge_iff_le, Int.sign_nonneg_iff]; omega)]
        have e : (m + 2 * V) / b = V / b * 2 ∧ (m + 2 * V) % b = V % b * 2 + m := by
          have h1 : m + 2 * V = b * (V / b * 2) + (V % b * 2 + m) := by
            rw [show b * (V / b * 2) = 2 * (b * (V / b)) by grind]; omega
          have h2 : V % b * 2 + m < b := by omega
          rw [h1]
          exact ⟨by rw [Nat.mul_add_div hb, Nat.div_eq_of_lt h2, Nat.add_zero], by rw [Nat.mul_add_mod, Nat.mod_eq_of_lt h2]⟩
        refine ih _ ⟨m + 2 * V, ?_, by rw [hV']; omega, by omega⟩
        rw [e.1, e.2]
        have e3 : ((V % b * 2 + m : Nat) : Int) = ((V % b : Nat) : Int) * 2 + (m : Int) := by omega
        have e4 : ((V / b * 2 : Nat) : Int) = ((V / b : Nat) : Int) * 2 := by omega
        rw [e3, e4]
        congr 2
        omega
    · rintro _ again ⟨V, rfl, hV, hVa⟩
      unfold r1_DivMod_b11
      dsimp only
      rw [bif_neg (by omega)]
      rw [Nat.sub_self, List.drop_zero, hval] at hV
      have : V = a := by omega
      subst this
      rfl
    · rw [Nat.zero_div, Nat.zero_mod, show ((d.length : Int) - ((0 : Nat) : Int) - 1) = (d.length : Int) - 1 by omega]; rfl
  have hl2 := loop (List.length d + (Int.natAbs ((d.length : Int) - 1) + (List.length (N (b : Int)).2 + (List.length ([] : List Int) + (List.length ([] : List Int) + (List.length ([] : List Int) + (List.length ([] : List Int) + (List.length (N 2).2 + 2)))))))) (by omega)
  have hN0 : (N 0).1 = false ∧ (N 0).2 = [] := ⟨rfl, rfl⟩
  rw [hN0.1, hN0.2] at hl2
  rw [hl2, joinB_inr]

end Go.Md

namespace Go.Md
open Go.Dn

theorem r1_Small_eq (z limit : Int) (h0 : 0 < limit) (h1 : limit ≤ 1000000000000000000) (hz : Le 500 z) : r1_Small (N z) limit = some (if z.natAbs ≤ limit then (z, true, ()) else (0, false, ())) := by
  unfold r1_Small
  rw [r1_Of_eq limit (by omega) (by omega), Option.bind_some]
  have hl := hz.n (by omega)
  have hl2 : (dg6 limit.natAbs).length < 90 := (Le.int (n := limit) (by omega) (by omega)).n (by omega)
  show Option.bind (r1_sizes (dg6 z.natAbs) (dg6 limit.natAbs)) _ = _
  obtain ⟨c, k1, k2, k3⟩ := r1_sizes_eq z.natAbs limit.natAbs (by omega) (by omega)
  rw [k1, Option.bind_some]
  dsimp only
  by_cases hc : c > 0
  · rw [bif_pos hc, if_neg (by omega)]
  · rw [bif_neg hc, if_pos (by omega)]
    show joinB (iter _ ((0 : Int), w64 (((dg6 z.natAbs).length : Int) - 1), decide (z < 0), dg6 z.natAbs, ()) _) _ = _
    have hdig := dg6_dig z.natAbs
    have hval := v6_dg z.natAbs
    rw [show (N z).2 = dg6 z.natAbs from rfl]
    generalize hd : dg6 z.natAbs = d at *
    rw [w64_id (n := (d.length : Int) - 1) (by omega) (by omega)]
    have loop : ∀ f, d.length < f → iter f (((0 : Int), (d.length : Int) - 1, decide (z < 0), d, ()) : r1_Small_x5) r1_Small_b5 = some (Sum.inr ((z.natAbs : Int), decide (z < 0), d, ())) := by
      intro f hf
      refine iter_post (Inv := fun i X => X = ((v6 (d.drop (d.length - i)), (d.length : Int) - i - 1, decide (z < 0), d, ()) : r1_Small_x5)) d.length
        (fun r => r = some (Sum.inr ((z.natAbs : Int), decide (z < 0), d, ()))) ?_ ?_ f 0 _ ?_ (by omega) (by omega)
      · rintro i _ again hi rfl ih
        unfold r1_Small_b5
        dsimp only
        obtain ⟨k, hk⟩ : ∃ k, d.length - i = k + 1 := ⟨d.length - i - 1, by omega⟩
        have hki : d.length - (i + 1) = k := by omega
        have hy : d[k]? = some (d[k]'(by omega)) := getElem?_of (by omega)
        have hyd := hdig.get hy
        have hcons := drop_get_cons hy
        generalize d[k]'(by omega) = y at hy hyd hcons
        rw [hk]
        rw [hki, hcons, v6_cons] at ih
        have hnn := v6_nonneg (hdig.drop (k + 1))
        have hle : y + 1000000 * v6 (d.drop (k + 1)) ≤ z.natAbs := by
          have h1 : v6 (d.drop k) * 1000000 ^ k + v6 (d.take k) = z.natAbs := by
            have := v6_append (d.take k) (d.drop k)
            rw [List.take_append_drop, hval, List.length_take, Nat.min_eq_left (by omega)] at this
            rw [this, Int.mul_comm, Int.add_comm]
          have h2 := v6_nonneg (hdig.take k)
          have h3 : (1 : Int) ≤ 1000000 ^ k := pow_pos' (by omega) k
          rw [hcons, v6_cons] at h1
          have h4 : 0 ≤ (y + 1000000 * v6 (d.drop (k + 1))) * (1000000 ^ k - 1) := Int.mul_nonneg (by omega) (by omega)
          rw [Int.mul_sub, Int.mul_one] at h4
          omega
        generalize v6 (d.drop (k + 1)) = V at *
        have hi1 : (d.length : Int) - i - 1 = ((k : Nat) : Int) := by omega
        rw [hi1, bif_pos (by omega), idx_nat, hy, Option.bind_some, w64_id (n := V * 1000000) (by omega) (by omega), w64_id (n := V * 1000000 + y) (by omega) (by omega), w64_id (n := (k : Int) - 1) (by omega) (by omega)]
        refine ih _ ?_
        rw [show V * 1000000 + y = y + 1000000 * V by omega, show (k : Int) - 1 = (d.length : Int) - ((i + 1 : Nat) : Int) - 1 by omega]
      · rintro _ again rfl
        unfold r1_Small_b5
        dsimp only
        rw [bif_neg (by omega), Nat.sub_self, List.drop_zero, hval]
      · rw [Nat.sub_zero, List.drop_length, v6_nil, show ((d.length : Int) - ((0 : Nat) : Int) - 1) = (d.length : Int) - 1 by omega]
    rw [loop _ (by omega), joinB_inr]
    dsimp only
    by_cases hn : z < 0
    · rw [bif_pos hn, w64_id (by omega) (by omega)]
      congr 2; omega
    · rw [bif_neg hn]
      congr 2; omega

end Go.Md
