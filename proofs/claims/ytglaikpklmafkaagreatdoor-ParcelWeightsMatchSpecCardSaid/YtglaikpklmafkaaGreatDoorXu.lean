/-
  Plain facts: masses and weights; the plain law ParcelWeightsMatchSpec is true of all data. No condition.
-/
import Derived.Test.YtglaikpklmafkaaGreatDoorXt
import Derived.Test.YtglaikpklmafkaaGreatDoorXn
import Derived.Test.YtglaikpklmafkaaGreatDoorXs
set_option linter.all false
namespace Go.Md
open Go.Dn

theorem cmpB_pos {a b : List UInt8} (h : Op.bytesLess b a = true) : 0 < Lib.compareBytes a b := by
  have h1 : ¬ Lib.compareBytes a b < 0 := fun h2 => by
    have := cmpB_neg.1 h2
    rw [bless_asymm h] at this; cases this
  have h2 : ¬ Lib.compareBytes a b = 0 := fun h3 => by
    have := cmpB_zero.1 h3
    subst this
    rw [bless_irrefl] at h; cases h
  omega
def kLt (a b : D_api_Mass) : Bool := Op.bytesLess a.1 b.1 || (a.1 == b.1 && Op.bytesLess a.2.1 b.2.1)
theorem kLt_trans {a b c : D_api_Mass} (h : kLt a b = true) (k : kLt b c = true) : kLt a c = true := by
  simp only [kLt, Bool.or_eq_true, Bool.and_eq_true, beq_iff_eq] at *
  rcases h with h | ⟨h, h'⟩
  · rcases k with k | ⟨k, k'⟩
    · exact .inl (bless_trans h k)
    · exact .inl (k ▸ h)
  · rcases k with k | ⟨k, k'⟩
    · exact .inl (h ▸ k)
    · exact .inr ⟨h.trans k, bless_trans h' k'⟩
theorem kLt_ne {a b : D_api_Mass} (h : kLt a b = true) : (a.1 == b.1 && a.2.1 == b.2.1) = false := by
  cases hb : (a.1 == b.1 && a.2.1 == b.2.1) with
  | false => rfl
  | true =>
    simp only [Bool.and_eq_true, beq_iff_eq] at hb
    simp only [kLt, hb.1, hb.2, bless_irrefl, Bool.and_false, Bool.or_false] at h
    cases h
theorem cmp2 (p y : D_api_Mass) : decide (scanF (fun _ (z : Int) => z) 0 [Lib.compareBytes p.1 y.1, Lib.compareBytes p.2.1 y.2.1] ≥ 0) = !kLt p y := by
  have key : ∀ a b : List UInt8, (Lib.compareBytes a b < 0 ∧ Op.bytesLess a b = true ∧ (a == b) = false) ∨ (Lib.compareBytes a b = 0 ∧ Op.bytesLess a b = false ∧ (a == b) = true) ∨ (0 < Lib.compareBytes a b ∧ Op.bytesLess a b = false ∧ (a == b) = false) := fun a b => by
    rcases bless_tri a b with h | h | h
    · refine .inl ⟨cmpB_neg.2 h, h, ?_⟩
      rw [beq_eq_false_iff_ne]; rintro rfl; rw [bless_irrefl] at h; cases h
    · subst h; exact .inr (.inl ⟨cmpB_zero.2 rfl, bless_irrefl _, by simp⟩)
    · refine .inr (.inr ⟨cmpB_pos h, bless_asymm h, ?_⟩)
      rw [beq_eq_false_iff_ne]; rintro rfl; rw [bless_irrefl] at h; cases h
  unfold kLt
  rcases key p.1 y.1 with ⟨h1, h2, h3⟩ | ⟨h1, h2, h3⟩ | ⟨h1, h2, h3⟩
  · rw [h2]
    have : ¬ Lib.compareBytes p.1 y.1 = 0 := by omega
    simp only [scanF, this, if_false, Bool.true_or, Bool.not_true, decide_eq_false_iff_not]
    omega
  · rw [h2, h3]
    rcases key p.2.1 y.2.1 with ⟨k1, k2, k3⟩ | ⟨k1, k2, k3⟩ | ⟨k1, k2, k3⟩
    · rw [k2]
      have : ¬ Lib.compareBytes p.2.1 y.2.1 = 0 := by omega
      simp only [scanF, h1, this, if_true, if_false, Bool.and_self, Bool.or_true, Bool.not_true, decide_eq_false_iff_not]
      omega
    · rw [k2]
      simp [scanF, h1, k1]
    · rw [k2]
      have : ¬ Lib.compareBytes p.2.1 y.2.1 = 0 := by omega
      simp only [scanF, h1, this, if_true, if_false, Bool.and_false, Bool.or_false, Bool.not_false, decide_eq_true_eq]
      omega
  · rw [h2, h3]
    have : ¬ Lib.compareBytes p.1 y.1 = 0 := by omega
    simp only [scanF, this, if_false, Bool.false_and, Bool.or_false, Bool.not_false, decide_eq_true_eq]
    omega

def prevM (l : List D_api_Mass) (i : Nat) (y : D_api_Mass) : Bool := match i with
  | 0 => false
  | i + 1 => match l[i]? with
    | some p => !kLt p y
    | none => false
def massF (l : List D_api_Mass) (i : Nat) (m : D_api_Mass) : Int :=
  if isNm m.1 = false then 5 else if isNm m.2.1 = false then 5 else if prevM l i m = true then 8 else if qOk m.2.2 true = true then 0 else 1
def massesF (l : List D_api_Mass) : Int := if 500 < l.length then 2 else scanF (massF l) 0 l

theorem parcel_CheckMasses_eq (l : List D_api_Mass) : parcel_CheckMasses l = some (massesF l, ()) := by
  unfold parcel_CheckMasses massesF
  by_cases hb : 500 < l.length
  · rw [bif_pos (by omega), if_pos hb]
  · rw [bif_neg (by omega), if_neg hb]
    rw [iter_scan0 (f := parcel_CheckMasses_b4) (fun i => ((l, l, (l.length : Int), (i : Int), ()) : parcel_CheckMasses_x4)) l (massF l) () ?_ ?_ ?_ _ ?_]
    · exact scanJ _ _
    · rfl
    · intro i y again hy
      have hi := (List.getElem?_eq_some_iff.1 hy).1
      unfold parcel_CheckMasses_b4
      dsimp only
      rw [bif_pos (by omega), idx_nat, hy, Option.bind_some]
      simp only [kit_IsName_eq, Option.bind_some, order_QuantityFault_eq, strings_Compare]
      have hw : w64 ((i : Int) + 1) = ((i + 1 : Nat) : Int) := by rw [w64_id (by omega) (by omega)]; omega
      rw [hw]
      unfold massF
      generalize qOk y.2.2 true = q
      cases i with
      | zero =>
        simp only [prevM]
        cases isNm y.1 <;> cases isNm y.2.1 <;> cases q <;> simp
      | succ i =>
        have hp : l[i]? = some (l[i]'(by omega)) := getElem?_of (by omega)
        have ep : prevM l (i + 1) y = !kLt (l[i]'(by omega)) y := by simp only [prevM, hp]
        have hpos : decide (((i + 1 : Nat) : Int) > 0) = true := by simp
        rw [prev_idx' (by omega) (by omega), hp, ep, hpos]
        simp only [Option.bind_some, cond_true]
        rw [cmp_Or_eq _ (by simp), Option.bind_some]
        dsimp only
        rw [cmp2]
        generalize (!kLt (l[i]'(by omega)) y) = p
        cases isNm y.1 <;> cases isNm y.2.1 <;> cases q <;> cases p <;> simp
    · intro again
      unfold parcel_CheckMasses_b4
      dsimp only
      rw [bif_neg (by omega)]
    · omega

theorem kLt_not (p y : D_api_Mass) : (!kLt p y) = (Op.bytesLess y.1 p.1 || (y.1 == p.1 && (Op.bytesLess y.2.1 p.2.1 || y.2.1 == p.2.1))) := by
  unfold kLt
  have key : ∀ a b : List UInt8, (Op.bytesLess a b = true ∧ Op.bytesLess b a = false ∧ (a == b) = false ∧ (b == a) = false) ∨ (Op.bytesLess a b = false ∧ Op.bytesLess b a = false ∧ (a == b) = true ∧ (b == a) = true) ∨ (Op.bytesLess a b = false ∧ Op.bytesLess b a = true ∧ (a == b) = false ∧ (b == a) = false) := fun a b => by
    rcases bless_tri a b with h | h | h
    · have hne : a ≠ b := by rintro rfl; rw [bless_irrefl] at h; cases h
      exact .inl ⟨h, bless_asymm h, by simpa using hne, by simpa using hne.symm⟩
    · subst h; exact .inr (.inl ⟨bless_irrefl _, bless_irrefl _, by simp, by simp⟩)
    · have hne : a ≠ b := by rintro rfl; rw [bless_irrefl] at h; cases h
      exact .inr (.inr ⟨bless_asymm h, h, by simpa using hne, by simpa using hne.symm⟩)
  rcases key p.1 y.1 with ⟨h1, h2, h3, h4⟩ | ⟨h1, h2, h3, h4⟩ | ⟨h1, h2, h3, h4⟩ <;> rcases key p.2.1 y.2.1 with ⟨k1, k2, k3, k4⟩ | ⟨k1, k2, k3, k4⟩ | ⟨k1, k2, k3, k4⟩ <;> rw [h1, h2, h3, h4, k1, k2, k4] <;> rfl

theorem r10_CheckMasses_eq (l : List D_api_Mass) : r10_CheckMasses l = some (massesF l, ()) := by
  unfold r10_CheckMasses massesF
  by_cases hb : 500 < l.length
  · rw [bif_pos (by omega), if_pos hb]
  · rw [bif_neg (by omega), if_neg hb]
    rw [iter_scan0 (f := r10_CheckMasses_b4) (fun i => ((l, l, (l.length : Int), (i : Int), ()) : r10_CheckMasses_x4)) l (massF l) () ?_ ?_ ?_ _ ?_]
    · exact scanJ _ _
    · rfl
    · intro i y again hy
      have hi := (List.getElem?_eq_some_iff.1 hy).1
      unfold r10_CheckMasses_b4
      dsimp only
      rw [bif_pos (by omega), idx_nat, hy, Option.bind_some]
      simp only [r1_IsName_eq, Option.bind_some, r10_isMass_eq, Bool.not_false]
      have hw : w64 ((i : Int) + 1) = ((i + 1 : Nat) : Int) := by rw [w64_id (by omega) (by omega)]; omega
      rw [hw]
      unfold massF
      generalize qOk y.2.2 true = q
      cases i with
      | zero =>
        simp only [prevM]
        cases isNm y.1 <;> cases isNm y.2.1 <;> cases q <;> simp
      | succ i =>
        have hp : l[i]? = some (l[i]'(by omega)) := getElem?_of (by omega)
        have ep : prevM l (i + 1) y = !kLt (l[i]'(by omega)) y := by simp only [prevM, hp]
        have hpos : decide (((i + 1 : Nat) : Int) > 0) = true := by simp
        rw [prev_idx' (by omega) (by omega), hp, ep, hpos, kLt_not]
        simp only [Option.bind_some, cond_true]
        generalize Op.bytesLess y.1 (l[i]'(by omega)).1 = p1
        generalize (y.1 == (l[i]'(by omega)).1) = p2
        generalize (Op.bytesLess y.2.1 (l[i]'(by omega)).2.1 || y.2.1 == (l[i]'(by omega)).2.1) = p3
        cases isNm y.1 <;> cases isNm y.2.1 <;> cases q <;> cases p1 <;> cases p2 <;> cases p3 <;> simp
    · intro again
      unfold r10_CheckMasses_b4
      dsimp only
      rw [bif_neg (by omega)]
    · omega

/-- Right masses. -/
theorem massesF_zero {l : List D_api_Mass} (h : massesF l = 0) : l.length ≤ 500 ∧ (∀ (i j : Nat) (x y : D_api_Mass), i < j → l[i]? = some x → l[j]? = some y → kLt x y = true) ∧ ∀ m ∈ l, qOk m.2.2 true = true := by
  unfold massesF at h
  split at h
  · omega
  have hz := scanF_zero h
  have hz' : ∀ i y, l[i]? = some y → prevM l i y = false ∧ qOk y.2.2 true = true := fun i y hy => by
    have := hz i y hy
    rw [Nat.zero_add] at this
    unfold massF at this
    split at this
    · omega
    split at this
    · omega
    split at this
    · omega
    rename_i h1
    split at this
    · rename_i h2; exact ⟨by simpa using h1, h2⟩
    · omega
  refine ⟨by omega, ?_, fun m hm => ?_⟩
  · have step : ∀ i x y, l[i]? = some x → l[i + 1]? = some y → kLt x y = true := fun i x y hx hy => by
      have := (hz' (i + 1) y hy).1
      simp only [prevM, hx] at this
      simpa using this
    intro i j x y hij hx hy
    induction j generalizing y with
    | zero => omega
    | succ j ih =>
      rcases Nat.lt_succ_iff_lt_or_eq.1 hij with h1 | h1
      · have hj : j < l.length := by have := (List.getElem?_eq_some_iff.1 hy).1; omega
        have hz : l[j]? = some l[j] := getElem?_of hj
        exact kLt_trans (ih _ h1 hz) (step j _ y hz hy)
      · subst h1; exact step i x y hx hy
  · obtain ⟨i, hi⟩ := List.mem_iff_getElem?.1 hm
    exact (hz' i m hi).2

end Go.Md

namespace Go.Md
open Go.Dn

def mEq (a u : List UInt8) (x : D_api_Mass) : Bool := x.1 == a && x.2.1 == u
/-- The mass of goods. -/
def mLook (l : List D_api_Mass) (a u : List UInt8) : Option D_api_Decimal := (l.find? (mEq a u)).map (·.2.2)
def toM (x : D_api_Mass) : D_parcel_goods × D_api_Decimal := ((x.1, x.2.1), x.2.2)

def pget (m : List (D_parcel_goods × D_api_Decimal)) (x : D_parcel_goods) : Option D_api_Decimal := mget (k := t_parcel_goods) (v := t_api_Decimal) m x
def pset (m : List (D_parcel_goods × D_api_Decimal)) (x : D_parcel_goods) (y : D_api_Decimal) : List (D_parcel_goods × D_api_Decimal) := mset (k := t_parcel_goods) (v := t_api_Decimal) m x y
theorem pget_cons (p : D_parcel_goods × D_api_Decimal) (m : List (D_parcel_goods × D_api_Decimal)) (x : D_parcel_goods) : pget (p :: m) x = bif (x.1 == p.1.1 && x.2 == p.1.2) then some p.2 else pget m x := mget_cons (k := t_parcel_goods) (v := t_api_Decimal) p m x
theorem pset_cons (p : D_parcel_goods × D_api_Decimal) (m : List (D_parcel_goods × D_api_Decimal)) (x : D_parcel_goods) (y : D_api_Decimal) : pset (p :: m) x y = bif (x.1 == p.1.1 && x.2 == p.1.2) then (x, y) :: m else p :: pset m x y := rfl
theorem mset_new (m : List (D_parcel_goods × D_api_Decimal)) (x : D_parcel_goods) (y : D_api_Decimal) (h : ∀ p ∈ m, (x.1 == p.1.1 && x.2 == p.1.2) = false) : pset m x y = m ++ [(x, y)] := by
  induction m with
  | nil => rfl
  | cons p r ih =>
    rw [pset_cons, h p (by simp), cond_false, ih fun q hq => h q (by simp [hq])]
    rfl
theorem mget_toM (l : List D_api_Mass) (a u : List UInt8) : pget (l.map toM) (a, u) = mLook l a u := by
  unfold mLook
  induction l with
  | nil => rfl
  | cons x r ih =>
    have e : (a == x.1 && u == x.2.1) = mEq a u x := by
      unfold mEq
      rw [show (a == x.1) = (x.1 == a) from Bool.beq_comm .., show (u == x.2.1) = (x.2.1 == u) from Bool.beq_comm ..]
    rw [List.map_cons, pget_cons, List.find?_cons]
    show (bif (a == x.1 && u == x.2.1) then some x.2.2 else pget (r.map toM) (a, u)) = _
    rw [e, ih]
    cases mEq a u x <;> rfl
theorem parcel_weighed_b3_p (x1 : parcel_weighed_x3) (again : parcel_weighed_x3 → Option parcel_weighed_r3) : parcel_weighed_b3 x1 again = (
  bif decide (x1.2.2.2.1 < x1.2.2.1) then
    Option.bind (idx x1.2.1 x1.2.2.2.1) fun y2 =>
    again (x1.1, x1.2.1, x1.2.2.1, w64 (x1.2.2.2.1 + 1), x1.2.2.2.2.1, x1.2.2.2.2.2.1, pset x1.2.2.2.2.2.2.1 (y2.1, y2.2.1) y2.2.2, ())
  else
    some (Sum.inr (x1.1, x1.2.2.2.2.1, x1.2.2.2.2.2.1, x1.2.2.2.2.2.2.1, ()))) := rfl
theorem parcel_weighed_b13_p (x1 : parcel_weighed_x13) (again : parcel_weighed_x13 → Option parcel_weighed_r13) : parcel_weighed_b13 x1 again = (
  bif decide (x1.2.2.2.2.2.1 < x1.2.2.2.2.1) then
    Option.bind (idx x1.2.2.2.1 x1.2.2.2.2.2.1) fun y2 =>
    bif !(Option.isSome (pget x1.2.2.2.2.2.2.2.2.2.2.1 (y2.1, y2.2.1))) then
      inlM <|
        some (Sum.inl ((x1.2.2.2.2.2.2.2.2.1, x1.2.2.2.2.2.2.2.2.2.1), false, ()))
    else
      Option.bind (amount_Scaled y2.2.2.2 3) fun r3 =>
      Option.bind (amount_Scaled (Option.getD (pget x1.2.2.2.2.2.2.2.2.2.2.1 (y2.1, y2.2.1)) (0, 0)) 3) fun r4 =>
      Option.bind (whole_Int_Times r3.1 r4.1) fun r5 =>
      Option.bind (whole_Int_Plus (x1.2.2.2.2.2.2.2.2.1, x1.2.2.2.2.2.2.2.2.2.1) r5.1) fun r6 =>
      again (x1.1, x1.2.1, x1.2.2.1, x1.2.2.2.1, x1.2.2.2.2.1, w64 (x1.2.2.2.2.2.1 + 1), x1.2.2.2.2.2.2.1, x1.2.2.2.2.2.2.2.1, r6.1.1, r6.1.2, x1.2.2.2.2.2.2.2.2.2.2.1, ())
  else
    some (Sum.inr (x1.1, x1.2.1, x1.2.2.1, x1.2.2.2.2.2.2.1, x1.2.2.2.2.2.2.2.1, x1.2.2.2.2.2.2.2.2.1, x1.2.2.2.2.2.2.2.2.2.1, x1.2.2.2.2.2.2.2.2.2.2.1, ()))) := rfl

/-- What content weighs, with six places. -/
def cW (m : List D_api_Mass) (c : D_api_Content) : Option Int := (mLook m c.1 c.2.1).map fun w => c.2.2.2.1 * 10 ^ (3 - c.2.2.2.2).toNat * (w.1 * 10 ^ (3 - w.2).toNat)
def wC (m : List D_api_Mass) : List D_api_Content → Int → Option Int
  | [], n => some n
  | c :: r, n => match cW m c with
    | some x => wC m r (n + x)
    | none => none
def tare6 (p : D_api_Parcel) : Int := p.2.2.1.1 * 10 ^ (6 - p.2.2.1.2).toNat
def wP (m : List D_api_Mass) : List D_api_Parcel → Int → Option Int
  | [], n => some n
  | p :: r, n => match wC m p.2.2.2 (n + tare6 p) with
    | some z => wP m r z
    | none => none

def K37 : Nat := 10 ^ 37
theorem K37_Le {z : Int} {c : Nat} (hc : c ≤ 100000) (h : z.natAbs ≤ c * K37) : Le 42 z := by
  unfold Le
  have h1 : c * K37 ≤ 100000 * K37 := Nat.mul_le_mul_right _ hc
  have h2 : 100000 * K37 = 10 ^ 42 := by unfold K37; decide
  omega
/-- A right quantity. -/
structure QOk (d : D_api_Decimal) : Prop where
  dec : DecOk d
  pl : d.2 ≤ 3
theorem qOk_ok {d : D_api_Decimal} {z : Bool} (h : qOk d z = true) : QOk d := by
  unfold qOk at h
  rw [Bool.and_eq_true] at h
  have h1 := h.1
  unfold inR at h1
  rw [decide_eq_true_eq] at h1
  exact ⟨h1.1, h1.2.1⟩
theorem scaled_Le {d : D_api_Decimal} (h : QOk d) (k : Nat) (hk : k ≤ 9) : Le (15 + k) (d.1 * 10 ^ ((k : Int) - d.2).toNat) :=
  (Le.dec h.dec).mul ((Le.pow _).mono (by have := h.dec.2; omega))
theorem cW_bound {m : List D_api_Mass} {c : D_api_Content} (hm : ∀ x ∈ m, qOk x.2.2 true = true) (hc : QOk c.2.2.2) {z : Int} (h : cW m c = some z) : Le 36 z ∧ ∃ w, mLook m c.1 c.2.1 = some w ∧ QOk w ∧ z = c.2.2.2.1 * 10 ^ (3 - c.2.2.2.2).toNat * (w.1 * 10 ^ (3 - w.2).toNat) := by
  unfold cW at h
  cases hl : mLook m c.1 c.2.1 with
  | none => rw [hl] at h; cases h
  | some w =>
    rw [hl] at h
    simp only [Option.map_some, Option.some.injEq] at h
    have hw : QOk w := by
      unfold mLook at hl
      cases hf : m.find? (mEq c.1 c.2.1) with
      | none => rw [hf] at hl; cases hl
      | some x =>
        rw [hf] at hl
        simp only [Option.map_some, Option.some.injEq] at hl
        subst hl
        exact qOk_ok (hm x (List.mem_of_find?_eq_some hf))
    refine ⟨?_, w, rfl, hw, h.symm⟩
    rw [← h]
    exact (scaled_Le hc 3 (by omega)).mul (scaled_Le hw 3 (by omega))
theorem Le.k37 {z : Int} (h : Le 36 z) : z.natAbs ≤ K37 := Nat.le_trans h (Nat.pow_le_pow_right (by omega) (by omega))

theorem weighed_inner (m : List D_api_Mass) (hm : ∀ x ∈ m, qOk x.2.2 true = true) (gp : List D_api_Parcel) (g1 g2 : Int) (cs : List D_api_Content) (hcs : ∀ c ∈ cs, QOk c.2.2.2) (hl : cs.length ≤ 100) (b1 : Bool) (b2 : List Int) (n : Int) (C : Nat) (hC : C ≤ 90000) (hn : n.natAbs ≤ C * K37) (f : Nat) (hf : cs.length < f) :
    (∃ z, wC m cs n = some z ∧ z.natAbs ≤ (C + cs.length) * K37 ∧ iter f ((gp, g1, g2, cs, (cs.length : Int), (0 : Int), b1, b2, (W n).1, (W n).2, m.map toM, ()) : parcel_weighed_x13) parcel_weighed_b13 = some (Sum.inr (gp, g1, g2, b1, b2, (W z).1, (W z).2, m.map toM, ()))) ∨
    (wC m cs n = none ∧ ∃ q, iter f ((gp, g1, g2, cs, (cs.length : Int), (0 : Int), b1, b2, (W n).1, (W n).2, m.map toM, ()) : parcel_weighed_x13) parcel_weighed_b13 = some (Sum.inl (Sum.inl (q, false, ())))) := by
  refine iter_post (Inv := fun i X => ∃ z : Int, X = ((gp, g1, g2, cs, (cs.length : Int), (i : Int), b1, b2, (W z).1, (W z).2, m.map toM, ()) : parcel_weighed_x13) ∧ wC m (cs.drop i) z = wC m cs n ∧ z.natAbs ≤ (C + i) * K37) cs.length
    (fun r => (∃ z, wC m cs n = some z ∧ z.natAbs ≤ (C + cs.length) * K37 ∧ r = some (Sum.inr (gp, g1, g2, b1, b2, (W z).1, (W z).2, m.map toM, ()))) ∨ (wC m cs n = none ∧ ∃ q, r = some (Sum.inl (Sum.inl (q, false, ()))))) ?_ ?_ f 0 _ ⟨n, rfl, rfl, by simpa using hn⟩ (by omega) (by omega)
  · rintro i _ again hi ⟨z, rfl, h1, h2⟩ ih
    rw [parcel_weighed_b13_p]
    dsimp only
    have hy : cs[i]? = some cs[i] := getElem?_of hi
    have hyq := hcs _ (List.getElem_mem hi)
    have hcons := drop_get_cons hy
    generalize cs[i] = c at hy hyq hcons
    rw [hcons] at h1
    simp only [wC] at h1
    rw [bif_pos (by omega), idx_nat, hy, Option.bind_some, mget_toM]
    cases hcw : cW m c with
    | none =>
      rw [hcw] at h1
      have hno : mLook m c.1 c.2.1 = none := by
        unfold cW at hcw
        cases hl : mLook m c.1 c.2.1 with
        | none => rfl
        | some w => rw [hl] at hcw; cases hcw
      rw [hno]
      exact .inr ⟨h1.symm, _, rfl⟩
    | some x =>
      rw [hcw] at h1
      obtain ⟨hx, w, hw1, hw2, hw3⟩ := cW_bound hm hyq hcw
      have d1 := hyq.dec.1; have d2 := hyq.dec.2; have d3 := hyq.pl; have e1 := hw2.dec.1; have e2 := hw2.dec.2; have e3 := hw2.pl
      have s1 : Le 18 (c.2.2.2.1 * 10 ^ ((3 : Int) - c.2.2.2.2).toNat) := scaled_Le hyq 3 (by omega)
      have s2 : Le 18 (w.1 * 10 ^ ((3 : Int) - w.2).toNat) := scaled_Le hw2 3 (by omega)
      rw [hw1]
      dsimp only [Option.isSome_some, Option.getD_some]
      rw [Bool.not_true, cond_false, amount_Scaled_eq _ _ (by omega) (by omega) (by omega) (by omega) (by omega), Option.bind_some, amount_Scaled_eq _ _ (by omega) (by omega) (by omega) (by omega) (by omega), Option.bind_some]
      dsimp only
      rw [whole_Int_Times_eq _ _ (s1.w (by omega)) (s2.w (by omega)), Option.bind_some]
      dsimp only
      rw [← hw3, show ((W z).1, (W z).2) = W z from rfl, whole_Int_Plus_eq _ _ ((K37_Le (by omega) h2).w (by omega)) (hx.w (by omega)), Option.bind_some, w64_id (by omega) (by omega)]
      refine ih _ ⟨z + x, rfl, h1, ?_⟩
      have hk := hx.k37
      have : (C + (i + 1)) * K37 = (C + i) * K37 + K37 := by rw [← Nat.add_assoc, Nat.succ_mul]
      omega
  · rintro _ again ⟨z, rfl, h1, h2⟩
    unfold parcel_weighed_b13
    dsimp only
    rw [bif_neg (by omega)]
    rw [List.drop_length] at h1
    exact .inl ⟨z, h1.symm, h2, rfl⟩

/-- Right parcels. -/
structure PaOk (p : D_api_Parcel) : Prop where
  t : QOk p.2.2.1
  n : p.2.2.2.length ≤ 100
  c : ∀ c ∈ p.2.2.2, QOk c.2.2.2

theorem parcel_weighed_eq (ps : List D_api_Parcel) (hps : ∀ p ∈ ps, PaOk p) (hl : ps.length ≤ 500) (m : List D_api_Mass) (hm0 : massesF m = 0) :
    (∃ z, wP m ps 0 = some z ∧ Le 42 z ∧ parcel_weighed ps m = some (W z, true, ())) ∨ (wP m ps 0 = none ∧ ∃ q, parcel_weighed ps m = some (q, false, ())) := by
  obtain ⟨hml, hms, hm⟩ := massesF_zero hm0
  unfold parcel_weighed
  have build : ∀ f, m.length < f → iter f ((ps, m, (m.length : Int), (0 : Int), false, ([] : List Int), ([] : List (D_parcel_goods × D_api_Decimal)), ()) : parcel_weighed_x3) parcel_weighed_b3 = some (Sum.inr (ps, false, [], m.map toM, ())) := by
    intro f hf
    refine iter_post (Inv := fun i X => X = ((ps, m, (m.length : Int), (i : Int), false, ([] : List Int), (m.take i).map toM, ()) : parcel_weighed_x3)) m.length (fun r => r = some (Sum.inr (ps, false, [], m.map toM, ()))) ?_ ?_ f 0 _ rfl (by omega) (by omega)
    · rintro i _ again hi rfl ih
      rw [parcel_weighed_b3_p]
      dsimp only
      have hy : m[i]? = some m[i] := getElem?_of hi
      have htk := take_succ_get hy
      generalize m[i] = y at hy htk
      rw [bif_pos (by omega), idx_nat, hy, Option.bind_some, w64_id (by omega) (by omega), mset_new]
      · refine ih _ ?_
        rw [htk, List.map_append]
        rfl
      · intro p hp
        rw [List.mem_map] at hp
        obtain ⟨x, hx, rfl⟩ := hp
        obtain ⟨j, hj⟩ := List.mem_iff_getElem?.1 hx
        have hji : j < i := by
          have := (List.getElem?_eq_some_iff.1 hj).1
          simp at this; omega
        have hj' : m[j]? = some x := by rw [List.getElem?_take] at hj; rwa [if_pos hji] at hj
        have hne := kLt_ne (hms j i x y hji hj' hy)
        show (y.1 == x.1 && y.2.1 == x.2.1) = false
        rw [show (y.1 == x.1) = (x.1 == y.1) from Bool.beq_comm .., show (y.2.1 == x.2.1) = (x.2.1 == y.2.1) from Bool.beq_comm ..]
        exact hne
    · rintro _ again rfl
      unfold parcel_weighed_b3
      dsimp only
      rw [bif_neg (by omega), List.take_of_length_le (Nat.le_refl _)]
  rw [build _ (by omega), joinB_inr, whole_Of_eq 0 (by omega) (by omega), Option.bind_some]
  dsimp only
  have loop : ∀ f, ps.length < f → (∃ z, wP m ps 0 = some z ∧ Le 42 z ∧ iter f ((ps, (ps.length : Int), (0 : Int), false, ([] : List Int), (W 0).1, (W 0).2, m.map toM, ()) : parcel_weighed_x9) parcel_weighed_b9 = some (Sum.inr (false, [], (W z).1, (W z).2, ()))) ∨
      (wP m ps 0 = none ∧ ∃ q, iter f ((ps, (ps.length : Int), (0 : Int), false, ([] : List Int), (W 0).1, (W 0).2, m.map toM, ()) : parcel_weighed_x9) parcel_weighed_b9 = some (Sum.inl (q, false, ()))) := by
    intro f hf
    refine iter_post (Inv := fun i X => ∃ z : Int, X = ((ps, (ps.length : Int), (i : Int), false, ([] : List Int), (W z).1, (W z).2, m.map toM, ()) : parcel_weighed_x9) ∧ wP m (ps.drop i) z = wP m ps 0 ∧ z.natAbs ≤ (101 * i) * K37) ps.length
      (fun r => (∃ z, wP m ps 0 = some z ∧ Le 42 z ∧ r = some (Sum.inr (false, [], (W z).1, (W z).2, ()))) ∨ (wP m ps 0 = none ∧ ∃ q, r = some (Sum.inl (q, false, ())))) ?_ ?_ f 0 _ ⟨0, rfl, rfl, by simp⟩ (by omega) (by omega)
    · rintro i _ again hi ⟨z, rfl, h1, h2⟩ ih
      unfold parcel_weighed_b9
      dsimp only
      have hy : ps[i]? = some ps[i] := getElem?_of hi
      have hyq := hps _ (List.getElem_mem hi)
      have hcons := drop_get_cons hy
      generalize ps[i] = p at hy hyq hcons
      rw [hcons] at h1
      simp only [wP] at h1
      have d1 := hyq.t.dec.1; have d2 := hyq.t.dec.2; have d3 := hyq.t.pl
      have ht : Le 21 (tare6 p) := scaled_Le hyq.t 6 (by omega)
      rw [bif_pos (by omega), idx_nat, hy, Option.bind_some, amount_Scaled_eq _ _ (by omega) (by omega) (by omega) (by omega) (by omega), Option.bind_some]
      dsimp only
      rw [show p.2.2.1.1 * 10 ^ ((6 : Int) - p.2.2.1.2).toNat = tare6 p from rfl, show ((W z).1, (W z).2) = W z from rfl, whole_Int_Plus_eq _ _ ((K37_Le (by omega) h2).w (by omega)) (ht.w (by omega)), Option.bind_some]
      dsimp only
      have hk := (ht.mono (show 21 ≤ 36 by omega)).k37
      have hb : (z + tare6 p).natAbs ≤ (101 * i + 1) * K37 := by
        have : (101 * i + 1) * K37 = 101 * i * K37 + K37 := Nat.succ_mul ..
        omega
      have hin := weighed_inner m hm ps (ps.length : Int) (i : Int) p.2.2.2 hyq.c hyq.n false [] (z + tare6 p) (101 * i + 1) (by omega) hb (List.length ps + (Int.natAbs (ps.length : Int) + (Int.natAbs (i : Int) + (List.length p.2.2.2 + (Int.natAbs ((List.length p.2.2.2 : Int)) + (Int.natAbs (0 : Int) + (List.length ([] : List Int) + (List.length (W (z + tare6 p)).2 + (List.length (m.map toM) + 2))))))))) (by omega)
      rcases hin with ⟨z', k1, k2, k3⟩ | ⟨k1, q, k3⟩
      · rw [k1] at h1
        rw [k3, joinB_inr]
        dsimp only
        rw [w64_id (by omega) (by omega)]
        refine ih _ ⟨z', rfl, h1, ?_⟩
        have := hyq.n
        exact Nat.le_trans k2 (Nat.mul_le_mul_right _ (by omega))
      · rw [k1] at h1
        rw [k3, joinB_inl]
        exact .inr ⟨h1.symm, q, rfl⟩
    · rintro _ again ⟨z, rfl, h1, h2⟩
      unfold parcel_weighed_b9
      dsimp only
      rw [bif_neg (by omega)]
      rw [List.drop_length] at h1
      exact .inl ⟨z, h1.symm, K37_Le (by omega) h2, rfl⟩
  rcases loop (List.length ps + (Int.natAbs ((List.length ps : Int)) + (Int.natAbs (0 : Int) + (List.length ([] : List Int) + (List.length (W 0).2 + (List.length (m.map toM) + 2)))))) (by omega) with ⟨z, h1, h2, h3⟩ | ⟨h1, q, h3⟩
  · exact .inl ⟨z, h1, h2, by rw [h3, joinB_inr]⟩
  · exact .inr ⟨h1, q, by rw [h3, joinB_inl]⟩

end Go.Md

namespace Go.Md
open Go.Dn

theorem find_idx (l : List D_api_Mass) (p : D_api_Mass → Bool) : (match l.findIdx? p with | some k => l[k]? | none => none) = l.find? p := by
  induction l with
  | nil => rfl
  | cons x r ih =>
    rw [List.findIdx?_cons, List.find?_cons]
    cases hp : p x with
    | true => simp
    | false =>
      simp only [Bool.false_eq_true, if_false]
      rw [← ih]
      cases r.findIdx? p <;> simp

theorem r10_massOf_eq (l : List D_api_Mass) (a u : List UInt8) (hl : l.length ≤ 500) : r10_massOf l a u = some (ixI (l.findIdx? (mEq a u)), ()) := by
  unfold r10_massOf
  have loop : ∀ f, l.length < f → iter f ((a, u, l, (l.length : Int), (0 : Int), ()) : r10_massOf_x2) r10_massOf_b2 = (if (l.findIdx? (mEq a u)).isSome = true then some (Sum.inl (ixI (l.findIdx? (mEq a u)), ())) else some (Sum.inr ())) := by
    intro f hf
    refine iter_post (Inv := fun i X => X = ((a, u, l, (l.length : Int), (i : Int), ()) : r10_massOf_x2) ∧ ∀ j x, j < i → l[j]? = some x → mEq a u x = false) l.length
      (fun r => r = (if (l.findIdx? (mEq a u)).isSome = true then some (Sum.inl (ixI (l.findIdx? (mEq a u)), ())) else some (Sum.inr ()))) ?_ ?_ f 0 _ ⟨rfl, fun _ _ h => absurd h (Nat.not_lt_zero _)⟩ (by omega) (by omega)
    · rintro i _ again hi ⟨rfl, hb⟩ ih
      unfold r10_massOf_b2
      dsimp only
      have hy : l[i]? = some l[i] := getElem?_of hi
      generalize hyi : l[i] = y at hy
      rw [bif_pos (by omega), idx_nat, hy, Option.bind_some, w64_id (by omega) (by omega)]
      have next : mEq a u y = false → again (a, u, l, (l.length : Int), (i : Int) + 1, ()) = (if (l.findIdx? (mEq a u)).isSome = true then some (Sum.inl (ixI (l.findIdx? (mEq a u)), ())) else some (Sum.inr ())) := fun hm => by
        refine ih _ ⟨rfl, fun j x hj hx => ?_⟩
        rcases Nat.lt_succ_iff_lt_or_eq.1 hj with h | h
        · exact hb j x h hx
        · subst h; rw [hy] at hx; cases hx; exact hm
      cases h1 : (y.1 == a) with
      | false => rw [cond_false]; exact next (by simp [mEq, h1])
      | true =>
        rw [cond_true]
        cases h2 : (y.2.1 == u) with
        | false => rw [cond_false]; exact next (by simp [mEq, h2])
        | true =>
          rw [cond_true]
          have : l.findIdx? (mEq a u) = some i := by
            rw [List.findIdx?_eq_some_iff_getElem]
            refine ⟨hi, by rw [hyi]; simp [mEq, h1, h2], fun j hj => ?_⟩
            have := hb j l[j] hj (List.getElem?_eq_getElem _)
            simp [this]
          rw [this]; rfl
    · rintro _ again ⟨rfl, hb⟩
      unfold r10_massOf_b2
      dsimp only
      rw [bif_neg (by omega)]
      have : l.findIdx? (mEq a u) = none := by
        rw [List.findIdx?_eq_none_iff]
        intro x hx
        obtain ⟨j, hj⟩ := List.mem_iff_getElem?.1 hx
        exact hb j x (List.getElem?_eq_some_iff.1 hj).1 hj
      rw [this]; rfl
  rw [loop _ (by omega)]
  cases l.findIdx? (mEq a u) <;> rfl

theorem mLook_idx (l : List D_api_Mass) (a u : List UInt8) : (l.findIdx? (mEq a u) = none ∧ mLook l a u = none) ∨ ∃ k x, l.findIdx? (mEq a u) = some k ∧ l[k]? = some x ∧ mLook l a u = some x.2.2 := by
  have h := find_idx l (mEq a u)
  unfold mLook
  cases hk : l.findIdx? (mEq a u) with
  | none => rw [hk] at h; rw [← h]; exact .inl ⟨rfl, rfl⟩
  | some k =>
    rw [hk] at h
    have hlt : k < l.length := by
      rw [List.findIdx?_eq_some_iff_getElem] at hk
      exact hk.1
    refine .inr ⟨k, l[k], rfl, getElem?_of hlt, ?_⟩
    rw [← h]
    simp [getElem?_of hlt]

theorem pow_split {a b : Int} (ha : 0 ≤ a ∧ a ≤ 3) (hb : 0 ≤ b ∧ b ≤ 3) : (10 : Int) ^ (9 - a - b).toNat = 10 ^ (3 - a).toNat * 10 ^ (3 - b).toNat * 1000 := by
  rw [← Int.pow_add, show (1000 : Int) = 10 ^ 3 from rfl, ← Int.pow_add, show (3 - a).toNat + (3 - b).toNat + 3 = (9 - a - b).toNat by omega]

theorem weigh_inner (m : List D_api_Mass) (hml : m.length ≤ 500) (hm : ∀ x ∈ m, qOk x.2.2 true = true) (gp : List D_api_Parcel) (gl : List Int) (g1 g2 : Int) (cs : List D_api_Content) (hcs : ∀ c ∈ cs, QOk c.2.2.2) (hl : cs.length ≤ 100) (b1 : Bool) (b2 : List Int) (n : Int) (C : Nat) (hC : C ≤ 90000) (hn : n.natAbs ≤ C * K37) (f : Nat) (hf : cs.length < f) :
    (∃ z, wC m cs n = some z ∧ z.natAbs ≤ (C + cs.length) * K37 ∧ iter f ((gp, m, gl, g1, g2, cs, (cs.length : Int), (0 : Int), b1, b2, (N (n * 1000)).1, (N (n * 1000)).2, ()) : r10_weigh_x7) r10_weigh_b7 = some (Sum.inr (gp, m, gl, g1, g2, b1, b2, (N (z * 1000)).1, (N (z * 1000)).2, ()))) ∨
    (wC m cs n = none ∧ ∃ q, iter f ((gp, m, gl, g1, g2, cs, (cs.length : Int), (0 : Int), b1, b2, (N (n * 1000)).1, (N (n * 1000)).2, ()) : r10_weigh_x7) r10_weigh_b7 = some (Sum.inl (Sum.inl (q, false, ())))) := by
  refine iter_post (Inv := fun i X => ∃ z : Int, X = ((gp, m, gl, g1, g2, cs, (cs.length : Int), (i : Int), b1, b2, (N (z * 1000)).1, (N (z * 1000)).2, ()) : r10_weigh_x7) ∧ wC m (cs.drop i) z = wC m cs n ∧ z.natAbs ≤ (C + i) * K37) cs.length
    (fun r => (∃ z, wC m cs n = some z ∧ z.natAbs ≤ (C + cs.length) * K37 ∧ r = some (Sum.inr (gp, m, gl, g1, g2, b1, b2, (N (z * 1000)).1, (N (z * 1000)).2, ()))) ∨ (wC m cs n = none ∧ ∃ q, r = some (Sum.inl (Sum.inl (q, false, ()))))) ?_ ?_ f 0 _ ⟨n, rfl, rfl, by simpa using hn⟩ (by omega) (by omega)
  · rintro i _ again hi ⟨z, rfl, h1, h2⟩ ih
    unfold r10_weigh_b7
    dsimp only
    have hy : cs[i]? = some cs[i] := getElem?_of hi
    have hyq := hcs _ (List.getElem_mem hi)
    have hcons := drop_get_cons hy
    generalize cs[i] = c at hy hyq hcons
    rw [hcons] at h1
    simp only [wC] at h1
    rw [bif_pos (by omega), idx_nat, hy, Option.bind_some, r10_massOf_eq m _ _ hml, Option.bind_some]
    dsimp only
    rw [ixI_neg]
    rcases mLook_idx m c.1 c.2.1 with ⟨k1, k2⟩ | ⟨k, y, k1, k2, k3⟩
    · have hcw : cW m c = none := by unfold cW; rw [k2]; rfl
      rw [hcw] at h1
      rw [k1]
      exact .inr ⟨h1.symm, _, rfl⟩
    · obtain ⟨x, hcw⟩ : ∃ x, cW m c = some x := by unfold cW; rw [k3]; exact ⟨_, rfl⟩
      rw [hcw] at h1
      obtain ⟨hx, w, hw1, hw2, hw3⟩ := cW_bound hm hyq hcw
      rw [k3] at hw1
      have hyw : y.2.2 = w := by simpa using hw1
      have d1 := hyq.dec.1; have d2 := hyq.dec.2; have d3 := hyq.pl; have e1 := hw2.dec.1; have e2 := hw2.dec.2; have e3 := hw2.pl
      rw [k1, Option.isSome_some, Bool.not_true, cond_false]
      dsimp only [ixI]
      rw [idx_nat, k2, Option.bind_some, hyw]
      have l1 := (Le.dec hyq.dec).n (by omega); have l2 := (Le.dec hw2.dec).n (by omega); have l3 := ((Le.dec hyq.dec).mul (Le.dec hw2.dec)).n (by omega)
      have l4 := ((Le.pow (9 - c.2.2.2.2 - w.2).toNat).mono (by omega : _ ≤ 9)).n (by omega)
      rw [r1_Of_eq _ (by omega) (by omega), Option.bind_some, r1_Of_eq _ (by omega) (by omega), Option.bind_some]
      dsimp only
      rw [r1_TimesOf_eq _ _ (by omega) (by omega), Option.bind_some, w64_id (n := 9 - c.2.2.2.2) (by omega) (by omega), w64_id (n := 9 - c.2.2.2.2 - w.2) (by omega) (by omega), r1_Power_eq' (by omega) (by omega), Option.bind_some]
      dsimp only
      rw [r1_TimesOf_eq _ _ (by omega) (by omega), Option.bind_some]
      dsimp only
      have ex : c.2.2.2.1 * w.1 * 10 ^ (9 - c.2.2.2.2 - w.2).toNat = x * 1000 := by
        rw [pow_split ⟨d2.1, d3⟩ ⟨e2.1, e3⟩, hw3]
        generalize (10 : Int) ^ (3 - c.2.2.2.2).toNat = p
        generalize (10 : Int) ^ (3 - w.2).toNat = q
        grind
      have hk3 : Le 3 1000 := by unfold Le; decide
      have l5 := ((K37_Le (by omega) h2).mul hk3).n (by omega)
      have l6 := (hx.mul hk3).n (by omega)
      rw [ex, show ((N (z * 1000)).1, (N (z * 1000)).2) = N (z * 1000) from rfl, r1_Plus_eq _ _ (by omega) (by omega), Option.bind_some, w64_id (by omega) (by omega)]
      refine ih _ ⟨z + x, ?_, h1, ?_⟩
      · rw [Int.add_mul]; rfl
      · have hk := hx.k37
        have : (C + (i + 1)) * K37 = (C + i) * K37 + K37 := by rw [← Nat.add_assoc, Nat.succ_mul]
        omega
  · rintro _ again ⟨z, rfl, h1, h2⟩
    unfold r10_weigh_b7
    dsimp only
    rw [bif_neg (by omega)]
    rw [List.drop_length] at h1
    exact .inl ⟨z, h1.symm, h2, rfl⟩

/-- The parcels with given numbers. -/
def pick (l : List D_api_Parcel) (L : List Nat) : List D_api_Parcel := L.filterMap fun i => l[i]?

theorem r10_weigh_eq (l : List D_api_Parcel) (L : List Nat) (hL : ∀ x ∈ L, x < l.length) (hLl : L.length ≤ 500) (hps : ∀ p ∈ l, PaOk p) (m : List D_api_Mass) (hm0 : massesF m = 0) :
    (∃ z, wP m (L.map fun i => l.getD i ([], [], (0, 0), [])) 0 = some z ∧ Le 42 z ∧ r10_weigh l m (cI L) = some (N (z * 1000), true, ())) ∨ (wP m (L.map fun i => l.getD i ([], [], (0, 0), [])) 0 = none ∧ ∃ q, r10_weigh l m (cI L) = some (q, false, ())) := by
  obtain ⟨hml, _, hm⟩ := massesF_zero hm0
  unfold r10_weigh
  generalize hps' : (L.map fun i => l.getD i ([], [], (0, 0), [])) = ps
  have hpl : ps.length = L.length := by rw [← hps', List.length_map]
  have loop : ∀ f, L.length < f → (∃ z, wP m ps 0 = some z ∧ Le 42 z ∧ iter f ((l, m, cI L, ((cI L).length : Int), (0 : Int), false, ([] : List Int), false, ([] : List Int), ()) : r10_weigh_x3) r10_weigh_b3 = some (Sum.inr (false, [], (N (z * 1000)).1, (N (z * 1000)).2, ()))) ∨
      (wP m ps 0 = none ∧ ∃ q, iter f ((l, m, cI L, ((cI L).length : Int), (0 : Int), false, ([] : List Int), false, ([] : List Int), ()) : r10_weigh_x3) r10_weigh_b3 = some (Sum.inl (q, false, ()))) := by
    intro f hf
    refine iter_post (Inv := fun i X => ∃ z : Int, X = ((l, m, cI L, ((cI L).length : Int), (i : Int), false, ([] : List Int), (N (z * 1000)).1, (N (z * 1000)).2, ()) : r10_weigh_x3) ∧ wP m (ps.drop i) z = wP m ps 0 ∧ z.natAbs ≤ (101 * i) * K37) L.length
      (fun r => (∃ z, wP m ps 0 = some z ∧ Le 42 z ∧ r = some (Sum.inr (false, [], (N (z * 1000)).1, (N (z * 1000)).2, ()))) ∨ (wP m ps 0 = none ∧ ∃ q, r = some (Sum.inl (q, false, ())))) ?_ ?_ f 0 _ ⟨0, rfl, rfl, by simp⟩ (by omega) (by omega)
    · rintro i _ again hi ⟨z, rfl, h1, h2⟩ ih
      unfold r10_weigh_b3
      dsimp only
      have hyL : L[i]? = some L[i] := getElem?_of hi
      have hlt := hL _ (List.getElem_mem hi)
      have hpsi : ps[i]? = some (l.getD L[i] ([], [], (0, 0), [])) := by rw [← hps', List.getElem?_map, hyL]; rfl
      generalize L[i] = k at hyL hlt hpsi
      have hk : l[k]? = some l[k] := getElem?_of hlt
      have hyq := hps _ (List.getElem_mem hlt)
      have hget : l.getD k ([], [], (0, 0), []) = l[k] := by rw [List.getD_eq_getElem?_getD, hk]; rfl
      rw [hget] at hpsi
      have hcons := drop_get_cons hpsi
      have hy' : (cI L)[i]? = some (k : Int) := by unfold cI; rw [List.getElem?_map, hyL]; rfl
      generalize l[k] = p at hk hyq hcons
      rw [hcons] at h1
      simp only [wP] at h1
      have d1 := hyq.t.dec.1; have d2 := hyq.t.dec.2; have d3 := hyq.t.pl
      have ht : Le 21 (tare6 p) := scaled_Le hyq.t 6 (by omega)
      have hk3 : Le 3 1000 := by unfold Le; decide
      have et : p.2.2.1.1 * 10 ^ ((9 : Int) - p.2.2.1.2).toNat = tare6 p * 1000 := by
        unfold tare6
        rw [Int.mul_assoc, show (1000 : Int) = 10 ^ 3 from rfl, ← Int.pow_add, show (6 - p.2.2.1.2).toNat + 3 = (9 - p.2.2.1.2).toNat by omega]
      have l5 := ((K37_Le (by omega) h2).mul hk3).n (by omega)
      have l6 := (ht.mul hk3).n (by omega)
      rw [bif_pos (by rw [cI_len]; omega), idx_nat, hy', Option.bind_some, idx_nat, hk, Option.bind_some]
      unfold r10_units
      rw [r1_At_eq' _ _ hyq.t.dec (by omega) (by omega), Option.bind_some, Option.bind_some, et]
      dsimp only
      rw [show ((N (z * 1000)).1, (N (z * 1000)).2) = N (z * 1000) from rfl, r1_Plus_eq _ _ (by omega) (by omega), Option.bind_some, Option.bind_some, ← Int.add_mul]
      dsimp only
      have hkk := (ht.mono (show 21 ≤ 36 by omega)).k37
      have hb : (z + tare6 p).natAbs ≤ (101 * i + 1) * K37 := by
        have : (101 * i + 1) * K37 = 101 * i * K37 + K37 := Nat.succ_mul ..
        omega
      have hin := weigh_inner m hml hm l (cI L) ((cI L).length : Int) (i : Int) p.2.2.2 hyq.c hyq.n false [] (z + tare6 p) (101 * i + 1) (by omega) hb (List.length l + (List.length m + (List.length (cI L) + (Int.natAbs ((cI L).length : Int) + (Int.natAbs (i : Int) + (List.length p.2.2.2 + (Int.natAbs ((List.length p.2.2.2 : Int)) + (Int.natAbs (0 : Int) + (List.length ([] : List Int) + (List.length (N ((z + tare6 p) * 1000)).2 + 2)))))))))) (by omega)
      rcases hin with ⟨z', k1, k2, k3⟩ | ⟨k1, q, k3⟩
      · rw [k1] at h1
        rw [k3, joinB_inr]
        dsimp only
        rw [w64_id (by omega) (by omega)]
        refine ih _ ⟨z', rfl, h1, ?_⟩
        have := hyq.n
        exact Nat.le_trans k2 (Nat.mul_le_mul_right _ (by omega))
      · rw [k1] at h1
        rw [k3, joinB_inl]
        exact .inr ⟨h1.symm, q, rfl⟩
    · rintro _ again ⟨z, rfl, h1, h2⟩
      unfold r10_weigh_b3
      dsimp only
      rw [bif_neg (by rw [cI_len]; omega)]
      rw [show L.length = ps.length from hpl.symm, List.drop_length] at h1
      exact .inl ⟨z, h1.symm, K37_Le (by omega) h2, rfl⟩
  rcases loop (List.length l + (List.length m + (List.length (cI L) + (Int.natAbs ((List.length (cI L) : Int)) + (Int.natAbs (0 : Int) + (List.length ([] : List Int) + (List.length ([] : List Int) + 2))))))) (by rw [cI_len]; omega) with ⟨z, h1, h2, h3⟩ | ⟨h1, q, h3⟩
  · exact .inl ⟨z, h1, h2, by rw [h3, joinB_inr]⟩
  · exact .inr ⟨h1, q, by rw [h3, joinB_inl]⟩

theorem few_nine (z : Int) : few 9 (z * 1000) = few 6 z := by
  rw [few, if_pos (by omega), show z * 1000 / 10 = z * 100 by omega, few, if_pos (by omega), show z * 100 / 10 = z * 10 by omega, few, if_pos (by omega), show z * 10 / 10 = z by omega]

theorem r10_told_eq (z : Int) (hz : Le 300 z) : r10_told (N z) = some (if (few 9 z).1.natAbs ≤ 1000000000000000 then (((few 9 z).1, ((few 9 z).2 : Int)), 0, ()) else ((0, 0), 1, ())) := by
  unfold r10_told
  have loop : ∀ (p f : Nat) (y : Int), p < f → p ≤ 9 → Le 300 y → iter f (((p : Int), (N y).1, (N y).2, (0 : Int), (0 : Int), ()) : r10_told_x2) r10_told_b2 = some (Sum.inr (((few p y).2 : Int), (N (few p y).1).1, (N (few p y).1).2, 0, 0, ())) := by
    intro p
    induction p with
    | zero =>
      intro f y hf _ hy
      obtain ⟨f, rfl⟩ : ∃ g, f = g + 1 := ⟨f - 1, by omega⟩
      rfl
    | succ p ih =>
      intro f y hf hp hy
      obtain ⟨f, rfl⟩ : ∃ g, f = g + 1 := ⟨f - 1, by omega⟩
      show r10_told_b2 _ (fun y => iter f y r10_told_b2) = _
      generalize hag : (fun y => iter f y r10_told_b2) = again
      unfold r10_told_b2
      dsimp only
      have e0 : (false, (N y).2) = N (y.natAbs : Int) := by rw [N_nat]; rfl
      have h10 : Le 2 ((10 : Nat) : Int) := by unfold Le; decide
      rw [bif_pos (by omega), r1_Of_eq 10 (by omega) (by omega), Option.bind_some]
      dsimp only
      rw [e0, show (N 10) = N ((10 : Nat) : Int) from rfl, r1_DivMod_eq y.natAbs 10 (by omega) ((Le.nat (k := 300) hy).mono (by omega)) (h10.mono (by omega)), Option.bind_some]
      dsimp only
      rw [r1_Sign_eq, Option.bind_some]
      dsimp only
      by_cases hm : y % 10 = 0
      · have hd : y.natAbs % 10 = 0 := by omega
        rw [hd, show ((Int.sign ((0 : Nat) : Int)) != 0) = false from rfl, cond_false]
        have hf' : few (p + 1) y = few p (y / 10) := by rw [few, if_pos hm]
        rw [hf']
        have hyd : Le 300 (y / 10) := by unfold Le at *; omega
        have hih := ih f (y / 10) (by omega) (by omega) hyd
        have e2 : (N ((y.natAbs / 10 : Nat) : Int)).2 = (N (y / 10)).2 := by
          show dg6 _ = dg6 _
          congr 1; omega
        rw [w64_id (by omega) (by omega), show ((p + 1 : Nat) : Int) - 1 = (p : Int) by omega, e2]
        by_cases hn : y < 0
        · rw [show (N y).1 = true from decide_eq_true hn, cond_true, r1_Sign_eq, Option.bind_some]
          dsimp only
          have e3 : ((Int.sign ((y.natAbs / 10 : Nat) : Int)) != 0) = (N (y / 10)).1 := by
            show _ = decide (y / 10 < 0)
            rw [decide_eq_true (by omega)]
            rw [Int.sign_eq_one_of_pos (by omega)]; rfl
          rw [e3, ← hag]
          exact hih
        · rw [show (N y).1 = false from decide_eq_false hn, cond_false]
          have e3 : (N (y / 10)).1 = false := decide_eq_false (by omega)
          rw [← hag]
          rw [e3] at hih
          exact hih
      · have hd : ¬ y.natAbs % 10 = 0 := by omega
        have hs : ((Int.sign ((y.natAbs % 10 : Nat) : Int)) != 0) = true := by
          rw [Int.sign_eq_one_of_pos (by omega)]; rfl
        rw [hs, cond_true]
        have hf' : few (p + 1) y = (y, p + 1) := by rw [few, if_neg hm]
        rw [hf']
  have h9 := loop 9 (Int.natAbs (9 : Int) + (List.length (N z).2 + (Int.natAbs (0 : Int) + (Int.natAbs (0 : Int) + 2)))) z (by omega) (by omega) hz
  rw [show ((9 : Nat) : Int) = 9 from rfl] at h9
  rw [h9, joinB_inr]
  dsimp only
  have hfz : Le 300 (few 9 z).1 := Nat.le_trans (few_val 9 z).2.2 hz
  rw [show ((N (few 9 z).1).1, (N (few 9 z).1).2) = N (few 9 z).1 from rfl, r1_Small_eq _ _ (by omega) (by omega) (hfz.mono (by omega)), Option.bind_some]
  by_cases h : ((few 9 z).1.natAbs : Int) ≤ 1000000000000000
  · rw [if_pos h, if_pos (by omega)]; rfl
  · rw [if_neg h, if_neg (by omega)]; rfl

end Go.Md

namespace Go.Md
open Go.Dn

def selB (B : Nat → Bool) (n : Nat) : List Nat := (List.range n).filter B
theorem selB_len (B : Nat → Bool) (n : Nat) : (selB B n).length ≤ n := by
  unfold selB
  exact Nat.le_trans (List.length_filter_le _ _) (by simp)
theorem selB_lt {B : Nat → Bool} {n x : Nat} (h : x ∈ selB B n) : x < n := by
  unfold selB at h
  exact List.mem_range.1 (List.mem_filter.1 h).1
theorem selB_succ (B : Nat → Bool) (n : Nat) : selB B (n + 1) = if B n = true then selB B n ++ [n] else selB B n := by
  unfold selB
  rw [List.range_succ, List.filter_append]
  by_cases h : B n = true
  · rw [if_pos h]; simp [h]
  · rw [if_neg h]; simp [h]

theorem labelFault_true (a : D_api_Advice) (hf : FitA a) (h : advF a = 0) (t : List UInt8) : parcel_labelFault a t true = some (if t = [] ∨ (ixOf (·.1) t a.2.2.2).isSome = true then 0 else 9, ()) := by
  unfold parcel_labelFault
  rw [parcel_CheckAdvice_eq a hf, Option.bind_some]
  dsimp only
  have hok := advF_zero h
  have := hok.len
  obtain ⟨q, h1, h2⟩ := parcel_parcelAt_eq a t (by omega) hok.asc
  rw [h, show ((0 : Int) != 0) = false from rfl, cond_false, h1, Option.bind_some]
  dsimp only
  cases (ixOf (fun x : D_api_Parcel => x.1) t a.2.2.2).isSome with
  | true => simp
  | false => cases t <;> simp

theorem belongs_some {a : D_api_Advice} (h : AdvOk a) {i T : Nat} (hi : i < a.2.2.2.length) {t : List UInt8} (ht : t ≠ []) (hT : ixOf (·.1) t a.2.2.2 = some T) : parcel_belongs a (i : Int) t = some (decide (T ∈ i :: ancP a.2.2.2 i), ()) := by
  unfold parcel_belongs
  have hy : a.2.2.2[i]? = some a.2.2.2[i] := getElem?_of hi
  have hlab := lab_eq h.asc hT hi
  rw [lab_get hy] at hlab
  rw [show (t == []) = false by cases t <;> simp_all, cond_false, idx_nat, hy, Option.bind_some, parcel_isWithin_eq h hi hT, Option.bind_some]
  by_cases e : a.2.2.2[i].1 = t
  · have := hlab.1 e
    subst this
    rw [show (a.2.2.2[i].1 == t) = true by simpa using e, cond_true]
    simp
  · have hne : ¬ i = T := fun h => e (hlab.2 h)
    rw [show (a.2.2.2[i].1 == t) = false by simpa using e, cond_false]
    have hne' : ¬ T = i := fun h => hne h.symm
    simp [hne']

theorem own_loop (a : D_api_Advice) (m : List D_api_Mass) (t : List UInt8) (B : Nat → Bool) (hl : a.2.2.2.length ≤ 500) (hB : ∀ i, i < a.2.2.2.length → parcel_belongs a (i : Int) t = some (B i, ())) (f : Nat) (hf : a.2.2.2.length < f) :
    iter f ((m, t, ([] : List D_api_Parcel), a.2.2.2, (a.2.2.2.length : Int), (0 : Int), a.1, a.2.1, a.2.2.1, a.2.2.2, (0 : Int), (0 : Int), ()) : parcel_Weight_x12) parcel_Weight_b12 = some (Sum.inr (m, (selB B a.2.2.2.length).map (fun i => a.2.2.2.getD i ([], [], (0, 0), [])), 0, 0, ())) := by
  obtain ⟨a1, a2, a3, l⟩ := a
  dsimp only at *
  refine iter_post (Inv := fun i X => X = ((m, t, (selB B i).map (fun i => l.getD i ([], [], (0, 0), [])), l, (l.length : Int), (i : Int), a1, a2, a3, l, (0 : Int), (0 : Int), ()) : parcel_Weight_x12)) l.length (fun r => r = some (Sum.inr (m, (selB B l.length).map (fun i => l.getD i ([], [], (0, 0), [])), 0, 0, ()))) ?_ ?_ f 0 _ rfl (by omega) (by omega)
  · rintro i _ again hi rfl ih
    unfold parcel_Weight_b12
    dsimp only
    have hy : l[i]? = some l[i] := getElem?_of hi
    have hget : l.getD i ([], [], (0, 0), []) = l[i] := by rw [List.getD_eq_getElem?_getD, hy]; rfl
    have hwl := selB_len B i
    rw [bif_pos (by omega), idx_nat, hy, Option.bind_some, hB i hi, Option.bind_some, w64_id (by omega) (by omega)]
    dsimp only
    have hs := selB_succ B i
    cases hb : B i with
    | true =>
      rw [cond_true, chk_pos (chk_app (by rw [List.length_map]; omega) (by rw [List.length_map]; omega))]
      refine ih _ ?_
      rw [hs, if_pos hb, List.map_append, List.map_singleton, hget]
      rfl
    | false =>
      rw [cond_false]
      refine ih _ ?_
      rw [hs, if_neg (by rw [hb]; simp)]
      rfl
  · rintro _ again rfl
    unfold parcel_Weight_b12
    dsimp only
    rw [bif_neg (by omega)]

theorem r10_inside_nil (l : List D_api_Parcel) (hl : l.length ≤ 500) (h1 : Nest1 l) (hn : NoLoop l) : r10_inside l [] = some (cI (selB (fun _ => true) l.length), ()) := by
  unfold r10_inside
  have loop : ∀ f, l.length < f → iter f ((l, ([] : List UInt8), ([] : List Int), (l.length : Int), (0 : Int), ()) : r10_inside_x3) r10_inside_b3 = some (Sum.inr (cI (selB (fun _ => true) l.length), ())) := by
    intro f hf
    refine iter_post (Inv := fun i X => X = ((l, ([] : List UInt8), cI (selB (fun _ => true) i), (l.length : Int), (i : Int), ()) : r10_inside_x3)) l.length (fun r => r = some (Sum.inr (cI (selB (fun _ => true) l.length), ()))) ?_ ?_ f 0 _ rfl (by omega) (by omega)
    · rintro i _ again hi rfl ih
      unfold r10_inside_b3
      dsimp only
      have hil := selB_len (fun _ => true) i
      rw [bif_pos (by omega), r10_up_ok l hl h1 hn i hi, Option.bind_some, show (([] : List UInt8) == []) = true from rfl, cond_true, w64_id (by omega) (by omega), chk_pos (chk_app (by rw [cI_len]; omega) (by rw [cI_len]; omega))]
      refine ih _ ?_
      rw [selB_succ, if_pos rfl]
      simp [cI]
    · rintro _ again rfl
      unfold r10_inside_b3
      dsimp only
      rw [bif_neg (by omega)]
  rw [loop _ (by omega), joinB_inr]

theorem contsF_zero {l : List D_api_Content} (h : contsF l = 0) : l.length ≤ 100 ∧ ∀ c ∈ l, QOk c.2.2.2 := by
  unfold contsF at h
  split at h
  · omega
  rename_i h1
  refine ⟨by omega, fun c hc => ?_⟩
  obtain ⟨i, hi⟩ := List.mem_iff_getElem?.1 hc
  have := scanF_zero h i c hi
  unfold contF at this
  split at this
  · omega
  split at this
  · omega
  split at this
  · omega
  split at this
  · omega
  split at this
  · rename_i hq; exact qOk_ok hq
  · omega
theorem paOk_of {a : D_api_Advice} (h : advF a = 0) : ∀ p ∈ a.2.2.2, PaOk p := by
  unfold advF at h
  split at h
  · omega
  split at h
  · omega
  split at h
  · omega
  split at h
  · omega
  split at h
  · omega
  have h3 : scanF (parcF a.2.2.2) 0 a.2.2.2 = 0 := by omega
  intro p hp
  obtain ⟨i, hi⟩ := List.mem_iff_getElem?.1 hp
  have := scanF_zero h3 i p hi
  unfold parcF at this
  split at this
  · omega
  split at this
  · omega
  split at this
  · omega
  rename_i hq
  have hc := contsF_zero this
  exact ⟨qOk_ok (z := true) (by simpa using hq), hc.1, hc.2⟩

def tell (r : Option Int) : D_api_Decimal × Int × Unit := match r with
  | some z => if (few 6 z).1.natAbs ≤ 1000000000000000 then (((few 6 z).1, ((few 6 z).2 : Int)), 0, ()) else ((0, 0), 1, ())
  | none => ((0, 0), 5, ())

theorem tail_parcel (ps : List D_api_Parcel) (hps : ∀ p ∈ ps, PaOk p) (hl : ps.length ≤ 500) (m : List D_api_Mass) (hm0 : massesF m = 0) :
    (Option.bind (parcel_weighed ps m) fun r8 =>
        bif !r8.2.1 then
          some ((0, 0), 5, ())
        else
          Option.bind (amount_Fewest r8.1 6) fun r9 =>
          some (r9.1, r9.2.1, ())) = some (tell (wP m ps 0)) := by
  rcases parcel_weighed_eq ps hps hl m hm0 with ⟨z, h1, h2, h3⟩ | ⟨h1, q, h3⟩
  · rw [h3, h1, Option.bind_some]
    dsimp only
    rw [Bool.not_true, cond_false, show (6 : Int) = ((6 : Nat) : Int) from rfl, amount_Fewest_eq z (h2.w (by omega)) 6 (by omega), Option.bind_some]
    unfold tell
    dsimp only
  · rw [h3, h1, Option.bind_some]; rfl
theorem tail_r10 (l : List D_api_Parcel) (L : List Nat) (hL : ∀ x ∈ L, x < l.length) (hLl : L.length ≤ 500) (hps : ∀ p ∈ l, PaOk p) (m : List D_api_Mass) (hm0 : massesF m = 0) :
    (Option.bind (r10_weigh l m (cI L)) fun r8 =>
        bif !r8.2.1 then
          some ((0, 0), 5, ())
        else
          Option.bind (r10_told r8.1) fun r9 =>
          some (r9.1, r9.2.1, ())) = some (tell (wP m (L.map fun i => l.getD i ([], [], (0, 0), [])) 0)) := by
  rcases r10_weigh_eq l L hL hLl hps m hm0 with ⟨z, h1, h2, h3⟩ | ⟨h1, q, h3⟩
  · rw [h3, h1, Option.bind_some]
    dsimp only
    have hk3 : Le 3 1000 := by unfold Le; decide
    rw [Bool.not_true, cond_false, r10_told_eq _ ((h2.mul hk3).mono (by omega)), Option.bind_some, few_nine]
    unfold tell
    dsimp only
  · rw [h3, h1, Option.bind_some]; rfl

def lot (l : List D_api_Parcel) (B : Nat → Bool) : List D_api_Parcel := (selB B l.length).map fun i => l.getD i ([], [], (0, 0), [])
theorem lot_ok {l : List D_api_Parcel} {B : Nat → Bool} (hps : ∀ p ∈ l, PaOk p) : ∀ p ∈ lot l B, PaOk p := by
  intro p hp
  unfold lot at hp
  obtain ⟨i, hi, rfl⟩ := List.mem_map.1 hp
  have hlt := selB_lt hi
  rw [List.getD_eq_getElem?_getD, getElem?_of hlt]
  exact hps _ (List.getElem_mem hlt)
theorem lot_len (l : List D_api_Parcel) (B : Nat → Bool) : (lot l B).length ≤ l.length := by
  unfold lot
  rw [List.length_map]
  exact selB_len ..

/-- The numbers of the parcels that belong. -/
def belB (l : List D_api_Parcel) (t : List UInt8) (i : Nat) : Bool := if t = [] then true else match ixOf (·.1) t l with
  | some T => decide (T ∈ i :: ancP l i)
  | none => false
noncomputable def weightF (a : D_api_Advice) (m : List D_api_Mass) (t : List UInt8) : D_api_Decimal × Int × Unit :=
  if advF a ≠ 0 then ((0, 0), advF a, ()) else if massesF m ≠ 0 then ((0, 0), massesF m, ())
  else if t = [] ∨ (ixOf (·.1) t a.2.2.2).isSome = true then tell (wP m (lot a.2.2.2 (belB a.2.2.2 t)) 0) else ((0, 0), 9, ())

theorem parcel_Weight_eq (a : D_api_Advice) (hf : FitA a) (m : List D_api_Mass) (t : List UInt8) : parcel_Weight a m t = some (weightF a m t) := by
  unfold parcel_Weight weightF
  rw [parcel_CheckAdvice_eq a hf, Option.bind_some, parcel_CheckMasses_eq, Option.bind_some]
  dsimp only
  by_cases h : advF a = 0
  · by_cases hm : massesF m = 0
    · rw [labelFault_true a hf h t, Option.bind_some]
      dsimp only
      rw [h, hm, show ((0 : Int) != 0) = false from rfl, cond_false, cond_false, if_neg (show ¬ ((0 : Int) ≠ 0) by simp), if_neg (show ¬ ((0 : Int) ≠ 0) by simp)]
      have hok := advF_zero h
      have hl := hok.len
      by_cases ht : t = [] ∨ (ixOf (fun x : D_api_Parcel => x.1) t a.2.2.2).isSome = true
      · rw [if_pos ht, if_pos ht, show ((0 : Int) != 0) = false from rfl, cond_false]
        have hB : ∀ i, i < a.2.2.2.length → parcel_belongs a (i : Int) t = some (belB a.2.2.2 t i, ()) := fun i hi => by
          by_cases h0 : t = []
          · subst h0; rfl
          · cases hT : ixOf (fun x : D_api_Parcel => x.1) t a.2.2.2 with
            | none => rw [hT] at ht; simp [h0] at ht
            | some T => rw [belongs_some hok hi h0 hT]; unfold belB; rw [if_neg h0, hT]
        rw [own_loop a m t (belB a.2.2.2 t) hl hB _ (by omega), joinB_inr]
        dsimp only
        exact tail_parcel (lot a.2.2.2 (belB a.2.2.2 t)) (lot_ok (paOk_of h)) (Nat.le_trans (lot_len ..) hl) m hm
      · rw [if_neg ht, if_neg ht]; rfl
    · rw [h, show ((0 : Int) != 0) = false from rfl, cond_false, show (massesF m != 0) = true by simpa using hm, cond_true, if_neg (show ¬ ((0 : Int) ≠ 0) by simp), if_pos hm]
  · rw [show (advF a != 0) = true by simpa using h, cond_true, if_pos h]

theorem r10_Weight_eq (a : D_api_Advice) (hf : FitA a) (m : List D_api_Mass) (t : List UInt8) : r10_Weight a m t = some (weightF a m t) := by
  unfold r10_Weight weightF
  rw [r10_CheckAdvice_eq a hf, Option.bind_some, r10_CheckMasses_eq, Option.bind_some]
  dsimp only
  by_cases h : advF a = 0
  · by_cases hm : massesF m = 0
    · rw [h, hm, show ((0 : Int) != 0) = false from rfl, cond_false, cond_false, if_neg (show ¬ ((0 : Int) ≠ 0) by simp), if_neg (show ¬ ((0 : Int) ≠ 0) by simp)]
      have hok := advF_zero h
      have hl := hok.len
      have hend := fun B => tail_r10 a.2.2.2 (selB B a.2.2.2.length) (fun _ => selB_lt) (Nat.le_trans (selB_len ..) hl) (paOk_of h) m hm
      by_cases h0 : t = []
      · subst h0
        have hb : belB a.2.2.2 [] = fun _ => true := by funext i; rfl
        rw [if_pos (.inl rfl), show (!(([] : List UInt8) == [])) = false from rfl, cond_false, r10_inside_nil a.2.2.2 hl hok.n1 hok.nl, Option.bind_some, hb]
        exact hend _
      · rw [show (!(t == [])) = true by cases t <;> simp_all, cond_true, r10_parcelOf_eq _ _ (by omega), Option.bind_some]
        dsimp only
        rw [ixI_neg]
        cases hT : ixOf (fun x : D_api_Parcel => x.1) t a.2.2.2 with
        | none => rw [if_neg (by simp [h0])]; rfl
        | some T =>
          have hb : belB a.2.2.2 t = fun i => decide (T ∈ i :: ancP a.2.2.2 i) := by
            funext i; unfold belB; rw [if_neg h0, hT]
          rw [if_pos (.inr rfl), Option.isSome_some, Bool.not_true, cond_false, r10_inside_eq a.2.2.2 hl hok.n1 hok.nl t h0 T hT, Option.bind_some, hb]
          exact hend _
    · rw [h, show ((0 : Int) != 0) = false from rfl, cond_false, show (massesF m != 0) = true by simpa using hm, cond_true, if_neg (show ¬ ((0 : Int) ≠ 0) by simp), if_pos hm]
  · rw [show (advF a != 0) = true by simpa using h, cond_true, if_pos h]

/-- The plain law. -/
theorem weightsMatchSpec (a : D_api_Advice) (m : List D_api_Mass) (t : List UInt8) (hf : FitA a) : l10_ParcelWeightsMatchSpec a m t = some (true, ()) := by
  unfold l10_ParcelWeightsMatchSpec
  rw [parcel_Weight_eq a hf m t, r10_Weight_eq a hf m t, parcel_CheckMasses_eq, r10_CheckMasses_eq, l10_awake_k]
  simp

end Go.Md
